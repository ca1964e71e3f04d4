/- The law PressLate of the chapter 09 returns true for every input, and each argument reads afterwards as it read before. No condition. -/
import Derived.Test.YtkbaaikidhbfmaaGreatB5
/- Operations whose guard hangs on an operation that was not done. No statement is proved here. -/
set_option linter.unusedVariables false
set_option linter.unusedSimpArgs false
namespace Go.Proofs.YtkbaaikidhbfmaaGreat
open Go.RowKit
theorem yielded_und {full : List Oper} {n : Nat} {fr : Slots} {A : Array Value} {j : Nat} (hA : Rep n fr A) (h : gval full fr j = some undef) : yielded full.toArray A j = none := by
  unfold gval at h
  split at h
  · rename_i o ho
    split at h
    · rename_i d hd
      have := hA.at_ d _ h
      have hb : (full.toArray[j]?).bind (·.dst) = some d := by simp [ho, hd]
      unfold yielded
      rw [hb]
      simp only [Option.bind_some]
      simp only [Array.getD_eq_getD_getElem?] at this
      cases hc : A[d]? with
      | none => rfl
      | some v => rw [hc] at this; simp only [Option.getD_some] at this; subst this; rfl
    · cases h
  · cases h
def JO2 (n : Nat) (full : List Oper) (b0 : World) (R : Rgs) (H : Hp) (o : Oper) (fr : Slots) (K : Kt) : Prop :=
  (∃ j b, o.guard = some (j, b) ∧ gval full fr j = some undef ∧ (dOk n o.dst && dfr o.op) = true ∧ K R H (putS fr o.dst undef)) ∨ JO n full b0 R H o fr K
def J2 (n : Nat) (full : List Oper) (b0 : World) (Fin : Kt) : List Oper → Kt
  | [], R, H, fr => Fin R H fr
  | o :: rest, R, H, fr => JO2 n full b0 R H o fr fun R' H' fr' => J2 n full b0 Fin rest R' H' fr'
theorem JO2.op {n : Nat} {full : List Oper} {b0 : World} {R : Rgs} {H : Hp} {o : Oper} {fr : Slots} {K : Kt} {K' : Array Value → World → Prop} (h : JO2 n full b0 R H o fr K) {w : World} (hw : SH b0 R H w) {A : Array Value} (hA : Rep n fr A)
    (hk : ∀ R' H' fr' A' w', SH b0 R' H' w' → (∀ r ∈ R, r ∈ R') → Rep n fr' A' → K R' H' fr' → K' A' w') : OpU full o K' A w := by
  rcases h with ⟨j, b, hg, hu, hd, h⟩ | h
  · rw [Bool.and_eq_true] at hd
    refine ⟨hd.2, ?_⟩
    have e : Region.wanted o (yielded full.toArray A) = false := by
      unfold Region.wanted; rw [hg]; simp only [yielded_und hA hu]; rfl
    rw [e]
    exact hk R H _ _ w hw (fun r h => h) (hA.putA undef hd.1) h
  · exact JO.op h hw hA hk
theorem J2.list {n : Nat} {D : List Deferred} {full : List Oper} {Q : Post} {b0 : World} : ∀ (l : List Oper) {R : Rgs} {H : Hp} {fr : Slots}, J2 n full b0 (JFin n D Q b0) l R H fr → ∀ w, SH b0 R H w → ∀ A, Rep n fr A → ListU full (fun A w => Q .normal ⟨A, D⟩ w) l A w
  | [], R, H, fr, h, w, hw, A, hA => (show GX n D Q b0 R H .normal fr from h).use w hw A hA
  | o :: rest, R, H, fr, h, w, hw, A, hA => JO2.op h hw hA fun R' H' fr' A' w' h1 _ h2 h3 => J2.list rest h3 w' h1 A' h2
section
variable {ρ : Option Nat} {n : Nat} {D : List Deferred} {Q : Post} {b0 : World} {R : Rgs} {H : Hp} {fr : Slots} {full : List Oper} {K : Kt} {ty : TypeId} {ps : String} {af : Array Edge}
theorem GC_region2 {id : Nat} {l : List Oper} (h : J2 n l b0 (JFin n D Q b0) l R H fr) : GC ρ n D Q b0 R H (.region id l.toArray false) fr := GC.mk fun w hw => C_region (J2.list l h w hw)
theorem J2_nil {Fin : Kt} (h : Fin R H fr) : J2 n full b0 Fin [] R H fr := h
theorem J2_op {Fin : Kt} {o : Oper} {rest : List Oper} (h : JO2 n full b0 R H o fr (J2 n full b0 Fin rest)) : J2 n full b0 Fin (o :: rest) R H fr := h
theorem JO2_of {o : Oper} (h : JO n full b0 R H o fr K) : JO2 n full b0 R H o fr K := .inr h
theorem JO2_und {dd : Option Nat} {op : Op} {j : Nat} {b : Bool} (hj : gval full fr j = some undef ∧ (dOk n dd && dfr op) = true) (h : K R H (putS fr dd undef)) : JO2 n full b0 R H ⟨dd, op, ty, ps, af, some (j, b)⟩ fr K := .inl ⟨j, b, rfl, hj.1, hj.2, h⟩
instance {o : Oper} {rest : List Oper} {Fin : Kt} : S1 (J2 n full b0 Fin (o :: rest) R H fr) (JO2 n full b0 R H o fr (J2 n full b0 Fin rest)) := ⟨J2_op⟩
instance : S1 (J2 n full b0 (JFin n D Q b0) [] R H fr) (GX n D Q b0 R H .normal fr) := ⟨fun h => J2_nil (Fin := JFin n D Q b0) (R := R) (H := H) (fr := fr) h⟩
instance {o : Oper} {l l2 : List Oper} {Fin : Kt} : S1 (J2 n full b0 Fin (List.append (o :: l) l2) R H fr) (JO2 n full b0 R H o fr (J2 n full b0 Fin (List.append l l2))) := ⟨J2_op⟩
instance {l2 : List Oper} {Fin : Kt} : S1 (J2 n full b0 Fin (List.append [] l2) R H fr) (J2 n full b0 Fin l2 R H fr) := ⟨fun h => h⟩
end
attribute [irreducible] JO2 J2
end Go.Proofs.YtkbaaikidhbfmaaGreat
/- Plain mathematics: works with another number of boxes, another force, another last hour, other cakes; the best plans. No statement is proved here. -/
set_option linter.unusedVariables false
set_option linter.unusedSimpArgs false
namespace Go.Proofs.YtkbaaikidhbfmaaGreat
open Go.RowKit
theorem fault9_mk {k : Wk} (h : OkK k) (hm : many1 k.yard.fields * many3 k.beat ≤ 6000) : fault9 k = 0 := by
  have h1 : (truths1 k.yard).length ≠ 0 := fun e => h.t1 ((truths1_nil h.y.f h.m1).1 e)
  have h3 : (truths3 k.beat).length ≠ 0 := fun e => h.t3 ((truths3_nil h.b).1 e)
  have hn : isNum k = true := by simp only [isNum, Bool.and_eq_true, decide_eq_true_eq]; exact ⟨h.boxes, h.force, h.last, h.cake⟩
  unfold fault9
  rw [if_neg (fun e => e h.f1), if_neg h1, if_neg (fun e => e h.f3), if_neg h3, if_neg (fun e => e h.len), if_neg (by rw [h.ends]; decide), if_neg (by rw [hn]; decide), if_neg (by omega)]
theorem fault9_many {k : Wk} (h : fault9 k = 0) : many1 k.yard.fields * many3 k.beat ≤ 6000 := (fault9_0 h).2.2.2.2.2.2.2
def boxK (k : Wk) (b : Int) : Wk := { k with boxes := b }
theorem fault_box {k : Wk} (h : fault9 k = 0) {b : Int} (hb : 1 ≤ b ∧ b ≤ 3) : fault9 (boxK k b) = 0 := by
  have hK := okK_of h
  have hm := fault9_many h
  exact fault9_mk (k := boxK k b) ⟨hK.f1, hK.f3, hK.y, hK.b, hK.m1, hK.m3, hK.len, hK.ends, hK.t1, hK.t3, hb, hK.force, hK.last, hK.cake⟩ hm
theorem best_box (k : Wk) (b b' : Int) : bestL (boxK k b) b' = bestL k b' := rfl
theorem best_len {k : Wk} (h : OkK k) {b : Int} (hb : 1 ≤ b) : (bestL k b).1.length = k.yard.vats.length := (mem_plans.1 (bestL_ok h hb).mem).1
theorem best_bd {k : Wk} (h : OkK k) {b : Int} (hb : 1 ≤ b) : 0 ≤ (bestL k b).2 ∧ (bestL k b).2 ≤ 2703 := by
  rw [(bestL_ok h hb).val]; exact endV_bd h _
def zeros (k : Wk) : List Int := List.replicate k.yard.vats.length 0
theorem zeros_len (k : Wk) : (zeros k).length = k.yard.vats.length := by simp [zeros]
theorem zeros_nth {k : Wk} {i : Nat} (hi : i < k.yard.vats.length) : nth (zeros k) i = 0 := by simp [zeros, nth, hi]
theorem zeros_plan {k : Wk} (h : OkK k) : planP k (zeros k) = true := by
  rw [planP_eq h.boxes, isPlan_iff, mem_plans]
  have hb := h.boxes
  exact ⟨zeros_len k, fun x hx => by rw [List.eq_of_mem_replicate hx]; omega⟩
theorem zeros_end {k : Wk} (h : OkK k) (hn : 0 < k.yard.vats.length) : endV k (zeros k) = (nth (timesV k (zeros k)) (k.yard.vats.length - 1)).2 := by
  have h1 := endV_ge h (zeros k) (i := k.yard.vats.length - 1) (by omega)
  have h2 : endV k (zeros k) ≤ (nth (timesV k (zeros k)) (k.yard.vats.length - 1)).2 := by
    have h0 := (timesV_bd h (zeros k) (i := k.yard.vats.length - 1) (by omega))
    rw [endV_leP h]
    refine ⟨by omega, fun i hi p hp => ?_⟩
    have h3 := (times_in (zeros k) hp (i := k.yard.vats.length - 1) (by omega)).2
    have h4 := atN_grow (hr := hrP k p) (l := zeros k) (v := 0) (n := i + 1) (k.yard.vats.length - 1 - i) (fun j hj => (hrP_bd h hp (by omega)).1)
    rw [show i + 1 + (k.yard.vats.length - 1 - i) = k.yard.vats.length by omega] at h4
    rw [atP_eq, zeros_nth hi]
    rw [atP_eq, zeros_nth (by omega), show k.yard.vats.length - 1 + 1 = k.yard.vats.length by omega] at h3
    omega
  omega
theorem best_one {k : Wk} (h : OkK k) (hn : 0 < k.yard.vats.length) : (bestL k 1).2 = (nth (timesV k (zeros k)) (k.yard.vats.length - 1)).2 := by
  have h1 := bestL_ok h (b := 1) (by omega)
  obtain ⟨g1, g2⟩ := mem_plans.1 h1.mem
  have e : (bestL k 1).1 = zeros k := by
    rw [zeros, ← g1]
    exact List.eq_replicate_iff.2 ⟨rfl, fun x hx => by have := g2 x hx; omega⟩
  rw [h1.val, e, zeros_end h hn]
def mostT (k : Wk) (i : Nat) : Int := endR ((mudsV k fun m => (hoursR k.force m : Int)).take i)
theorem mostT_succ {k : Wk} {i : Nat} (hi : i < k.yard.vats.length) : mostT k (i + 1) = max (mostT k i) (nth (mudsV k fun m => (hoursR k.force m : Int)) i).2 := by
  simp only [mostT]
  rw [take_snoc (by rw [mudsV_len]; exact hi)]
  simp only [endR, List.foldl_append, List.foldl_cons, List.foldl_nil]
theorem mostT_all (k : Wk) : mostT k k.yard.vats.length = mostV k := by
  simp only [mostT, mostV]; rw [List.take_of_length_le (by rw [mudsV_len]; exact Nat.le_refl _)]
end Go.Proofs.YtkbaaikidhbfmaaGreat
/- Plain mathematics: works with a greater force, with smaller cakes, with a later last hour. No statement is proved here. -/
set_option linter.unusedVariables false
set_option linter.unusedSimpArgs false
namespace Go.Proofs.YtkbaaikidhbfmaaGreat
open Go.RowKit
def forceK (k : Wk) (f : Int) : Wk := { k with force := f }
def cakeK (k : Wk) (c : Int) : Wk := { k with cake := c }
def lastK (k : Wk) (x : Int) : Wk := { k with last := x }
theorem okK_force {k : Wk} (hK : OkK k) {f : Int} (hf : 1 ≤ f ∧ f ≤ 9) : OkK (forceK k f) := ⟨hK.f1, hK.f3, hK.y, hK.b, hK.m1, hK.m3, hK.len, hK.ends, hK.t1, hK.t3, hK.boxes, hf, hK.last, hK.cake⟩
theorem okK_cake {k : Wk} (hK : OkK k) {c : Int} (hc : 1 ≤ c ∧ c ≤ 50) : OkK (cakeK k c) := ⟨hK.f1, hK.f3, hK.y, hK.b, hK.m1, hK.m3, hK.len, hK.ends, hK.t1, hK.t3, hK.boxes, hK.force, hK.last, hc⟩
theorem okK_last {k : Wk} (hK : OkK k) {x : Int} (hx : 0 ≤ x ∧ x ≤ 99) : OkK (lastK k x) := ⟨hK.f1, hK.f3, hK.y, hK.b, hK.m1, hK.m3, hK.len, hK.ends, hK.t1, hK.t3, hK.boxes, hK.force, hx, hK.cake⟩
theorem fault_force {k : Wk} (h : fault9 k = 0) {f : Int} (hf : 1 ≤ f ∧ f ≤ 9) : fault9 (forceK k f) = 0 := by
  have hm := fault9_many h
  exact fault9_mk (k := forceK k f) (okK_force (okK_of h) hf) hm
theorem fault_cake {k : Wk} (h : fault9 k = 0) {c : Int} (hc : 1 ≤ c ∧ c ≤ 50) : fault9 (cakeK k c) = 0 := by
  have hm := fault9_many h
  exact fault9_mk (k := cakeK k c) (okK_cake (okK_of h) hc) hm
theorem fault_last {k : Wk} (h : fault9 k = 0) {x : Int} (hx : 0 ≤ x ∧ x ≤ 99) : fault9 (lastK k x) = 0 := by
  have hm := fault9_many h
  exact fault9_mk (k := lastK k x) (okK_last (okK_of h) hx) hm
theorem force_hours {k : Wk} (hK : OkK k) {f : Int} (hf : k.force ≤ f ∧ f ≤ 9) {i : Nat} (hi : i < k.yard.vats.length) :
    (nth (mudsV (forceK k f) fun m => (hoursR (forceK k f).force m : Int)) i).1 ≤ (nth (mudsV k fun m => (hoursR k.force m : Int)) i).1 ∧ (nth (mudsV (forceK k f) fun m => (hoursR (forceK k f).force m : Int)) i).2 ≤ (nth (mudsV k fun m => (hoursR k.force m : Int)) i).2 := by
  have h1 := hK.force
  have hK2 := okK_force hK (f := f) (by omega)
  obtain ⟨g1, g2, g3, _, _⟩ := muds_bd hK hi
  have e : (mudsV (forceK k f) fun m => m) = mudsV k fun m => m := rfl
  have q1 := hoursR_force (m := (nth (mudsV k fun m => m) i).1) h1.1 hf.1 (by omega)
  have q2 := hoursR_force (m := (nth (mudsV k fun m => m) i).2) h1.1 hf.1 (by omega)
  rw [hours_mono hK hi, hours_mono hK2 hi, e]
  exact ⟨Int.ofNat_le.2 q1, Int.ofNat_le.2 q2⟩
theorem div_le {x c c' : Int} (hx : 0 ≤ x) (hc : 1 ≤ c') (h : c' ≤ c) : x / c ≤ x / c' := by
  refine (Int.le_ediv_iff_mul_le (by omega)).2 ?_
  have h1 : 0 ≤ x / c := Int.ediv_nonneg hx (by omega)
  have h2 : x / c * c' ≤ x / c * c := Int.mul_le_mul_of_nonneg_left h h1
  have h3 : x / c * c ≤ x := Int.ediv_mul_le x (by omega)
  omega
theorem cake_more {k : Wk} (hK : OkK k) {c : Int} (hc : 1 ≤ c ∧ c ≤ k.cake) {i : Nat} (hi : i < k.yard.vats.length) :
    (nth (mudsV k fun m => m / k.cake) i).1 ≤ (nth (mudsV (cakeK k c) fun m => m / (cakeK k c).cake) i).1 ∧ (nth (mudsV k fun m => m / k.cake) i).2 ≤ (nth (mudsV (cakeK k c) fun m => m / (cakeK k c).cake) i).2 := by
  have h1 := hK.cake
  have hK2 := okK_cake hK (c := c) (by omega)
  obtain ⟨g1, g2, g3, _, _⟩ := muds_bd hK hi
  have e : (mudsV (cakeK k c) fun m => m) = mudsV k fun m => m := rfl
  rw [cakes_mono hK hi, cakes_mono hK2 hi, e]
  exact ⟨div_le g1 hc.1 hc.2, div_le (by omega) hc.1 hc.2⟩
theorem end_force {k : Wk} (hK : OkK k) {f : Int} (hf : k.force ≤ f ∧ f ≤ 9) (l : List Int) : endV (forceK k f) l ≤ endV k l := by
  have h1 := hK.force
  have hK2 := okK_force hK (f := f) (by omega)
  obtain ⟨q1, q2⟩ := (endV_leP hK (l := l)).1 (Int.le_refl _)
  rw [endV_leP hK2]
  refine ⟨q1, fun i hi p hp => ?_⟩
  refine Int.le_trans ?_ (q2 i hi p hp)
  refine atN_mono _ fun j hj => ?_
  have h3 := mudR_bd hK (p := p) hp (i := j) (by have : i < k.yard.vats.length := hi; omega)
  exact Int.ofNat_le.2 (hoursR_force h1.1 hf.1 h3.2)
theorem best_force {k : Wk} (hK : OkK k) {f : Int} (hf : k.force ≤ f ∧ f ≤ 9) {b : Int} (hb : 1 ≤ b) : (bestL (forceK k f) b).2 ≤ (bestL k b).2 := by
  have h1 := hK.force
  have hK2 := okK_force hK (f := f) (by omega)
  have b1 := bestL_ok hK hb
  have b2 := bestL_ok hK2 hb
  rw [b1.val]
  exact Int.le_trans (b2.least _ b1.mem) (end_force hK hf _)
end Go.Proofs.YtkbaaikidhbfmaaGreat
/- Plain mathematics: who may be too late. No statement is proved here. -/
set_option linter.unusedVariables false
set_option linter.unusedSimpArgs false
namespace Go.Proofs.YtkbaaikidhbfmaaGreat
open Go.RowKit
theorem planned_plan {k : Wk} (h : OkK k) {xs : List Int} (hW : Words xs) : planP k (plannedL k xs) = true := by
  have hb := h.boxes
  rw [planP_eq hb, isPlan_iff, mem_plans]
  refine ⟨plannedL_len k xs, fun x hx => ?_⟩
  obtain ⟨i, hi, rfl⟩ := List.mem_map.1 hx
  have h1 := Int.emod_nonneg (wordR xs i) (b := k.boxes) (by omega)
  have h2 := Int.emod_lt_of_pos (wordR xs i) (b := k.boxes) (by omega)
  omega
/-- Nobody is too late, or there is a first one. -/
theorem late_cases {k : Wk} (h : OkK k) (l : List Int) : (lateR k l = (0, 7) ∧ endV k l ≤ k.last) ∨
    (∃ i : Nat, lateR k l = ((i : Int), 0) ∧ k.last < endV k l ∧ i < k.yard.vats.length ∧ k.last < (nth (timesV k l) i).2 ∧ ∀ j, j < i → (nth (timesV k l) j).2 ≤ k.last) := by
  have hl := timesV_len k l
  unfold lateR
  cases hq : (timesV k l).findIdx? (fun r => decide (k.last < r.2)) with
  | none =>
    refine .inl ⟨rfl, ?_⟩
    rw [endV_le h]
    refine ⟨h.last.1, fun i hi => ?_⟩
    have := List.findIdx?_eq_none_iff.1 hq _ (nth_mem (l := timesV k l) (i := i) (by omega))
    simpa using this
  | some i =>
    obtain ⟨hi, h1, h2⟩ := List.findIdx?_eq_some_iff_getElem.1 hq
    have e : nth (timesV k l) i = (timesV k l)[i] := by simp [nth, hi]
    have h3 : k.last < (nth (timesV k l) i).2 := by rw [e]; simpa using h1
    have h4 := endV_ge h l (i := i) (by omega)
    refine .inr ⟨i, rfl, by omega, by omega, h3, fun j hj => ?_⟩
    have e2 : nth (timesV k l) j = (timesV k l)[j] := by simp [nth, show j < (timesV k l).length by omega]
    rw [e2]; simpa using h2 j hj
theorem late_law {k : Wk} (h : OkK k) {y : Int} (hy : k.last ≤ y ∧ y ≤ 99) {L P : List Int} (hL : L = (bestL k k.boxes).1) (hP : planP k P = true) :
    ((lateR k L).2 = 7 ∧ (bestL k k.boxes).2 ≤ k.last ∨ (lateR k L).2 = 0 ∧ k.last < (bestL k k.boxes).2) ∧
    ((lateR k P).2 = 7 ∧ (lateR k L).2 = 7 ∧ (lateR (lastK k y) P).2 = 7 ∨ (lateR k P).2 = 0 ∧ (lateR (lastK k y) P).2 = 7 ∨ (lateR k P).2 = 0 ∧ (lateR (lastK k y) P).2 = 0 ∧ (lateR k P).1 ≤ (lateR (lastK k y) P).1) := by
  have hl0 := h.last
  have hK2 := okK_last h (x := y) (by omega)
  have hb := bestL_ok h h.boxes.1
  have hv : (bestL k k.boxes).2 = endV k L := by rw [hL]; exact hb.val
  have hP2 : P ∈ lex (List.replicate k.yard.vats.length (0, k.boxes - 1)) := isPlan_iff.1 (by rw [← planP_eq h.boxes]; exact hP)
  have hle := hb.least P hP2
  have ee : endV (lastK k y) P = endV k P := rfl
  have et : timesV (lastK k y) P = timesV k P := rfl
  have el : (lastK k y).last = y := rfl
  have en : (lastK k y).yard.vats.length = k.yard.vats.length := rfl
  have q1 := late_cases h L
  have q2 := late_cases h P
  have q3 := late_cases hK2 P
  rw [ee, et, el, en] at q3
  refine ⟨?_, ?_⟩
  · rcases q1 with ⟨e, h1⟩ | ⟨i, e, h1, _⟩
    · exact .inl ⟨by rw [e], by omega⟩
    · exact .inr ⟨by rw [e], by omega⟩
  · rcases q2 with ⟨e2, h2⟩ | ⟨i, e2, h2, h3, h4, h5⟩
    · left
      refine ⟨by rw [e2], ?_, ?_⟩
      · rcases q1 with ⟨e, h1⟩ | ⟨i, e, h1, _⟩
        · rw [e]
        · omega
      · rcases q3 with ⟨e, h1⟩ | ⟨i, e, h1, _⟩
        · rw [e]
        · omega
    · right
      rcases q3 with ⟨e3, h6⟩ | ⟨j, e3, h6, h7, h8, h9⟩
      · exact .inl ⟨by rw [e2], by rw [e3]⟩
      · refine .inr ⟨by rw [e2], by rw [e3], ?_⟩
        rw [e2, e3]
        simp only
        rcases Nat.lt_or_ge j i with hj | hj
        · have := h5 j hj; omega
        · omega
end Go.Proofs.YtkbaaikidhbfmaaGreat
/- The walk of the law PressLate. No statement is proved here. -/
set_option linter.unusedVariables false
set_option linter.unusedSimpArgs false
namespace Go.Proofs.YtkbaaikidhbfmaaGreat
open Go.RowKit
section
variable {w : World} {a b c d e f xv : Value} {hs : List Value} {k : Wk} {xs : List Int}
set_option maxRecDepth 100000 in
set_option maxHeartbeats 8000000 in
theorem law12_good (h : WkA All w a b c hs d e f k) (x : Int) (hA : Arr All w 1 encU xv xs) (hWd : Words xs) (hx : 0 ≤ x ∧ x ≤ 255) (hr : readyW k = true) : Ex 12 [wkV a b c d e f k, xv, .int .u8 x] w (.bool true) := by
  have i1 := h.yard.fields.v1
  have i2 := h.yard.vats.arr.v1
  have i3 := h.yard.smps.v1
  have i4 := h.beat.vats.v1
  have i5 := h.beat.smps.v1
  have i6 := h.ends.v1
  have i7 := hA.v1
  obtain ⟨ht, hf⟩ := ready_iff.1 hr
  have hK := okK_of hf
  have v3 := hK.v3
  refine Rt_of Tryz.func12 rfl Tryz.ntmps12 rfl ?_

  apply GC_seq
  refine GC_mid (α := Nat) (fun s => [(3, pt s), (1, xv), (2, .int .u8 x)]) (fun s => [((fun _ => True), w)]) (fun s => [(s, .cells (wkC a b c d e f k).toArray 35)]) (fun s => True) ?_ ?_
  · repeat' (first | apply s_ | (apply JO_ob; exact rfl; first | exact ob1) | ((first | apply b_ | apply a_ | apply i_); exact z_; intro _) | ((first | apply p_ | apply JO_yes | apply GC_t); exact z_) | (apply n_; exact z_) | (apply GC_f; exact z_) | (apply GX_block_on; exact z_))
    all_goals exact GX_loop _ ⟨rfl, rfl, rfl, trivial⟩ Nat.zero_lt_one trivial (fun w hw => hw.cut)
  intro p3 _
  try simp only
  apply GC_seq
  refine GC_mid (α := Unit) (fun s => [(3, pt p3), (1, xv), (2, .int .u8 x)]) (fun s => [((fun _ => True), w)]) (fun s => [(p3, .cells (wkC a b c d e f k).toArray 35)]) (fun s => True) ?_ ?_
  · repeat' (first | apply s_ | (apply JO_ob; exact rfl; first | exact ob1 | exact Ob_call rfl (fun w5 hw5 => c48T (hw5.wk mem_ h) hr)) | ((first | apply b_ | apply a_ | apply i_); exact z_; intro _) | ((first | apply p_ | apply JO_yes | apply GC_t); exact z_) | (apply n_; exact z_) | (apply GC_f; exact z_) | (apply GX_block_on; exact z_))
    all_goals exact GX_loop () ⟨rfl, rfl, rfl, trivial⟩ Nat.zero_lt_one trivial (fun w hw => hw.cut)
  intro _ _
  try simp only
  apply GC_seq
  refine GC_mid (α := VG) (fun s => [(7, s.1), (3, pt p3), (1, xv), (2, .int .u8 x)]) (fun s => [(s.2.1, s.2.2), ((fun _ => True), w)]) (fun s => [(p3, .cells (wkC a b c d e f k).toArray 35)]) (fun s => Arr s.2.1 s.2.2 1 encI s.1 (plannedL k xs)) ?_ ?_
  · repeat' (first | apply s_ | (apply JO_ob; exact rfl; first | exact ob1) | ((first | apply b_ | apply a_ | apply i_); exact z_; intro _) | ((first | apply p_ | apply JO_yes | apply GC_t); exact z_) | (apply n_; exact z_) | (apply GC_f; exact z_) | (apply GX_block_on; exact z_))
    refine JO_call (S := ListW (plannedL k xs)) rfl rfl (fun w5 hw5 => c56 (hw5.wk mem_ h) v3 hK.boxes xs (hw5.arr mem_ hA) hWd) ?_
    rintro _ uc0 ud0 hc0 hd0 hl0 hr0
    rename_i r0
    have ir0 := hr0.v1
    repeat' (first | apply s_ | (apply JO_ob; exact rfl; first | exact ob1) | ((first | apply b_ | apply a_ | apply i_); exact z_; intro _) | ((first | apply p_ | apply JO_yes | apply GC_t); exact z_) | (apply n_; exact z_) | (apply GC_f; exact z_) | (apply GX_block_on; exact z_))
    all_goals exact GX_loop (r0, (fun b => uc0.heap.size ≤ b), ud0) ⟨rfl, rfl, rfl, rfl, trivial⟩ Nat.zero_lt_one hr0 (fun w hw => hw.cut)
  rintro ⟨rw, Gw, ww⟩ hrw
  simp only at hrw ⊢
  have irw := hrw.v1
  have brw := hrw.bound
  apply GC_seq
  refine GC_mid (α := Nat) (fun s => [(8, pt s), (7, rw), (3, pt p3), (1, xv), (2, .int .u8 x)]) (fun s => [(Gw, ww), ((fun _ => True), w)]) (fun s => [(s, .cells (wkC a b c d e f k).toArray 35), (p3, .cells (wkC a b c d e f k).toArray 35)]) (fun s => True) ?_ ?_
  · repeat' (first | apply s_ | (apply JO_ob; exact rfl; first | exact ob1) | ((first | apply b_ | apply a_ | apply i_); exact z_; intro _) | ((first | apply p_ | apply JO_yes | apply GC_t); exact z_) | (apply n_; exact z_) | (apply GC_f; exact z_) | (apply GX_block_on; exact z_))
    all_goals exact GX_loop _ ⟨rfl, rfl, rfl, rfl, rfl, trivial⟩ Nat.zero_lt_one trivial (fun w hw => hw.cut)
  intro p8 _
  try simp only
  have hla := hK.last
  apply GC_seq
  refine GC_mid (α := Unit) (fun s => [(8, pt p8), (7, rw), (3, pt p3), (1, xv), (2, .int .u8 x)]) (fun s => [(Gw, ww), ((fun _ => True), w)]) (fun s => [(p8, .cells (wkC a b c d e f (lastK k (min 99 (k.last + x % 9)))).toArray 35), (p3, .cells (wkC a b c d e f k).toArray 35)]) (fun s => True) ?_ ?_
  · repeat' (first | apply s_ | (apply JO_ob; exact rfl; first | exact ob1 | exact Ob_convert rfl (wrapI (by omega) (by omega)) | exact Ob_rem rfl rfl (by omega) (by omega)) | ((first | apply b_ | apply a_ | apply i_); exact z_; intro _) | ((first | apply p_ | apply JO_yes | apply GC_t); exact z_) | (apply n_; exact z_) | (apply GC_f; exact z_) | (apply GX_block_on; exact z_))
    all_goals exact GX_loop () ⟨rfl, rfl, rfl, rfl, rfl, trivial⟩ Nat.zero_lt_one trivial (fun w hw => hw.cut)
  intro _ _
  try simp only
  have hY : k.last ≤ min 99 (k.last + x % 9) ∧ min 99 (k.last + x % 9) ≤ 99 := by omega
  generalize min 99 (k.last + x % 9) = Y at hY ⊢
  have hfY : fault9 (lastK k Y) = 0 := fault_last hf (by omega)
  have hY2 : WkA All w a b c hs d e f (lastK k Y) := ⟨h.yard, h.beat, h.ends⟩
  have htY : thinW (lastK k Y) = true := ht
  have hpl := planned_plan hK hWd
  have hpY : planP (lastK k Y) (plannedL k xs) = true := hpl
  have lpl := plannedL_len k xs
  have lbl := best_len hK (b := k.boxes) hK.boxes.1
  apply GC_seq
  refine GC_mid (α := VG) (fun s => [(9, s.1), (10, .int .i64 ((bestL k k.boxes).2)), (11, .int .i64 0), (8, pt p8), (7, rw), (3, pt p3), (1, xv), (2, .int .u8 x)]) (fun s => [(s.2.1, s.2.2), (Gw, ww), ((fun _ => True), w)]) (fun s => [(p8, .cells (wkC a b c d e f (lastK k Y)).toArray 35), (p3, .cells (wkC a b c d e f k).toArray 35)]) (fun s => Arr s.2.1 s.2.2 1 encI s.1 ((bestL k k.boxes).1)) ?_ ?_
  · repeat' (first | apply s_ | (apply JO_ob; exact rfl; first | exact ob1) | ((first | apply b_ | apply a_ | apply i_); exact z_; intro _) | ((first | apply p_ | apply JO_yes | apply GC_t); exact z_) | (apply n_; exact z_) | (apply GC_f; exact z_) | (apply GX_block_on; exact z_))
    refine JO_call (S := TwoW k) rfl rfl (fun w5 hw5 => c23W (hw5.wk mem_ h) ht) ?_
    rintro _ ua0 ub0 ha0 hb0 hk0 ⟨a0, b0, c0, hs0, d0, e0, f0, rfl, hW0⟩
    have iw01 := hW0.yard.fields.v1
    have iw02 := hW0.yard.vats.arr.v1
    have iw03 := hW0.yard.smps.v1
    have iw04 := hW0.beat.vats.v1
    have iw05 := hW0.beat.smps.v1
    have iw06 := hW0.ends.v1
    repeat' (first | apply s_ | (apply JO_ob; exact rfl; first | exact ob1) | ((first | apply b_ | apply a_ | apply i_); exact z_; intro _) | ((first | apply p_ | apply JO_yes | apply GC_t); exact z_) | (apply n_; exact z_) | (apply GC_f; exact z_) | (apply GX_block_on; exact z_))
    refine JO_call (S := BestW ((bestL k k.boxes).1) ((bestL k k.boxes).2)) rfl rfl (fun w5 hw5 => c54F (upk hw5 (.head _) hW0) hf) ?_
    rintro _ uc0 ud0 hc0 hd0 hl0 ⟨r0, rfl, hr0⟩
    have ir0 := hr0.v1
    repeat' (first | apply s_ | (apply JO_ob; exact rfl; first | exact ob1) | ((first | apply b_ | apply a_ | apply i_); exact z_; intro _) | ((first | apply p_ | apply JO_yes | apply GC_t); exact z_) | (apply n_; exact z_) | (apply GC_f; exact z_) | (apply GX_block_on; exact z_))
    all_goals exact GX_loop (r0, (fun b => uc0.heap.size ≤ b), ud0) ⟨rfl, rfl, rfl, rfl, rfl, rfl, rfl, rfl, trivial⟩ Nat.zero_lt_one hr0 (fun w hw => hw.cut)
  rintro ⟨rl, Gl, wl⟩ hrl
  simp only at hrl ⊢
  have irl := hrl.v1
  have brl := hrl.bound
  apply GC_seq
  refine GC_mid (α := Unit) (fun s => [(12, .int .i64 (lateR k ((bestL k k.boxes).1)).1), (13, .int .i64 (lateR k ((bestL k k.boxes).1)).2), (9, rl), (10, .int .i64 ((bestL k k.boxes).2)), (11, .int .i64 0), (8, pt p8), (7, rw), (3, pt p3), (1, xv), (2, .int .u8 x)]) (fun s => [(Gl, wl), (Gw, ww), ((fun _ => True), w)]) (fun s => [(p8, .cells (wkC a b c d e f (lastK k Y)).toArray 35), (p3, .cells (wkC a b c d e f k).toArray 35)]) (fun s => True) ?_ ?_
  · repeat' (first | apply s_ | (apply JO_ob; exact rfl; first | exact ob1) | ((first | apply b_ | apply a_ | apply i_); exact z_; intro _) | ((first | apply p_ | apply JO_yes | apply GC_t); exact z_) | (apply n_; exact z_) | (apply GC_f; exact z_) | (apply GX_block_on; exact z_))
    refine JO_call (S := TwoW k) rfl rfl (fun w5 hw5 => c23W (hw5.wk mem_ h) ht) ?_
    rintro _ ua0 ub0 ha0 hb0 hk0 ⟨a0, b0, c0, hs0, d0, e0, f0, rfl, hW0⟩
    have iw01 := hW0.yard.fields.v1
    have iw02 := hW0.yard.vats.arr.v1
    have iw03 := hW0.yard.smps.v1
    have iw04 := hW0.beat.vats.v1
    have iw05 := hW0.beat.smps.v1
    have iw06 := hW0.ends.v1
    repeat' (first | apply s_ | (apply JO_ob; exact rfl; first | exact ob1) | ((first | apply b_ | apply a_ | apply i_); exact z_; intro _) | ((first | apply p_ | apply JO_yes | apply GC_t); exact z_) | (apply n_; exact z_) | (apply GC_f; exact z_) | (apply GX_block_on; exact z_))
    refine JO_call (S := ListW ((bestL k k.boxes).1)) rfl rfl (fun w5 hw5 => c34 _ _ w5 (up hw5 mem_ hrl) (by omega)) ?_
    rintro _ uc1 ud1 hc1 hd1 hl1 hq1
    have iq1 := hq1.v1
    repeat' (first | apply s_ | (apply JO_ob; exact rfl; first | exact ob1 | exact Ob_call rfl (fun w5 hw5 => c35F (upk hw5 mem_ hW0) hf (up hw5 mem_ hq1) (planP_best hK))) | ((first | apply b_ | apply a_ | apply i_); exact z_; intro _) | ((first | apply p_ | apply JO_yes | apply GC_t); exact z_) | (apply n_; exact z_) | (apply GC_f; exact z_) | (apply GX_block_on; exact z_))
    all_goals exact GX_loop () ⟨rfl, rfl, rfl, rfl, rfl, rfl, rfl, rfl, rfl, rfl, trivial⟩ Nat.zero_lt_one trivial (fun w hw => hw.cut)
  intro _ _
  try simp only
  apply GC_seq
  refine GC_mid (α := Unit) (fun s => [(14, .int .i64 (lateR k (plannedL k xs)).1), (15, .int .i64 (lateR k (plannedL k xs)).2), (12, .int .i64 (lateR k ((bestL k k.boxes).1)).1), (13, .int .i64 (lateR k ((bestL k k.boxes).1)).2), (9, rl), (10, .int .i64 ((bestL k k.boxes).2)), (11, .int .i64 0), (8, pt p8), (7, rw), (3, pt p3), (1, xv), (2, .int .u8 x)]) (fun s => [(Gl, wl), (Gw, ww), ((fun _ => True), w)]) (fun s => [(p8, .cells (wkC a b c d e f (lastK k Y)).toArray 35), (p3, .cells (wkC a b c d e f k).toArray 35)]) (fun s => True) ?_ ?_
  · repeat' (first | apply s_ | (apply JO_ob; exact rfl; first | exact ob1) | ((first | apply b_ | apply a_ | apply i_); exact z_; intro _) | ((first | apply p_ | apply JO_yes | apply GC_t); exact z_) | (apply n_; exact z_) | (apply GC_f; exact z_) | (apply GX_block_on; exact z_))
    refine JO_call (S := TwoW k) rfl rfl (fun w5 hw5 => c23W (hw5.wk mem_ h) ht) ?_
    rintro _ ua0 ub0 ha0 hb0 hk0 ⟨a0, b0, c0, hs0, d0, e0, f0, rfl, hW0⟩
    have iw01 := hW0.yard.fields.v1
    have iw02 := hW0.yard.vats.arr.v1
    have iw03 := hW0.yard.smps.v1
    have iw04 := hW0.beat.vats.v1
    have iw05 := hW0.beat.smps.v1
    have iw06 := hW0.ends.v1
    repeat' (first | apply s_ | (apply JO_ob; exact rfl; first | exact ob1) | ((first | apply b_ | apply a_ | apply i_); exact z_; intro _) | ((first | apply p_ | apply JO_yes | apply GC_t); exact z_) | (apply n_; exact z_) | (apply GC_f; exact z_) | (apply GX_block_on; exact z_))
    refine JO_call (S := ListW (plannedL k xs)) rfl rfl (fun w5 hw5 => c34 _ _ w5 (up hw5 mem_ hrw) (by omega)) ?_
    rintro _ uc1 ud1 hc1 hd1 hl1 hq1
    have iq1 := hq1.v1
    repeat' (first | apply s_ | (apply JO_ob; exact rfl; first | exact ob1 | exact Ob_call rfl (fun w5 hw5 => c35F (upk hw5 mem_ hW0) hf (up hw5 mem_ hq1) hpl)) | ((first | apply b_ | apply a_ | apply i_); exact z_; intro _) | ((first | apply p_ | apply JO_yes | apply GC_t); exact z_) | (apply n_; exact z_) | (apply GC_f; exact z_) | (apply GX_block_on; exact z_))
    all_goals exact GX_loop () ⟨rfl, rfl, rfl, rfl, rfl, rfl, rfl, rfl, rfl, rfl, rfl, rfl, trivial⟩ Nat.zero_lt_one trivial (fun w hw => hw.cut)
  intro _ _
  try simp only
  apply GC_seq
  refine GC_mid (α := Unit) (fun s => [(16, .int .i64 (lateR (lastK k Y) (plannedL k xs)).1), (17, .int .i64 (lateR (lastK k Y) (plannedL k xs)).2), (14, .int .i64 (lateR k (plannedL k xs)).1), (15, .int .i64 (lateR k (plannedL k xs)).2), (12, .int .i64 (lateR k ((bestL k k.boxes).1)).1), (13, .int .i64 (lateR k ((bestL k k.boxes).1)).2), (9, rl), (10, .int .i64 ((bestL k k.boxes).2)), (11, .int .i64 0), (8, pt p8), (7, rw), (3, pt p3), (1, xv), (2, .int .u8 x)]) (fun s => [(Gl, wl), (Gw, ww), ((fun _ => True), w)]) (fun s => [(p8, .cells (wkC a b c d e f (lastK k Y)).toArray 35), (p3, .cells (wkC a b c d e f k).toArray 35)]) (fun s => True) ?_ ?_
  · repeat' (first | apply s_ | (apply JO_ob; exact rfl; first | exact ob1) | ((first | apply b_ | apply a_ | apply i_); exact z_; intro _) | ((first | apply p_ | apply JO_yes | apply GC_t); exact z_) | (apply n_; exact z_) | (apply GC_f; exact z_) | (apply GX_block_on; exact z_))
    refine JO_call (S := TwoW (lastK k Y)) rfl rfl (fun w5 hw5 => c23W (hw5.wk mem_ hY2) htY) ?_
    rintro _ ua0 ub0 ha0 hb0 hk0 ⟨a0, b0, c0, hs0, d0, e0, f0, rfl, hW0⟩
    have iw01 := hW0.yard.fields.v1
    have iw02 := hW0.yard.vats.arr.v1
    have iw03 := hW0.yard.smps.v1
    have iw04 := hW0.beat.vats.v1
    have iw05 := hW0.beat.smps.v1
    have iw06 := hW0.ends.v1
    repeat' (first | apply s_ | (apply JO_ob; exact rfl; first | exact ob1) | ((first | apply b_ | apply a_ | apply i_); exact z_; intro _) | ((first | apply p_ | apply JO_yes | apply GC_t); exact z_) | (apply n_; exact z_) | (apply GC_f; exact z_) | (apply GX_block_on; exact z_))
    refine JO_call (S := ListW (plannedL k xs)) rfl rfl (fun w5 hw5 => c34 _ _ w5 (up hw5 mem_ hrw) (by omega)) ?_
    rintro _ uc1 ud1 hc1 hd1 hl1 hq1
    have iq1 := hq1.v1
    repeat' (first | apply s_ | (apply JO_ob; exact rfl; first | exact ob1 | exact Ob_call rfl (fun w5 hw5 => c35F (upk hw5 mem_ hW0) hfY (up hw5 mem_ hq1) hpY)) | ((first | apply b_ | apply a_ | apply i_); exact z_; intro _) | ((first | apply p_ | apply JO_yes | apply GC_t); exact z_) | (apply n_; exact z_) | (apply GC_f; exact z_) | (apply GX_block_on; exact z_))
    all_goals exact GX_loop () ⟨rfl, rfl, rfl, rfl, rfl, rfl, rfl, rfl, rfl, rfl, rfl, rfl, rfl, rfl, trivial⟩ Nat.zero_lt_one trivial (fun w hw => hw.cut)
  intro _ _
  try simp only
  obtain ⟨q0, q00⟩ := late_law hK hY (L := (bestL k k.boxes).1) rfl hpl
  obtain ⟨q1, q2⟩ := late_law hK hY (L := (bestL k k.boxes).1) rfl hpl
  rcases q2 with ⟨e1, e2, e3⟩ | ⟨e1, e3⟩ | ⟨e1, e3, e4⟩
  · have e5 : (bestL k k.boxes).2 ≤ k.last := by omega
    clear q1
    rw [e1, e2, e3]
    apply GC_seq
    refine GC_mid (α := Unit) (fun s => [(13, .int .i64 7), (15, .int .i64 7), (17, .int .i64 7), (10, .int .i64 (bestL k k.boxes).2), (14, .int .i64 (lateR k (plannedL k xs)).1), (16, .int .i64 (lateR (lastK k Y) (plannedL k xs)).1), (3, pt p3)]) (fun s => [((fun _ => True), w)]) (fun s => [(p3, .cells (wkC a b c d e f k).toArray 35)]) (fun s => True) ?_ ?_
    · repeat' (first | apply s_ | (apply JO_ob; exact rfl; first | exact ob1) | ((first | apply b_ | apply a_ | apply i_); exact z_; intro _) | ((first | apply p_ | apply JO_yes | apply GC_t); exact z_) | (apply n_; exact z_) | (apply GC_f; exact z_) | (apply GX_block_on; exact z_))
      exact GX_loop () ⟨rfl, rfl, rfl, rfl, rfl, rfl, rfl, trivial⟩ Nat.zero_lt_one trivial (fun w hw => hw.cut)
    intro _ _
    try simp only
    apply GC_seq
    refine GC_region2 ?_
    repeat' (first | apply s_ | (apply JO_ob; exact rfl; first | exact ob1 | exact Ob_eqb rfl rfl | exact Ob_call rfl (fun w5 _ => c21 w5)) | ((first | apply b_ | apply a_ | apply i_); exact z_; intro _) | ((first | apply p_ | apply JO_yes | apply GC_t); exact z_) | (apply n_; exact z_) | (apply GC_f; exact z_) | (apply GX_block_on; exact z_) | (apply JO2_und; exact z_) | apply JO2_of)
    exact GX_ex rfl rfl mem_ rfl
  · rcases q1 with ⟨e2, e5⟩ | ⟨e2, e5⟩
    · rw [e1, e2, e3]
      apply GC_seq
      refine GC_mid (α := Unit) (fun s => [(13, .int .i64 7), (15, .int .i64 0), (17, .int .i64 7), (10, .int .i64 (bestL k k.boxes).2), (14, .int .i64 (lateR k (plannedL k xs)).1), (16, .int .i64 (lateR (lastK k Y) (plannedL k xs)).1), (3, pt p3)]) (fun s => [((fun _ => True), w)]) (fun s => [(p3, .cells (wkC a b c d e f k).toArray 35)]) (fun s => True) ?_ ?_
      · repeat' (first | apply s_ | (apply JO_ob; exact rfl; first | exact ob1) | ((first | apply b_ | apply a_ | apply i_); exact z_; intro _) | ((first | apply p_ | apply JO_yes | apply GC_t); exact z_) | (apply n_; exact z_) | (apply GC_f; exact z_) | (apply GX_block_on; exact z_))
        exact GX_loop () ⟨rfl, rfl, rfl, rfl, rfl, rfl, rfl, trivial⟩ Nat.zero_lt_one trivial (fun w hw => hw.cut)
      intro _ _
      try simp only
      apply GC_seq
      refine GC_region2 ?_
      repeat' (first | apply s_ | (apply JO_ob; exact rfl; first | exact ob1 | exact Ob_eqb rfl rfl | exact Ob_call rfl (fun w5 _ => c21 w5)) | ((first | apply b_ | apply a_ | apply i_); exact z_; intro _) | ((first | apply p_ | apply JO_yes | apply GC_t); exact z_) | (apply n_; exact z_) | (apply GC_f; exact z_) | (apply GX_block_on; exact z_) | (apply JO2_und; exact z_) | apply JO2_of)
      exact GX_ex rfl rfl mem_ rfl
    · rw [e1, e2, e3]
      apply GC_seq
      refine GC_mid (α := Unit) (fun s => [(13, .int .i64 0), (15, .int .i64 0), (17, .int .i64 7), (10, .int .i64 (bestL k k.boxes).2), (14, .int .i64 (lateR k (plannedL k xs)).1), (16, .int .i64 (lateR (lastK k Y) (plannedL k xs)).1), (3, pt p3)]) (fun s => [((fun _ => True), w)]) (fun s => [(p3, .cells (wkC a b c d e f k).toArray 35)]) (fun s => True) ?_ ?_
      · repeat' (first | apply s_ | (apply JO_ob; exact rfl; first | exact ob1) | ((first | apply b_ | apply a_ | apply i_); exact z_; intro _) | ((first | apply p_ | apply JO_yes | apply GC_t); exact z_) | (apply n_; exact z_) | (apply GC_f; exact z_) | (apply GX_block_on; exact z_))
        exact GX_loop () ⟨rfl, rfl, rfl, rfl, rfl, rfl, rfl, trivial⟩ Nat.zero_lt_one trivial (fun w hw => hw.cut)
      intro _ _
      try simp only
      apply GC_seq
      refine GC_region2 ?_
      repeat' (first | apply s_ | (apply JO_ob; exact rfl; first | exact ob1 | exact Ob_eqb rfl rfl | exact Ob_call rfl (fun w5 _ => c21 w5)) | ((first | apply b_ | apply a_ | apply i_); exact z_; intro _) | ((first | apply p_ | apply JO_yes | apply GC_t); exact z_) | (apply n_; exact z_) | (apply GC_f; exact z_) | (apply GX_block_on; exact z_) | (apply JO2_und; exact z_) | apply JO2_of)
      exact GX_ex rfl rfl mem_ rfl
  · rcases q1 with ⟨e2, e5⟩ | ⟨e2, e5⟩
    · rw [e1, e2, e3]
      apply GC_seq
      refine GC_mid (α := Unit) (fun s => [(13, .int .i64 7), (15, .int .i64 0), (17, .int .i64 0), (10, .int .i64 (bestL k k.boxes).2), (14, .int .i64 (lateR k (plannedL k xs)).1), (16, .int .i64 (lateR (lastK k Y) (plannedL k xs)).1), (3, pt p3)]) (fun s => [((fun _ => True), w)]) (fun s => [(p3, .cells (wkC a b c d e f k).toArray 35)]) (fun s => True) ?_ ?_
      · repeat' (first | apply s_ | (apply JO_ob; exact rfl; first | exact ob1) | ((first | apply b_ | apply a_ | apply i_); exact z_; intro _) | ((first | apply p_ | apply JO_yes | apply GC_t); exact z_) | (apply n_; exact z_) | (apply GC_f; exact z_) | (apply GX_block_on; exact z_))
        exact GX_loop () ⟨rfl, rfl, rfl, rfl, rfl, rfl, rfl, trivial⟩ Nat.zero_lt_one trivial (fun w hw => hw.cut)
      intro _ _
      try simp only
      apply GC_seq
      refine GC_region2 ?_
      repeat' (first | apply s_ | (apply JO_ob; exact rfl; first | exact ob1 | exact Ob_eqb rfl rfl | exact Ob_call rfl (fun w5 _ => c21 w5)) | ((first | apply b_ | apply a_ | apply i_); exact z_; intro _) | ((first | apply p_ | apply JO_yes | apply GC_t); exact z_) | (apply n_; exact z_) | (apply GC_f; exact z_) | (apply GX_block_on; exact z_) | (apply JO2_und; exact z_) | apply JO2_of)
      exact GX_ex rfl rfl mem_ rfl
    · rw [e1, e2, e3]
      apply GC_seq
      refine GC_mid (α := Unit) (fun s => [(13, .int .i64 0), (15, .int .i64 0), (17, .int .i64 0), (10, .int .i64 (bestL k k.boxes).2), (14, .int .i64 (lateR k (plannedL k xs)).1), (16, .int .i64 (lateR (lastK k Y) (plannedL k xs)).1), (3, pt p3)]) (fun s => [((fun _ => True), w)]) (fun s => [(p3, .cells (wkC a b c d e f k).toArray 35)]) (fun s => True) ?_ ?_
      · repeat' (first | apply s_ | (apply JO_ob; exact rfl; first | exact ob1) | ((first | apply b_ | apply a_ | apply i_); exact z_; intro _) | ((first | apply p_ | apply JO_yes | apply GC_t); exact z_) | (apply n_; exact z_) | (apply GC_f; exact z_) | (apply GX_block_on; exact z_))
        exact GX_loop () ⟨rfl, rfl, rfl, rfl, rfl, rfl, rfl, trivial⟩ Nat.zero_lt_one trivial (fun w hw => hw.cut)
      intro _ _
      try simp only
      apply GC_seq
      refine GC_region2 ?_
      repeat' (first | apply s_ | (apply JO_ob; exact rfl; first | exact ob1 | exact Ob_eqb rfl rfl | exact Ob_call rfl (fun w5 _ => c21 w5)) | ((first | apply b_ | apply a_ | apply i_); exact z_; intro _) | ((first | apply p_ | apply JO_yes | apply GC_t); exact z_) | (apply n_; exact z_) | (apply GC_f; exact z_) | (apply GX_block_on; exact z_) | (apply JO2_und; exact z_) | apply JO2_of)
      exact GX_ex rfl rfl mem_ rfl
theorem law12 (h : WkA All w a b c hs d e f k) (x : Int) (hA : Arr All w 1 encU xv xs) (hWd : Words xs) (hx : 0 ≤ x ∧ x ≤ 255) : Ex 12 [wkV a b c d e f k, xv, .int .u8 x] w (.bool true) := by
  have i1 := h.yard.fields.v1
  have i2 := h.yard.vats.arr.v1
  have i3 := h.yard.smps.v1
  have i4 := h.beat.vats.v1
  have i5 := h.beat.smps.v1
  have i6 := h.ends.v1
  have i7 := hA.v1
  cases hr : readyW k
  · refine Rt_of Tryz.func12 rfl Tryz.ntmps12 rfl ?_
    repeat' (first | apply s_ | (apply JO_ob; exact rfl; first | exact ob1 | exact Ob_call rfl (fun w5 hw5 => c48F (hw5.wk mem_ h) hr) | exact Ob_call rfl (fun w5 _ => c21 w5)) | ((first | apply b_ | apply a_ | apply i_); exact z_; intro _) | ((first | apply p_ | apply JO_yes | apply GC_t); exact z_) | (apply n_; exact z_) | (apply GC_f; exact z_) | (apply GX_block_on; exact z_))
    exact GX_ex rfl rfl mem_ rfl
  exact law12_good h x hA hWd hx hr
end
end Go.Proofs.YtkbaaikidhbfmaaGreat
