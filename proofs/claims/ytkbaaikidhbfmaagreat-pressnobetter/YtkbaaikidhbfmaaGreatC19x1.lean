/- The law PressNoBetter of the chapter 09 returns true for every input, and each argument reads afterwards as it read before. No condition. -/
import Derived.Test.YtkbaaikidhbfmaaGreatB5
/- A list that is copied, with its block; regions far behind. No statement is proved here. -/
set_option linter.unusedVariables false
set_option linter.unusedSimpArgs false
namespace Go.Proofs.YtkbaaikidhbfmaaGreat
open Go.RowKit
theorem mm_ {α : Type} {x : α} {l : List α} (h : x ∈ l := by repeat (first | exact List.Mem.head _ | apply List.Mem.tail)) : x ∈ l := h
theorem c34o (v : Value) (xs : List Int) (w : World) (hA : Arr All w 1 encI v xs) (hl : xs.length ≤ 1000000) : Rt 34 [v] w fun r w' => Keep w w' ∧ ∃ sp, Own 1 encI r xs sp ∧ ∀ p ∈ rowH r 3 (xs.flatMap encI ++ sp), w.heap.size ≤ p.1 ∧ w'.heap[p.1]? = some p.2 := by
  have hv1 := hA.v1
  refine Rt_of Tryz.func34 rfl Tryz.ntmps34 rfl ?_
  repeat' (first | apply s_ | (apply JO_ob; exact rfl; first | exact ob1) | ((first | apply b_ | apply a_ | apply i_); exact z_; intro _) | ((first | apply p_ | apply JO_yes | apply GC_t); exact z_) | (apply n_; exact z_) | (apply GC_f; exact z_) | (apply GX_block_on; exact z_) | (apply c_; exact z_; all_goals intro _))
  refine JO_append (xs := []) (sp := []) [] rfl rfl rfl (Own.lit [] (fun _ => rfl) rfl rfl) (List.Perm.refl _) (fun w hw => hw.slArr (.head _) hA (by decide)) (allOne_flat (fun _ => rfl) _) (by simp; omega) ?_
  intro v' sp' ho
  have hv1' := ho.v1
  repeat' (first | apply s_ | (apply JO_ob; exact rfl; first | exact ob1) | ((first | apply b_ | apply a_ | apply i_); exact z_; intro _) | ((first | apply p_ | apply JO_yes | apply GC_t); exact z_) | (apply n_; exact z_) | (apply GC_f; exact z_) | (apply GX_block_on; exact z_) | (apply c_; exact z_; all_goals intro _))
  refine GX_ret1 rfl rfl fun w' hw' => ⟨hw'.kp mem_, sp', ho, fun p hp => ?_⟩
  exact ⟨hw'.apt p hp ((fun _ => True), w) (.head _) trivial, hw'.own p hp⟩
/-- A call of list, its block known. -/
theorem JO_list {n d : Nat} {full : List Oper} {b0 : World} {R : Rgs} {H : Hp} {fr : Slots} {K : Kt} {ty : TypeId} {ps : String} {af : Array Edge} {ar : List Operand} {ts : Array TypeId} {v : Value} {xs : List Int} (hd : Nat.blt d n = true) (hx : evs fr ar = some [v]) (hA : ∀ w, SH b0 R H w → Arr All w 1 encI v xs) (hl : xs.length ≤ 1000000)
    (h : ∀ r sp, Own 1 encI r xs sp → K R (rowH r 3 (xs.flatMap encI ++ sp) ++ H) ((d, r) :: fr)) : JO n full b0 R H ⟨some d, .call ⟨.value (.func 34), ar.toArray, ts⟩, ty, ps, af, none⟩ fr K := by
  refine JO_callS (β := Value × List Value) (S := fun s r => r = s.1 ∧ Own 1 encI s.1 xs s.2) (R' := fun _ => R) (H' := fun s => rowH s.1 3 (xs.flatMap encI ++ s.2) ++ H) hd hx (fun w hw => (c34o v xs w (hA w hw) hl).mono ?_) ?_
  · rintro r w' ⟨kp, sp, ho, hb⟩
    refine ⟨(r, sp), ⟨rfl, ho⟩, fun _ h => h, ?_⟩
    rcases ho.c with ⟨rfl, _⟩ | ⟨bb, cc, rfl, _⟩
    · exact hw.keep kp
    · obtain ⟨g1, g2⟩ := hb _ (.head _)
      exact hw.own1 kp g1 g2
  · rintro ⟨r, sp⟩ v ⟨rfl, ho⟩
    exact h _ _ ho
end Go.Proofs.YtkbaaikidhbfmaaGreat
/- Plain mathematics: works with another number of boxes, another force, another last hour, other cakes; the best plans. No statement is proved here. -/
set_option linter.unusedVariables false
set_option linter.unusedSimpArgs false
namespace Go.Proofs.YtkbaaikidhbfmaaGreat
open Go.RowKit
theorem fault9_mk {k : Wk} (h : OkK k) (hm : many1 k.yard.fields * many3 k.beat ≤ 6000) : fault9 k = 0 := by
  have h1 : (truths1 k.yard).length ≠ 0 := fun e => h.t1 ((truths1_nil h.y.f h.m1).1 e)
  have h3 : (truths3 k.beat).length ≠ 0 := fun e => h.t3 ((truths3_nil h.b).1 e)
  have hn : isNum k = true := by simp only [isNum, Bool.and_eq_true, decide_eq_true_eq]; exact ⟨h.boxes, h.force, h.last, h.cake⟩
  unfold fault9
  rw [if_neg (fun e => e h.f1), if_neg h1, if_neg (fun e => e h.f3), if_neg h3, if_neg (fun e => e h.len), if_neg (by rw [h.ends]; decide), if_neg (by rw [hn]; decide), if_neg (by omega)]
theorem fault9_many {k : Wk} (h : fault9 k = 0) : many1 k.yard.fields * many3 k.beat ≤ 6000 := (fault9_0 h).2.2.2.2.2.2.2
def boxK (k : Wk) (b : Int) : Wk := { k with boxes := b }
theorem fault_box {k : Wk} (h : fault9 k = 0) {b : Int} (hb : 1 ≤ b ∧ b ≤ 3) : fault9 (boxK k b) = 0 := by
  have hK := okK_of h
  have hm := fault9_many h
  exact fault9_mk (k := boxK k b) ⟨hK.f1, hK.f3, hK.y, hK.b, hK.m1, hK.m3, hK.len, hK.ends, hK.t1, hK.t3, hb, hK.force, hK.last, hK.cake⟩ hm
theorem best_box (k : Wk) (b b' : Int) : bestL (boxK k b) b' = bestL k b' := rfl
theorem best_len {k : Wk} (h : OkK k) {b : Int} (hb : 1 ≤ b) : (bestL k b).1.length = k.yard.vats.length := (mem_plans.1 (bestL_ok h hb).mem).1
theorem best_bd {k : Wk} (h : OkK k) {b : Int} (hb : 1 ≤ b) : 0 ≤ (bestL k b).2 ∧ (bestL k b).2 ≤ 2703 := by
  rw [(bestL_ok h hb).val]; exact endV_bd h _
def zeros (k : Wk) : List Int := List.replicate k.yard.vats.length 0
theorem zeros_len (k : Wk) : (zeros k).length = k.yard.vats.length := by simp [zeros]
theorem zeros_nth {k : Wk} {i : Nat} (hi : i < k.yard.vats.length) : nth (zeros k) i = 0 := by simp [zeros, nth, hi]
theorem zeros_plan {k : Wk} (h : OkK k) : planP k (zeros k) = true := by
  rw [planP_eq h.boxes, isPlan_iff, mem_plans]
  have hb := h.boxes
  exact ⟨zeros_len k, fun x hx => by rw [List.eq_of_mem_replicate hx]; omega⟩
theorem zeros_end {k : Wk} (h : OkK k) (hn : 0 < k.yard.vats.length) : endV k (zeros k) = (nth (timesV k (zeros k)) (k.yard.vats.length - 1)).2 := by
  have h1 := endV_ge h (zeros k) (i := k.yard.vats.length - 1) (by omega)
  have h2 : endV k (zeros k) ≤ (nth (timesV k (zeros k)) (k.yard.vats.length - 1)).2 := by
    have h0 := (timesV_bd h (zeros k) (i := k.yard.vats.length - 1) (by omega))
    rw [endV_leP h]
    refine ⟨by omega, fun i hi p hp => ?_⟩
    have h3 := (times_in (zeros k) hp (i := k.yard.vats.length - 1) (by omega)).2
    have h4 := atN_grow (hr := hrP k p) (l := zeros k) (v := 0) (n := i + 1) (k.yard.vats.length - 1 - i) (fun j hj => (hrP_bd h hp (by omega)).1)
    rw [show i + 1 + (k.yard.vats.length - 1 - i) = k.yard.vats.length by omega] at h4
    rw [atP_eq, zeros_nth hi]
    rw [atP_eq, zeros_nth (by omega), show k.yard.vats.length - 1 + 1 = k.yard.vats.length by omega] at h3
    omega
  omega
theorem best_one {k : Wk} (h : OkK k) (hn : 0 < k.yard.vats.length) : (bestL k 1).2 = (nth (timesV k (zeros k)) (k.yard.vats.length - 1)).2 := by
  have h1 := bestL_ok h (b := 1) (by omega)
  obtain ⟨g1, g2⟩ := mem_plans.1 h1.mem
  have e : (bestL k 1).1 = zeros k := by
    rw [zeros, ← g1]
    exact List.eq_replicate_iff.2 ⟨rfl, fun x hx => by have := g2 x hx; omega⟩
  rw [h1.val, e, zeros_end h hn]
def mostT (k : Wk) (i : Nat) : Int := endR ((mudsV k fun m => (hoursR k.force m : Int)).take i)
theorem mostT_succ {k : Wk} {i : Nat} (hi : i < k.yard.vats.length) : mostT k (i + 1) = max (mostT k i) (nth (mudsV k fun m => (hoursR k.force m : Int)) i).2 := by
  simp only [mostT]
  rw [take_snoc (by rw [mudsV_len]; exact hi)]
  simp only [endR, List.foldl_append, List.foldl_cons, List.foldl_nil]
theorem mostT_all (k : Wk) : mostT k k.yard.vats.length = mostV k := by
  simp only [mostT, mostV]; rw [List.take_of_length_le (by rw [mudsV_len]; exact Nat.le_refl _)]
end Go.Proofs.YtkbaaikidhbfmaaGreat
/- Plain mathematics: works with a greater force, with smaller cakes, with a later last hour. No statement is proved here. -/
set_option linter.unusedVariables false
set_option linter.unusedSimpArgs false
namespace Go.Proofs.YtkbaaikidhbfmaaGreat
open Go.RowKit
def forceK (k : Wk) (f : Int) : Wk := { k with force := f }
def cakeK (k : Wk) (c : Int) : Wk := { k with cake := c }
def lastK (k : Wk) (x : Int) : Wk := { k with last := x }
theorem okK_force {k : Wk} (hK : OkK k) {f : Int} (hf : 1 ≤ f ∧ f ≤ 9) : OkK (forceK k f) := ⟨hK.f1, hK.f3, hK.y, hK.b, hK.m1, hK.m3, hK.len, hK.ends, hK.t1, hK.t3, hK.boxes, hf, hK.last, hK.cake⟩
theorem okK_cake {k : Wk} (hK : OkK k) {c : Int} (hc : 1 ≤ c ∧ c ≤ 50) : OkK (cakeK k c) := ⟨hK.f1, hK.f3, hK.y, hK.b, hK.m1, hK.m3, hK.len, hK.ends, hK.t1, hK.t3, hK.boxes, hK.force, hK.last, hc⟩
theorem okK_last {k : Wk} (hK : OkK k) {x : Int} (hx : 0 ≤ x ∧ x ≤ 99) : OkK (lastK k x) := ⟨hK.f1, hK.f3, hK.y, hK.b, hK.m1, hK.m3, hK.len, hK.ends, hK.t1, hK.t3, hK.boxes, hK.force, hx, hK.cake⟩
theorem fault_force {k : Wk} (h : fault9 k = 0) {f : Int} (hf : 1 ≤ f ∧ f ≤ 9) : fault9 (forceK k f) = 0 := by
  have hm := fault9_many h
  exact fault9_mk (k := forceK k f) (okK_force (okK_of h) hf) hm
theorem fault_cake {k : Wk} (h : fault9 k = 0) {c : Int} (hc : 1 ≤ c ∧ c ≤ 50) : fault9 (cakeK k c) = 0 := by
  have hm := fault9_many h
  exact fault9_mk (k := cakeK k c) (okK_cake (okK_of h) hc) hm
theorem fault_last {k : Wk} (h : fault9 k = 0) {x : Int} (hx : 0 ≤ x ∧ x ≤ 99) : fault9 (lastK k x) = 0 := by
  have hm := fault9_many h
  exact fault9_mk (k := lastK k x) (okK_last (okK_of h) hx) hm
theorem force_hours {k : Wk} (hK : OkK k) {f : Int} (hf : k.force ≤ f ∧ f ≤ 9) {i : Nat} (hi : i < k.yard.vats.length) :
    (nth (mudsV (forceK k f) fun m => (hoursR (forceK k f).force m : Int)) i).1 ≤ (nth (mudsV k fun m => (hoursR k.force m : Int)) i).1 ∧ (nth (mudsV (forceK k f) fun m => (hoursR (forceK k f).force m : Int)) i).2 ≤ (nth (mudsV k fun m => (hoursR k.force m : Int)) i).2 := by
  have h1 := hK.force
  have hK2 := okK_force hK (f := f) (by omega)
  obtain ⟨g1, g2, g3, _, _⟩ := muds_bd hK hi
  have e : (mudsV (forceK k f) fun m => m) = mudsV k fun m => m := rfl
  have q1 := hoursR_force (m := (nth (mudsV k fun m => m) i).1) h1.1 hf.1 (by omega)
  have q2 := hoursR_force (m := (nth (mudsV k fun m => m) i).2) h1.1 hf.1 (by omega)
  rw [hours_mono hK hi, hours_mono hK2 hi, e]
  exact ⟨Int.ofNat_le.2 q1, Int.ofNat_le.2 q2⟩
theorem div_le {x c c' : Int} (hx : 0 ≤ x) (hc : 1 ≤ c') (h : c' ≤ c) : x / c ≤ x / c' := by
  refine (Int.le_ediv_iff_mul_le (by omega)).2 ?_
  have h1 : 0 ≤ x / c := Int.ediv_nonneg hx (by omega)
  have h2 : x / c * c' ≤ x / c * c := Int.mul_le_mul_of_nonneg_left h h1
  have h3 : x / c * c ≤ x := Int.ediv_mul_le x (by omega)
  omega
theorem cake_more {k : Wk} (hK : OkK k) {c : Int} (hc : 1 ≤ c ∧ c ≤ k.cake) {i : Nat} (hi : i < k.yard.vats.length) :
    (nth (mudsV k fun m => m / k.cake) i).1 ≤ (nth (mudsV (cakeK k c) fun m => m / (cakeK k c).cake) i).1 ∧ (nth (mudsV k fun m => m / k.cake) i).2 ≤ (nth (mudsV (cakeK k c) fun m => m / (cakeK k c).cake) i).2 := by
  have h1 := hK.cake
  have hK2 := okK_cake hK (c := c) (by omega)
  obtain ⟨g1, g2, g3, _, _⟩ := muds_bd hK hi
  have e : (mudsV (cakeK k c) fun m => m) = mudsV k fun m => m := rfl
  rw [cakes_mono hK hi, cakes_mono hK2 hi, e]
  exact ⟨div_le g1 hc.1 hc.2, div_le (by omega) hc.1 hc.2⟩
theorem end_force {k : Wk} (hK : OkK k) {f : Int} (hf : k.force ≤ f ∧ f ≤ 9) (l : List Int) : endV (forceK k f) l ≤ endV k l := by
  have h1 := hK.force
  have hK2 := okK_force hK (f := f) (by omega)
  obtain ⟨q1, q2⟩ := (endV_leP hK (l := l)).1 (Int.le_refl _)
  rw [endV_leP hK2]
  refine ⟨q1, fun i hi p hp => ?_⟩
  refine Int.le_trans ?_ (q2 i hi p hp)
  refine atN_mono _ fun j hj => ?_
  have h3 := mudR_bd hK (p := p) hp (i := j) (by have : i < k.yard.vats.length := hi; omega)
  exact Int.ofNat_le.2 (hoursR_force h1.1 hf.1 h3.2)
theorem best_force {k : Wk} (hK : OkK k) {f : Int} (hf : k.force ≤ f ∧ f ≤ 9) {b : Int} (hb : 1 ≤ b) : (bestL (forceK k f) b).2 ≤ (bestL k b).2 := by
  have h1 := hK.force
  have hK2 := okK_force hK (f := f) (by omega)
  have b1 := bestL_ok hK hb
  have b2 := bestL_ok hK2 hb
  rw [b1.val]
  exact Int.le_trans (b2.least _ b1.mem) (end_force hK hf _)
end Go.Proofs.YtkbaaikidhbfmaaGreat
/- Plain mathematics: who may be too late. No statement is proved here. -/
set_option linter.unusedVariables false
set_option linter.unusedSimpArgs false
namespace Go.Proofs.YtkbaaikidhbfmaaGreat
open Go.RowKit
theorem planned_plan {k : Wk} (h : OkK k) {xs : List Int} (hW : Words xs) : planP k (plannedL k xs) = true := by
  have hb := h.boxes
  rw [planP_eq hb, isPlan_iff, mem_plans]
  refine ⟨plannedL_len k xs, fun x hx => ?_⟩
  obtain ⟨i, hi, rfl⟩ := List.mem_map.1 hx
  have h1 := Int.emod_nonneg (wordR xs i) (b := k.boxes) (by omega)
  have h2 := Int.emod_lt_of_pos (wordR xs i) (b := k.boxes) (by omega)
  omega
/-- Nobody is too late, or there is a first one. -/
theorem late_cases {k : Wk} (h : OkK k) (l : List Int) : (lateR k l = (0, 7) ∧ endV k l ≤ k.last) ∨
    (∃ i : Nat, lateR k l = ((i : Int), 0) ∧ k.last < endV k l ∧ i < k.yard.vats.length ∧ k.last < (nth (timesV k l) i).2 ∧ ∀ j, j < i → (nth (timesV k l) j).2 ≤ k.last) := by
  have hl := timesV_len k l
  unfold lateR
  cases hq : (timesV k l).findIdx? (fun r => decide (k.last < r.2)) with
  | none =>
    refine .inl ⟨rfl, ?_⟩
    rw [endV_le h]
    refine ⟨h.last.1, fun i hi => ?_⟩
    have := List.findIdx?_eq_none_iff.1 hq _ (nth_mem (l := timesV k l) (i := i) (by omega))
    simpa using this
  | some i =>
    obtain ⟨hi, h1, h2⟩ := List.findIdx?_eq_some_iff_getElem.1 hq
    have e : nth (timesV k l) i = (timesV k l)[i] := by simp [nth, hi]
    have h3 : k.last < (nth (timesV k l) i).2 := by rw [e]; simpa using h1
    have h4 := endV_ge h l (i := i) (by omega)
    refine .inr ⟨i, rfl, by omega, by omega, h3, fun j hj => ?_⟩
    have e2 : nth (timesV k l) j = (timesV k l)[j] := by simp [nth, show j < (timesV k l).length by omega]
    rw [e2]; simpa using h2 j hj
theorem late_law {k : Wk} (h : OkK k) {y : Int} (hy : k.last ≤ y ∧ y ≤ 99) {L P : List Int} (hL : L = (bestL k k.boxes).1) (hP : planP k P = true) :
    ((lateR k L).2 = 7 ∧ (bestL k k.boxes).2 ≤ k.last ∨ (lateR k L).2 = 0 ∧ k.last < (bestL k k.boxes).2) ∧
    ((lateR k P).2 = 7 ∧ (lateR k L).2 = 7 ∧ (lateR (lastK k y) P).2 = 7 ∨ (lateR k P).2 = 0 ∧ (lateR (lastK k y) P).2 = 7 ∨ (lateR k P).2 = 0 ∧ (lateR (lastK k y) P).2 = 0 ∧ (lateR k P).1 ≤ (lateR (lastK k y) P).1) := by
  have hl0 := h.last
  have hK2 := okK_last h (x := y) (by omega)
  have hb := bestL_ok h h.boxes.1
  have hv : (bestL k k.boxes).2 = endV k L := by rw [hL]; exact hb.val
  have hP2 : P ∈ lex (List.replicate k.yard.vats.length (0, k.boxes - 1)) := isPlan_iff.1 (by rw [← planP_eq h.boxes]; exact hP)
  have hle := hb.least P hP2
  have ee : endV (lastK k y) P = endV k P := rfl
  have et : timesV (lastK k y) P = timesV k P := rfl
  have el : (lastK k y).last = y := rfl
  have en : (lastK k y).yard.vats.length = k.yard.vats.length := rfl
  have q1 := late_cases h L
  have q2 := late_cases h P
  have q3 := late_cases hK2 P
  rw [ee, et, el, en] at q3
  refine ⟨?_, ?_⟩
  · rcases q1 with ⟨e, h1⟩ | ⟨i, e, h1, _⟩
    · exact .inl ⟨by rw [e], by omega⟩
    · exact .inr ⟨by rw [e], by omega⟩
  · rcases q2 with ⟨e2, h2⟩ | ⟨i, e2, h2, h3, h4, h5⟩
    · left
      refine ⟨by rw [e2], ?_, ?_⟩
      · rcases q1 with ⟨e, h1⟩ | ⟨i, e, h1, _⟩
        · rw [e]
        · omega
      · rcases q3 with ⟨e, h1⟩ | ⟨i, e, h1, _⟩
        · rw [e]
        · omega
    · right
      rcases q3 with ⟨e3, h6⟩ | ⟨j, e3, h6, h7, h8, h9⟩
      · exact .inl ⟨by rw [e2], by rw [e3]⟩
      · refine .inr ⟨by rw [e2], by rw [e3], ?_⟩
        rw [e2, e3]
        simp only
        rcases Nat.lt_or_ge j i with hj | hj
        · have := h5 j hj; omega
        · omega
end Go.Proofs.YtkbaaikidhbfmaaGreat
/- Plain mathematics: boxes that exchange their vats; no plan is better than the best one. No statement is proved here. -/
set_option linter.unusedVariables false
set_option linter.unusedSimpArgs false
namespace Go.Proofs.YtkbaaikidhbfmaaGreat
open Go.RowKit
def swp (a b x : Int) : Int := if x = a then b else if x = b then a else x
theorem swp_inj {a b x y : Int} : swp a b x = swp a b y ↔ x = y := by
  simp only [swp]
  repeat' split
  all_goals omega
/-- The first ones are turned. -/
def turnL (P : List Int) (a b : Int) (i : Nat) : List Int := (List.range P.length).map fun j => if j < i then swp a b (nth P j) else nth P j
theorem turnL_len (P : List Int) (a b : Int) (i : Nat) : (turnL P a b i).length = P.length := by simp [turnL]
theorem turnL_nth {P : List Int} {a b : Int} {i j : Nat} (h : j < P.length) : nth (turnL P a b i) j = if j < i then swp a b (nth P j) else nth P j := by simp [turnL, nth, h]
theorem turnL_zero (P : List Int) (a b : Int) : turnL P a b 0 = P := by
  refine nth_ext (turnL_len ..) fun j hj => ?_
  rw [turnL_len] at hj
  rw [turnL_nth hj, if_neg (Nat.not_lt_zero j)]
theorem turnL_set {P : List Int} {a b : Int} {i : Nat} (h : i < P.length) : (turnL P a b i).set i (swp a b (nth P i)) = turnL P a b (i + 1) := by
  refine nth_ext (by rw [List.length_set, turnL_len, turnL_len]) fun j hj => ?_
  rw [List.length_set, turnL_len] at hj
  rw [nth_set (by rw [turnL_len]; exact h), turnL_nth hj, turnL_nth hj]
  by_cases e : j = i
  · subst e; rw [if_pos rfl, if_pos (by omega)]
  · rw [if_neg e]
    by_cases e2 : j < i
    · rw [if_pos e2, if_pos (by omega)]
    · rw [if_neg e2, if_neg (by omega)]
theorem turnL_same {P : List Int} {a b : Int} {i : Nat} (h : i < P.length) (he : swp a b (nth P i) = nth P i) : turnL P a b (i + 1) = turnL P a b i := by
  refine nth_ext (by rw [turnL_len, turnL_len]) fun j hj => ?_
  rw [turnL_len] at hj
  rw [turnL_nth hj, turnL_nth hj]
  by_cases e : j = i
  · subst e; rw [if_pos (by omega), if_neg (by omega), he]
  · by_cases e2 : j < i
    · rw [if_pos e2, if_pos (by omega)]
    · rw [if_neg e2, if_neg (by omega)]
def turned (P : List Int) (a b : Int) : List Int := turnL P a b P.length
theorem turned_nth {P : List Int} {a b : Int} {j : Nat} (h : j < P.length) : nth (turned P a b) j = swp a b (nth P j) := by rw [turned, turnL_nth h, if_pos h]
theorem turned_len (P : List Int) (a b : Int) : (turned P a b).length = P.length := turnL_len ..
theorem plan_nth {k : Wk} (h : OkK k) {P : List Int} : planP k P = true ↔ P.length = k.yard.vats.length ∧ ∀ i, i < P.length → 0 ≤ nth P i ∧ nth P i ≤ k.boxes - 1 := by
  rw [planP_eq h.boxes]
  simp only [isPlan, Bool.and_eq_true, decide_eq_true_eq]
  constructor
  · rintro ⟨h1, h2⟩; exact ⟨h2, fun i hi => of_decide_eq_true (all_nth.1 h1 i hi)⟩
  · rintro ⟨h1, h2⟩; exact ⟨all_nth.2 fun i hi => decide_eq_true (h2 i hi), h1⟩
theorem turned_plan {k : Wk} (h : OkK k) {P : List Int} (hP : planP k P = true) {a b : Int} (ha : 0 ≤ a ∧ a ≤ k.boxes - 1) (hb : 0 ≤ b ∧ b ≤ k.boxes - 1) : planP k (turned P a b) = true := by
  obtain ⟨h1, h2⟩ := (plan_nth h).1 hP
  rw [plan_nth h]
  refine ⟨by rw [turned_len, h1], fun i hi => ?_⟩
  rw [turned_len] at hi
  rw [turned_nth hi]
  have := h2 i hi
  simp only [swp]
  repeat' split
  all_goals omega
theorem turned_times {k : Wk} {P : List Int} (hl : P.length = k.yard.vats.length) (a b : Int) : timesV k (turned P a b) = timesV k P := by
  simp only [timesV, bnds, List.map_inj_left, List.mem_range]
  intro i hi
  congr 1
  refine List.map_congr_left fun p hp => ?_
  rw [atP_eq, atP_eq]
  refine atN_box _ fun j hj => ?_
  rw [turned_nth (by omega), turned_nth (by omega), swp_inj]
theorem no_better {k : Wk} (h : OkK k) {P : List Int} (hP : planP k P = true) : endV k (bestL k k.boxes).1 = (bestL k k.boxes).2 ∧ (bestL k k.boxes).2 ≤ endV k P ∧ (endV k P ≤ (bestL k k.boxes).2 → bef P (bestL k k.boxes).1 = false) := by
  have hb := bestL_ok h h.boxes.1
  have hP2 : P ∈ lex (List.replicate k.yard.vats.length (0, k.boxes - 1)) := isPlan_iff.1 (by rw [← planP_eq h.boxes]; exact hP)
  have h1 := hb.least P hP2
  exact ⟨hb.val.symm, h1, fun h2 => hb.first P hP2 (by omega)⟩
end Go.Proofs.YtkbaaikidhbfmaaGreat
/- The walk of the law PressNoBetter. No statement is proved here. -/
set_option linter.unusedVariables false
set_option linter.unusedSimpArgs false
namespace Go.Proofs.YtkbaaikidhbfmaaGreat
open Go.RowKit
section
variable {w : World} {a b c d e f xv pv : Value} {hs : List Value} {k : Wk} {xs l : List Int} {x : Int}
theorem c61T (h : WkA All w a b c hs d e f k) (hf : fault9 k = 0) (hl : Arr All w 1 encI pv l) (hp : planP k l = true) (hx : endV k l ≤ x) : Ex 61 [wkV a b c d e f k, pv, .int .i64 x] w (.bool true) := by
  have := c61F h hf hl x hp
  rwa [decide_eq_true hx] at this
theorem c61L (h : WkA All w a b c hs d e f k) (hf : fault9 k = 0) (hl : Arr All w 1 encI pv l) (hp : planP k l = true) (hx : ¬ endV k l ≤ x) : Ex 61 [wkV a b c d e f k, pv, .int .i64 x] w (.bool false) := by
  have := c61F h hf hl x hp
  rwa [decide_eq_false hx] at this
theorem c64F {va vb : Value} {xs ys : List Int} (w : World) (ha : Arr All w 1 encI va xs) (hb : Arr All w 1 encI vb ys) (hl : xs.length = ys.length) (he : bef xs ys = false) : Ex 64 [va, vb] w (.bool false) := by
  have := c64 w va vb xs ys ha hb hl
  rwa [he] at this
set_option maxRecDepth 100000 in
set_option maxHeartbeats 8000000 in
theorem law19_good (h : WkA All w a b c hs d e f k) (x y : Int) (hA : Arr All w 1 encU xv xs) (hWd : Words xs) (hx : 0 ≤ x ∧ x ≤ 255) (hy : 0 ≤ y ∧ y ≤ 255) (hr : readyW k = true) : Ex 19 [wkV a b c d e f k, xv, .int .u8 x, .int .u8 y] w (.bool true) := by
  have i1 := h.yard.fields.v1
  have i2 := h.yard.vats.arr.v1
  have i3 := h.yard.smps.v1
  have i4 := h.beat.vats.v1
  have i5 := h.beat.smps.v1
  have i6 := h.ends.v1
  have i7 := hA.v1
  obtain ⟨ht, hf⟩ := ready_iff.1 hr
  have hK := okK_of hf
  have v3 := hK.v3
  refine Rt_of Tryz.func19 rfl Tryz.ntmps19 rfl ?_

  apply GC_seq
  refine GC_mid (α := Nat) (fun s => [(4, pt s), (1, xv), (2, .int .u8 x), (3, .int .u8 y)]) (fun s => [((fun _ => True), w)]) (fun s => [(s, .cells (wkC a b c d e f k).toArray 35)]) (fun s => True) ?_ ?_
  · repeat' (first | apply s_ | ((first | apply JO_ob | apply GD_ex | apply GL_ex); exact rfl; first | exact ob1) | ((first | apply b_ | apply a_ | apply i_); exact z_; intro _) | ((first | apply p_ | apply JO_yes | apply GC_t); exact z_) | (apply n_; exact z_) | (apply GC_f; exact z_) | (apply GX_block_on; exact z_) | refine GC_drawA (id := 4) [0, 1, 2, 3, 4, 5, 6, 7, 8, 9, 10, 11] [] (by kernel_rfl) ?_ | refine GC_drawA (id := 21) [0, 1, 2, 3, 4, 5, 6, 7, 8] [] (by kernel_rfl) ?_ | ((first | apply GD_at | apply GL_at | apply GD_no | apply GL_no); exact rfl) | apply DFin_0 | (apply q1_; exact z_) | (apply q0_; exact z_) | (apply q2_; exact z_))
    all_goals exact GX_loop _ ⟨rfl, rfl, rfl, rfl, trivial⟩ Nat.zero_lt_one trivial (fun w hw => hw.cut)
  intro p4 _
  try simp only
  apply GC_seq
  refine GC_mid (α := Unit) (fun s => [(4, pt p4), (1, xv), (2, .int .u8 x), (3, .int .u8 y)]) (fun s => [((fun _ => True), w)]) (fun s => [(p4, .cells (wkC a b c d e f k).toArray 35)]) (fun s => True) ?_ ?_
  · repeat' (first | apply s_ | ((first | apply JO_ob | apply GD_ex | apply GL_ex); exact rfl; first | exact ob1 | exact Ob_call rfl (fun w5 hw5 => c48T (hw5.wk mem_ h) hr)) | ((first | apply b_ | apply a_ | apply i_); exact z_; intro _) | ((first | apply p_ | apply JO_yes | apply GC_t); exact z_) | (apply n_; exact z_) | (apply GC_f; exact z_) | (apply GX_block_on; exact z_) | refine GC_drawA (id := 4) [0, 1, 2, 3, 4, 5, 6, 7, 8, 9, 10, 11] [] (by kernel_rfl) ?_ | refine GC_drawA (id := 21) [0, 1, 2, 3, 4, 5, 6, 7, 8] [] (by kernel_rfl) ?_ | ((first | apply GD_at | apply GL_at | apply GD_no | apply GL_no); exact rfl) | apply DFin_0 | (apply q1_; exact z_) | (apply q0_; exact z_) | (apply q2_; exact z_))
    all_goals exact GX_loop () ⟨rfl, rfl, rfl, rfl, trivial⟩ Nat.zero_lt_one trivial (fun w hw => hw.cut)
  intro _ _
  try simp only
  apply GC_seq
  refine GC_mid (α := VG) (fun s => [(9, s.1), (4, pt p4), (1, xv), (2, .int .u8 x), (3, .int .u8 y)]) (fun s => [(s.2.1, s.2.2), ((fun _ => True), w)]) (fun s => [(p4, .cells (wkC a b c d e f k).toArray 35)]) (fun s => Arr s.2.1 s.2.2 1 encI s.1 (plannedL k xs)) ?_ ?_
  · repeat' (first | apply s_ | ((first | apply JO_ob | apply GD_ex | apply GL_ex); exact rfl; first | exact ob1) | ((first | apply b_ | apply a_ | apply i_); exact z_; intro _) | ((first | apply p_ | apply JO_yes | apply GC_t); exact z_) | (apply n_; exact z_) | (apply GC_f; exact z_) | (apply GX_block_on; exact z_) | refine GC_drawA (id := 4) [0, 1, 2, 3, 4, 5, 6, 7, 8, 9, 10, 11] [] (by kernel_rfl) ?_ | refine GC_drawA (id := 21) [0, 1, 2, 3, 4, 5, 6, 7, 8] [] (by kernel_rfl) ?_ | ((first | apply GD_at | apply GL_at | apply GD_no | apply GL_no); exact rfl) | apply DFin_0 | (apply q1_; exact z_) | (apply q0_; exact z_) | (apply q2_; exact z_))
    refine JO_call (S := ListW (plannedL k xs)) rfl rfl (fun w5 hw5 => c56 (hw5.wk mem_ h) v3 hK.boxes xs (hw5.arr mem_ hA) hWd) ?_
    rintro _ uc0 ud0 hc0 hd0 hl0 hr0
    rename_i r0
    have ir0 := hr0.v1
    repeat' (first | apply s_ | ((first | apply JO_ob | apply GD_ex | apply GL_ex); exact rfl; first | exact ob1) | ((first | apply b_ | apply a_ | apply i_); exact z_; intro _) | ((first | apply p_ | apply JO_yes | apply GC_t); exact z_) | (apply n_; exact z_) | (apply GC_f; exact z_) | (apply GX_block_on; exact z_) | refine GC_drawA (id := 4) [0, 1, 2, 3, 4, 5, 6, 7, 8, 9, 10, 11] [] (by kernel_rfl) ?_ | refine GC_drawA (id := 21) [0, 1, 2, 3, 4, 5, 6, 7, 8] [] (by kernel_rfl) ?_ | ((first | apply GD_at | apply GL_at | apply GD_no | apply GL_no); exact rfl) | apply DFin_0 | (apply q1_; exact z_) | (apply q0_; exact z_) | (apply q2_; exact z_))
    all_goals exact GX_loop (r0, (fun b => uc0.heap.size ≤ b), ud0) ⟨rfl, rfl, rfl, rfl, rfl, trivial⟩ Nat.zero_lt_one hr0 (fun w hw => hw.cut)
  rintro ⟨rw, Gw, ww⟩ hrw
  simp only at hrw ⊢
  have irw := hrw.v1
  have brw := hrw.bound
  have hbx := hK.boxes
  have hpl := planned_plan hK hWd
  have lpl := plannedL_len k xs
  have lbl := best_len hK (b := k.boxes) hK.boxes.1
  generalize plannedL k xs = P at hpl lpl hrw brw ⊢
  apply GC_seq
  refine GC_mid (α := Unit) (fun s => [(10, .int .i64 (x % k.boxes)), (11, .int .i64 (y % k.boxes)), (9, rw), (4, pt p4), (1, xv), (2, .int .u8 x), (3, .int .u8 y)]) (fun s => [(Gw, ww), ((fun _ => True), w)]) (fun s => [(p4, .cells (wkC a b c d e f k).toArray 35)]) (fun s => True) ?_ ?_
  · repeat' (first | apply s_ | ((first | apply JO_ob | apply GD_ex | apply GL_ex); exact rfl; first | exact ob1 | exact Ob_convert rfl (wrapI (by omega) (by omega)) | exact Ob_rem rfl rfl (by omega) (by omega)) | ((first | apply b_ | apply a_ | apply i_); exact z_; intro _) | ((first | apply p_ | apply JO_yes | apply GC_t); exact z_) | (apply n_; exact z_) | (apply GC_f; exact z_) | (apply GX_block_on; exact z_) | refine GC_drawA (id := 4) [0, 1, 2, 3, 4, 5, 6, 7, 8, 9, 10, 11] [] (by kernel_rfl) ?_ | refine GC_drawA (id := 21) [0, 1, 2, 3, 4, 5, 6, 7, 8] [] (by kernel_rfl) ?_ | ((first | apply GD_at | apply GL_at | apply GD_no | apply GL_no); exact rfl) | apply DFin_0 | (apply q1_; exact z_) | (apply q0_; exact z_) | (apply q2_; exact z_))
    all_goals exact GX_loop () ⟨rfl, rfl, rfl, rfl, rfl, rfl, rfl, trivial⟩ Nat.zero_lt_one trivial (fun w hw => hw.cut)
  intro _ _
  try simp only
  have ha1 := Int.emod_nonneg x (b := k.boxes) (by omega)
  have ha2 := Int.emod_lt_of_pos x (b := k.boxes) (by omega)
  have hb1 := Int.emod_nonneg y (b := k.boxes) (by omega)
  have hb2 := Int.emod_lt_of_pos y (b := k.boxes) (by omega)
  generalize x % k.boxes = a9 at ha1 ha2 ⊢
  generalize y % k.boxes = b9 at hb1 hb2 ⊢
  have hpt := turned_plan hK hpl (a := a9) (b := b9) (by omega) (by omega)
  have ett := turned_times lpl a9 b9
  have ltt := turned_len P a9 b9
  obtain ⟨nb1, nb2, nb3⟩ := no_better hK hpl
  apply GC_seq
  refine GC_mid (α := Value × List Value) (fun s => [(12, s.1), (10, .int .i64 (a9)), (11, .int .i64 (b9)), (9, rw), (4, pt p4), (1, xv), (2, .int .u8 x), (3, .int .u8 y)]) (fun s => [(Gw, ww), ((fun _ => True), w)]) (fun s => rowH s.1 3 (P.flatMap encI ++ s.2) ++ [(p4, .cells (wkC a b c d e f k).toArray 35)]) (fun s => Own 1 encI s.1 P s.2) ?_ ?_
  · repeat' (first | apply s_ | ((first | apply JO_ob | apply GD_ex | apply GL_ex); exact rfl; first | exact ob1) | ((first | apply b_ | apply a_ | apply i_); exact z_; intro _) | ((first | apply p_ | apply JO_yes | apply GC_t); exact z_) | (apply n_; exact z_) | (apply GC_f; exact z_) | (apply GX_block_on; exact z_) | refine GC_drawA (id := 4) [0, 1, 2, 3, 4, 5, 6, 7, 8, 9, 10, 11] [] (by kernel_rfl) ?_ | refine GC_drawA (id := 21) [0, 1, 2, 3, 4, 5, 6, 7, 8] [] (by kernel_rfl) ?_ | ((first | apply GD_at | apply GL_at | apply GD_no | apply GL_no); exact rfl) | apply DFin_0 | (apply q1_; exact z_) | (apply q0_; exact z_) | (apply q2_; exact z_))
    refine JO_list rfl rfl (fun w5 hw5 => up hw5 mem_ hrw) (by omega) ?_
    intro r0 sp0 ho0
    have ir0 := ho0.v1
    repeat' (first | apply s_ | ((first | apply JO_ob | apply GD_ex | apply GL_ex); exact rfl; first | exact ob1) | ((first | apply b_ | apply a_ | apply i_); exact z_; intro _) | ((first | apply p_ | apply JO_yes | apply GC_t); exact z_) | (apply n_; exact z_) | (apply GC_f; exact z_) | (apply GX_block_on; exact z_) | refine GC_drawA (id := 4) [0, 1, 2, 3, 4, 5, 6, 7, 8, 9, 10, 11] [] (by kernel_rfl) ?_ | refine GC_drawA (id := 21) [0, 1, 2, 3, 4, 5, 6, 7, 8] [] (by kernel_rfl) ?_ | ((first | apply GD_at | apply GL_at | apply GD_no | apply GL_no); exact rfl) | apply DFin_0 | (apply q1_; exact z_) | (apply q0_; exact z_) | (apply q2_; exact z_))
    exact GX_loop (r0, sp0) ⟨rfl, rfl, rfl, rfl, rfl, rfl, rfl, rfl, trivial⟩ Nat.zero_lt_one ho0 (fun w hw => hw)
  rintro ⟨rt, spt⟩ hot
  simp only at hot ⊢
  have irt := hot.v1
  apply GC_seq
  refine GC_mid (α := VG) (fun s => [(12, s.1), (10, .int .i64 (a9)), (11, .int .i64 (b9)), (9, rw), (4, pt p4), (1, xv), (2, .int .u8 x), (3, .int .u8 y)]) (fun s => [(s.2.1, s.2.2), (Gw, ww), ((fun _ => True), w)]) (fun s => [(p4, .cells (wkC a b c d e f k).toArray 35)]) (fun s => Arr s.2.1 s.2.2 1 encI s.1 (turned P a9 b9)) ?_ ?_
  · have llt : ∀ (b' : World) (R' : Rgs) (H' : Hp) (fr' : Slots) (dst : Option Nat) (g' : Option (Nat × Bool)) (ty : TypeId) (ps : String) (af : Array Edge) {t e sz by_ : Nat} {x' : Operand} [TySl t e sz by_], ev fr' x' = some rt → Ob b' R' H' ⟨dst, .call ⟨.builtin .len, #[x'], #[t]⟩, ty, ps, af, g'⟩ fr' (.int .i64 (P.length : Int)) := fun b' R' H' fr' dst g' ty ps af t e sz by_ x' i hx => by
      rcases hot.c with ⟨rfl, e0, _⟩ | ⟨bb, cc, rfl, _⟩
      · rw [e0]; exact Ob_len_lit hx
      · exact Ob_len_lit hx
    repeat' (first | apply s_ | ((first | apply JO_ob | apply GD_ex | apply GL_ex); exact rfl; first | exact ob1) | ((first | apply b_ | apply a_ | apply i_); exact z_; intro _) | ((first | apply p_ | apply JO_yes | apply GC_t); exact z_) | (apply n_; exact z_) | (apply GC_f; exact z_) | (apply GX_block_on; exact z_) | refine GC_drawA (id := 4) [0, 1, 2, 3, 4, 5, 6, 7, 8, 9, 10, 11] [] (by kernel_rfl) ?_ | refine GC_drawA (id := 21) [0, 1, 2, 3, 4, 5, 6, 7, 8] [] (by kernel_rfl) ?_ | ((first | apply GD_at | apply GL_at | apply GD_no | apply GL_no); exact rfl) | apply DFin_0 | (apply q1_; exact z_) | (apply q0_; exact z_) | (apply q2_; exact z_))
    refine GC_loop (α := Nat) (fun i => P.length - i) (fun i => [(12, rt), (13, .int .i64 (i : Int)), (10, .int .i64 (a9)), (11, .int .i64 (b9)), (9, rw), (4, pt p4), (1, xv), (2, .int .u8 x), (3, .int .u8 y)]) (fun _ => [(Gw, ww), ((fun _ => True), w)]) (fun i => rowH rt 3 ((turnL P a9 b9 i).flatMap encI ++ spt) ++ [(p4, .cells (wkC a b c d e f k).toArray 35)]) (fun i => i ≤ P.length) 0 ⟨rfl, rfl, rfl, rfl, rfl, rfl, rfl, rfl, rfl, trivial⟩ (Nat.zero_le _) (fun w hw => by rw [turnL_zero]; exact hw) ?_
    intro i hi
    by_cases hlt : i < P.length
    · rcases hot.c with ⟨_, e0, _⟩ | ⟨bb, cc, rfl, g1, g2, g3, g4⟩
      · omega
      have hlt2 : i < (turnL P a9 b9 i).length := by rw [turnL_len]; exact hlt
      simp only [rowH, List.cons_append, List.nil_append]
      by_cases e1 : nth P i = a9
      · have es : swp a9 b9 (nth P i) = b9 := by simp only [swp, if_pos e1]
        repeat' (first | apply s_ | ((first | apply JO_ob | apply GD_ex | apply GL_ex); exact rfl; first | exact ob1 | exact Ob_index_row rfl rfl hlt) | ((first | apply b_ | apply a_ | apply i_); exact z_; intro _) | ((first | apply p_ | apply JO_yes | apply GC_t); exact z_) | (apply n_; exact z_) | (apply GC_f; exact z_) | (apply GX_block_on; exact z_) | refine GC_drawA (id := 4) [0, 1, 2, 3, 4, 5, 6, 7, 8, 9, 10, 11] [] (by kernel_rfl) ?_ | refine GC_drawA (id := 21) [0, 1, 2, 3, 4, 5, 6, 7, 8] [] (by kernel_rfl) ?_ | ((first | apply GD_at | apply GL_at | apply GD_no | apply GL_no); exact rfl) | apply DFin_0 | (apply q1_; exact z_) | (apply q0_; exact z_) | (apply q2_; exact z_))
        refine JO_store_row (m := 1) (k := 0) (sz := 1) (j := 0) (xs := turnL P a9 b9 i) (sp := spt) (a := nth (turnL P a9 b9 i) i) (a' := b9) (vs := [.int .i64 b9]) (fun _ => rfl) rfl rfl rfl inferInstance rfl (nth_some hlt2) (Nat.le_refl 1) rfl ?_
        simp only [setH]
        repeat' (first | apply s_ | ((first | apply JO_ob | apply GD_ex | apply GL_ex); exact rfl; first | exact ob1) | ((first | apply b_ | apply a_ | apply i_); exact z_; intro _) | ((first | apply p_ | apply JO_yes | apply GC_t); exact z_) | (apply n_; exact z_) | (apply GC_f; exact z_) | (apply GX_block_on; exact z_) | refine GC_drawA (id := 4) [0, 1, 2, 3, 4, 5, 6, 7, 8, 9, 10, 11] [] (by kernel_rfl) ?_ | refine GC_drawA (id := 21) [0, 1, 2, 3, 4, 5, 6, 7, 8] [] (by kernel_rfl) ?_ | ((first | apply GD_at | apply GL_at | apply GD_no | apply GL_no); exact rfl) | apply DFin_0 | (apply q1_; exact z_) | (apply q0_; exact z_) | (apply q2_; exact z_))
        refine GX_loop (i + 1) ⟨rfl, rfl, rfl, rfl, rfl, rfl, rfl, rfl, rfl, trivial⟩ (by omega) (by omega) (fun w hw => ?_)
        rw [← turnL_set hlt, es]; exact hw
      · by_cases e2 : nth P i = b9
        · have es : swp a9 b9 (nth P i) = a9 := by simp only [swp, if_neg e1, if_pos e2]
          repeat' (first | apply s_ | ((first | apply JO_ob | apply GD_ex | apply GL_ex); exact rfl; first | exact ob1 | exact Ob_index_row rfl rfl hlt) | ((first | apply b_ | apply a_ | apply i_); exact z_; intro _) | ((first | apply p_ | apply JO_yes | apply GC_t); exact z_) | (apply n_; exact z_) | (apply GC_f; exact z_) | (apply GX_block_on; exact z_) | refine GC_drawA (id := 4) [0, 1, 2, 3, 4, 5, 6, 7, 8, 9, 10, 11] [] (by kernel_rfl) ?_ | refine GC_drawA (id := 21) [0, 1, 2, 3, 4, 5, 6, 7, 8] [] (by kernel_rfl) ?_ | ((first | apply GD_at | apply GL_at | apply GD_no | apply GL_no); exact rfl) | apply DFin_0 | (apply q1_; exact z_) | (apply q0_; exact z_) | (apply q2_; exact z_))
          refine JO_store_row (m := 1) (k := 0) (sz := 1) (j := 0) (xs := turnL P a9 b9 i) (sp := spt) (a := nth (turnL P a9 b9 i) i) (a' := a9) (vs := [.int .i64 a9]) (fun _ => rfl) rfl rfl rfl inferInstance rfl (nth_some hlt2) (Nat.le_refl 1) rfl ?_
          simp only [setH]
          repeat' (first | apply s_ | ((first | apply JO_ob | apply GD_ex | apply GL_ex); exact rfl; first | exact ob1) | ((first | apply b_ | apply a_ | apply i_); exact z_; intro _) | ((first | apply p_ | apply JO_yes | apply GC_t); exact z_) | (apply n_; exact z_) | (apply GC_f; exact z_) | (apply GX_block_on; exact z_) | refine GC_drawA (id := 4) [0, 1, 2, 3, 4, 5, 6, 7, 8, 9, 10, 11] [] (by kernel_rfl) ?_ | refine GC_drawA (id := 21) [0, 1, 2, 3, 4, 5, 6, 7, 8] [] (by kernel_rfl) ?_ | ((first | apply GD_at | apply GL_at | apply GD_no | apply GL_no); exact rfl) | apply DFin_0 | (apply q1_; exact z_) | (apply q0_; exact z_) | (apply q2_; exact z_))
          refine GX_loop (i + 1) ⟨rfl, rfl, rfl, rfl, rfl, rfl, rfl, rfl, rfl, trivial⟩ (by omega) (by omega) (fun w hw => ?_)
          rw [← turnL_set hlt, es]; exact hw
        · have es : swp a9 b9 (nth P i) = nth P i := by simp only [swp, if_neg e1, if_neg e2]
          repeat' (first | apply s_ | ((first | apply JO_ob | apply GD_ex | apply GL_ex); exact rfl; first | exact ob1) | ((first | apply b_ | apply a_ | apply i_); exact z_; intro _) | ((first | apply p_ | apply JO_yes | apply GC_t); exact z_) | (apply n_; exact z_) | (apply GC_f; exact z_) | (apply GX_block_on; exact z_) | refine GC_drawA (id := 4) [0, 1, 2, 3, 4, 5, 6, 7, 8, 9, 10, 11] [] (by kernel_rfl) ?_ | refine GC_drawA (id := 21) [0, 1, 2, 3, 4, 5, 6, 7, 8] [] (by kernel_rfl) ?_ | ((first | apply GD_at | apply GL_at | apply GD_no | apply GL_no); exact rfl) | apply DFin_0 | (apply q1_; exact z_) | (apply q0_; exact z_) | (apply q2_; exact z_))
          refine GX_loop (i + 1) ⟨rfl, rfl, rfl, rfl, rfl, rfl, rfl, rfl, rfl, trivial⟩ (by omega) (by omega) (fun w hw => ?_)
          rw [turnL_same hlt es]; exact hw
    · have ei : i = P.length := by omega
      subst ei
      repeat' (first | apply s_ | ((first | apply JO_ob | apply GD_ex | apply GL_ex); exact rfl; first | exact ob1 | exact llt _ _ _ _ _ _ _ _ _ rfl) | ((first | apply b_ | apply a_ | apply i_); exact z_; intro _) | ((first | apply p_ | apply JO_yes | apply GC_t); exact z_) | (apply n_; exact z_) | (apply GC_f; exact z_) | (apply GX_block_on; exact z_) | refine GC_drawA (id := 4) [0, 1, 2, 3, 4, 5, 6, 7, 8, 9, 10, 11] [] (by kernel_rfl) ?_ | refine GC_drawA (id := 21) [0, 1, 2, 3, 4, 5, 6, 7, 8] [] (by kernel_rfl) ?_ | ((first | apply GD_at | apply GL_at | apply GD_no | apply GL_no); exact rfl) | apply DFin_0 | (apply q1_; exact z_) | (apply q0_; exact z_) | (apply q2_; exact z_))
      have hoT : Own 1 encI rt (turned P a9 b9) spt := by
        have hf1 := flatMap_len (enc := encI) (sz := 1) (fun _ => rfl) (turned P a9 b9)
        have hf2 := flatMap_len (enc := encI) (sz := 1) (fun _ => rfl) P
        refine ⟨fun _ => rfl, ?_⟩
        rcases hot.c with ⟨q1, q2, q3, q4⟩ | ⟨bb, cc, q1, q2, q3, q4, q5⟩
        · refine .inl ⟨q1, by omega, List.eq_nil_of_length_eq_zero (by omega), q4⟩
        · exact .inr ⟨bb, cc, by rw [ltt]; exact q1, by omega, q3, hf1, by omega⟩
      have hfz : ∀ w5, SH w [(Gw, ww), ((fun _ => True), w)] (rowH rt 3 ((turnL P a9 b9 P.length).flatMap encI ++ spt) ++ [(p4, .cells (wkC a b c d e f k).toArray 35)]) w5 → SH w [(Gw, ww), ((fun _ => True), w)] ([(p4, .cells (wkC a b c d e f k).toArray 35)] ++ rowH rt 3 ((turned P a9 b9).flatMap encI ++ spt)) w5 := fun w5 hw5 => hw5.perm List.perm_append_comm
      refine GX.mk fun w5 hw5 => ?_
      refine (GX_freeze (A := [(p4, .cells (wkC a b c d e f k).toArray 35)]) hoT (by decide) ?_).use w5 (hfz w5 (hw5.weak (fun r h => h) (by first | exact List.Sublist.refl _)))
      intro G2 w2 hV hG2
      exact GX_loop (rt, G2, w2) ⟨rfl, rfl, rfl, rfl, rfl, rfl, rfl, rfl, trivial⟩ Nat.zero_lt_one hV (fun w hw => hw.cut)
  rintro ⟨ru, Gu, wu⟩ hru
  simp only at hru ⊢
  have iru := hru.v1
  have bru := hru.bound
  apply GC_seq
  refine GC_mid (α := VG) (fun s => [(14, s.1), (15, .int .i64 ((bestL k k.boxes).2)), (16, .int .i64 0), (12, ru), (10, .int .i64 (a9)), (11, .int .i64 (b9)), (9, rw), (4, pt p4), (1, xv), (2, .int .u8 x), (3, .int .u8 y)]) (fun s => [(s.2.1, s.2.2), (Gu, wu), (Gw, ww), ((fun _ => True), w)]) (fun s => [(p4, .cells (wkC a b c d e f k).toArray 35)]) (fun s => Arr s.2.1 s.2.2 1 encI s.1 ((bestL k k.boxes).1)) ?_ ?_
  · repeat' (first | apply s_ | ((first | apply JO_ob | apply GD_ex | apply GL_ex); exact rfl; first | exact ob1) | ((first | apply b_ | apply a_ | apply i_); exact z_; intro _) | ((first | apply p_ | apply JO_yes | apply GC_t); exact z_) | (apply n_; exact z_) | (apply GC_f; exact z_) | (apply GX_block_on; exact z_) | refine GC_drawA (id := 4) [0, 1, 2, 3, 4, 5, 6, 7, 8, 9, 10, 11] [] (by kernel_rfl) ?_ | refine GC_drawA (id := 21) [0, 1, 2, 3, 4, 5, 6, 7, 8] [] (by kernel_rfl) ?_ | ((first | apply GD_at | apply GL_at | apply GD_no | apply GL_no); exact rfl) | apply DFin_0 | (apply q1_; exact z_) | (apply q0_; exact z_) | (apply q2_; exact z_))
    refine JO_call (S := TwoW k) rfl rfl (fun w5 hw5 => c23W (hw5.wk mem_ h) ht) ?_
    rintro _ ua0 ub0 ha0 hb0 hk0 ⟨a0, b0, c0, hs0, d0, e0, f0, rfl, hW0⟩
    have iw01 := hW0.yard.fields.v1
    have iw02 := hW0.yard.vats.arr.v1
    have iw03 := hW0.yard.smps.v1
    have iw04 := hW0.beat.vats.v1
    have iw05 := hW0.beat.smps.v1
    have iw06 := hW0.ends.v1
    repeat' (first | apply s_ | ((first | apply JO_ob | apply GD_ex | apply GL_ex); exact rfl; first | exact ob1) | ((first | apply b_ | apply a_ | apply i_); exact z_; intro _) | ((first | apply p_ | apply JO_yes | apply GC_t); exact z_) | (apply n_; exact z_) | (apply GC_f; exact z_) | (apply GX_block_on; exact z_) | refine GC_drawA (id := 4) [0, 1, 2, 3, 4, 5, 6, 7, 8, 9, 10, 11] [] (by kernel_rfl) ?_ | refine GC_drawA (id := 21) [0, 1, 2, 3, 4, 5, 6, 7, 8] [] (by kernel_rfl) ?_ | ((first | apply GD_at | apply GL_at | apply GD_no | apply GL_no); exact rfl) | apply DFin_0 | (apply q1_; exact z_) | (apply q0_; exact z_) | (apply q2_; exact z_))
    refine JO_call (S := BestW ((bestL k k.boxes).1) ((bestL k k.boxes).2)) rfl rfl (fun w5 hw5 => c54F (upk hw5 (.head _) hW0) hf) ?_
    rintro _ uc0 ud0 hc0 hd0 hl0 ⟨r0, rfl, hr0⟩
    have ir0 := hr0.v1
    repeat' (first | apply s_ | ((first | apply JO_ob | apply GD_ex | apply GL_ex); exact rfl; first | exact ob1) | ((first | apply b_ | apply a_ | apply i_); exact z_; intro _) | ((first | apply p_ | apply JO_yes | apply GC_t); exact z_) | (apply n_; exact z_) | (apply GC_f; exact z_) | (apply GX_block_on; exact z_) | refine GC_drawA (id := 4) [0, 1, 2, 3, 4, 5, 6, 7, 8, 9, 10, 11] [] (by kernel_rfl) ?_ | refine GC_drawA (id := 21) [0, 1, 2, 3, 4, 5, 6, 7, 8] [] (by kernel_rfl) ?_ | ((first | apply GD_at | apply GL_at | apply GD_no | apply GL_no); exact rfl) | apply DFin_0 | (apply q1_; exact z_) | (apply q0_; exact z_) | (apply q2_; exact z_))
    all_goals exact GX_loop (r0, (fun b => uc0.heap.size ≤ b), ud0) ⟨rfl, rfl, rfl, rfl, rfl, rfl, rfl, rfl, rfl, rfl, rfl, trivial⟩ Nat.zero_lt_one hr0 (fun w hw => hw.cut)
  rintro ⟨rl, Gl, wl⟩ hrl
  simp only at hrl ⊢
  have irl := hrl.v1
  have brl := hrl.bound
  apply GC_seq
  refine GC_mid (α := VG) (fun s => [(17, s.1), (18, .int .i64 0), (14, rl), (15, .int .i64 ((bestL k k.boxes).2)), (16, .int .i64 0), (12, ru), (10, .int .i64 (a9)), (11, .int .i64 (b9)), (9, rw), (4, pt p4), (1, xv), (2, .int .u8 x), (3, .int .u8 y)]) (fun s => [(s.2.1, s.2.2), (Gl, wl), (Gu, wu), (Gw, ww), ((fun _ => True), w)]) (fun s => [(p4, .cells (wkC a b c d e f k).toArray 35)]) (fun s => Arr s.2.1 s.2.2 2 encR s.1 (timesV k P)) ?_ ?_
  · repeat' (first | apply s_ | ((first | apply JO_ob | apply GD_ex | apply GL_ex); exact rfl; first | exact ob1) | ((first | apply b_ | apply a_ | apply i_); exact z_; intro _) | ((first | apply p_ | apply JO_yes | apply GC_t); exact z_) | (apply n_; exact z_) | (apply GC_f; exact z_) | (apply GX_block_on; exact z_) | refine GC_drawA (id := 4) [0, 1, 2, 3, 4, 5, 6, 7, 8, 9, 10, 11] [] (by kernel_rfl) ?_ | refine GC_drawA (id := 21) [0, 1, 2, 3, 4, 5, 6, 7, 8] [] (by kernel_rfl) ?_ | ((first | apply GD_at | apply GL_at | apply GD_no | apply GL_no); exact rfl) | apply DFin_0 | (apply q1_; exact z_) | (apply q0_; exact z_) | (apply q2_; exact z_))
    refine JO_call (S := TwoW k) rfl rfl (fun w5 hw5 => c23W (hw5.wk mem_ h) ht) ?_
    rintro _ ua0 ub0 ha0 hb0 hk0 ⟨a0, b0, c0, hs0, d0, e0, f0, rfl, hW0⟩
    have iw01 := hW0.yard.fields.v1
    have iw02 := hW0.yard.vats.arr.v1
    have iw03 := hW0.yard.smps.v1
    have iw04 := hW0.beat.vats.v1
    have iw05 := hW0.beat.smps.v1
    have iw06 := hW0.ends.v1
    repeat' (first | apply s_ | ((first | apply JO_ob | apply GD_ex | apply GL_ex); exact rfl; first | exact ob1) | ((first | apply b_ | apply a_ | apply i_); exact z_; intro _) | ((first | apply p_ | apply JO_yes | apply GC_t); exact z_) | (apply n_; exact z_) | (apply GC_f; exact z_) | (apply GX_block_on; exact z_) | refine GC_drawA (id := 4) [0, 1, 2, 3, 4, 5, 6, 7, 8, 9, 10, 11] [] (by kernel_rfl) ?_ | refine GC_drawA (id := 21) [0, 1, 2, 3, 4, 5, 6, 7, 8] [] (by kernel_rfl) ?_ | ((first | apply GD_at | apply GL_at | apply GD_no | apply GL_no); exact rfl) | apply DFin_0 | (apply q1_; exact z_) | (apply q0_; exact z_) | (apply q2_; exact z_))
    refine JO_call (S := ListW P) rfl rfl (fun w5 hw5 => c34 _ P w5 (up hw5 mem_ hrw) (by omega)) ?_
    rintro _ uc1 ud1 hc1 hd1 hl1 hq1
    have iq1 := hq1.v1
    repeat' (first | apply s_ | ((first | apply JO_ob | apply GD_ex | apply GL_ex); exact rfl; first | exact ob1) | ((first | apply b_ | apply a_ | apply i_); exact z_; intro _) | ((first | apply p_ | apply JO_yes | apply GC_t); exact z_) | (apply n_; exact z_) | (apply GC_f; exact z_) | (apply GX_block_on; exact z_) | refine GC_drawA (id := 4) [0, 1, 2, 3, 4, 5, 6, 7, 8, 9, 10, 11] [] (by kernel_rfl) ?_ | refine GC_drawA (id := 21) [0, 1, 2, 3, 4, 5, 6, 7, 8] [] (by kernel_rfl) ?_ | ((first | apply GD_at | apply GL_at | apply GD_no | apply GL_no); exact rfl) | apply DFin_0 | (apply q1_; exact z_) | (apply q0_; exact z_) | (apply q2_; exact z_))
    refine JO_call (S := RgsW (timesV k P)) rfl rfl (fun w5 hw5 => c33F (upk hw5 mem_ hW0) hf (up hw5 (.head _) hq1) hpl) ?_
    rintro _ uc0 ud0 hc0 hd0 hl0 ⟨r0, rfl, hr0⟩
    have ir0 := hr0.v1
    have br0 := hr0.bound
    repeat' (first | apply s_ | ((first | apply JO_ob | apply GD_ex | apply GL_ex); exact rfl; first | exact ob1) | ((first | apply b_ | apply a_ | apply i_); exact z_; intro _) | ((first | apply p_ | apply JO_yes | apply GC_t); exact z_) | (apply n_; exact z_) | (apply GC_f; exact z_) | (apply GX_block_on; exact z_) | refine GC_drawA (id := 4) [0, 1, 2, 3, 4, 5, 6, 7, 8, 9, 10, 11] [] (by kernel_rfl) ?_ | refine GC_drawA (id := 21) [0, 1, 2, 3, 4, 5, 6, 7, 8] [] (by kernel_rfl) ?_ | ((first | apply GD_at | apply GL_at | apply GD_no | apply GL_no); exact rfl) | apply DFin_0 | (apply q1_; exact z_) | (apply q0_; exact z_) | (apply q2_; exact z_))
    all_goals exact GX_loop (r0, (fun b => uc0.heap.size ≤ b), ud0) ⟨rfl, rfl, rfl, rfl, rfl, rfl, rfl, rfl, rfl, rfl, rfl, rfl, rfl, trivial⟩ Nat.zero_lt_one hr0 (fun w hw => hw.cut)
  rintro ⟨rp, Gp, wp⟩ hrp
  simp only at hrp ⊢
  have irp := hrp.v1
  have brp := hrp.bound
  apply GC_seq
  refine GC_mid (α := VG) (fun s => [(19, s.1), (20, .int .i64 0), (17, rp), (18, .int .i64 0), (14, rl), (15, .int .i64 ((bestL k k.boxes).2)), (16, .int .i64 0), (12, ru), (10, .int .i64 (a9)), (11, .int .i64 (b9)), (9, rw), (4, pt p4), (1, xv), (2, .int .u8 x), (3, .int .u8 y)]) (fun s => [(s.2.1, s.2.2), (Gp, wp), (Gl, wl), (Gu, wu), (Gw, ww), ((fun _ => True), w)]) (fun s => [(p4, .cells (wkC a b c d e f k).toArray 35)]) (fun s => Arr s.2.1 s.2.2 2 encR s.1 (timesV k (turned P a9 b9))) ?_ ?_
  · repeat' (first | apply s_ | ((first | apply JO_ob | apply GD_ex | apply GL_ex); exact rfl; first | exact ob1) | ((first | apply b_ | apply a_ | apply i_); exact z_; intro _) | ((first | apply p_ | apply JO_yes | apply GC_t); exact z_) | (apply n_; exact z_) | (apply GC_f; exact z_) | (apply GX_block_on; exact z_) | refine GC_drawA (id := 4) [0, 1, 2, 3, 4, 5, 6, 7, 8, 9, 10, 11] [] (by kernel_rfl) ?_ | refine GC_drawA (id := 21) [0, 1, 2, 3, 4, 5, 6, 7, 8] [] (by kernel_rfl) ?_ | ((first | apply GD_at | apply GL_at | apply GD_no | apply GL_no); exact rfl) | apply DFin_0 | (apply q1_; exact z_) | (apply q0_; exact z_) | (apply q2_; exact z_))
    refine JO_call (S := TwoW k) rfl rfl (fun w5 hw5 => c23W (hw5.wk mem_ h) ht) ?_
    rintro _ ua0 ub0 ha0 hb0 hk0 ⟨a0, b0, c0, hs0, d0, e0, f0, rfl, hW0⟩
    have iw01 := hW0.yard.fields.v1
    have iw02 := hW0.yard.vats.arr.v1
    have iw03 := hW0.yard.smps.v1
    have iw04 := hW0.beat.vats.v1
    have iw05 := hW0.beat.smps.v1
    have iw06 := hW0.ends.v1
    repeat' (first | apply s_ | ((first | apply JO_ob | apply GD_ex | apply GL_ex); exact rfl; first | exact ob1) | ((first | apply b_ | apply a_ | apply i_); exact z_; intro _) | ((first | apply p_ | apply JO_yes | apply GC_t); exact z_) | (apply n_; exact z_) | (apply GC_f; exact z_) | (apply GX_block_on; exact z_) | refine GC_drawA (id := 4) [0, 1, 2, 3, 4, 5, 6, 7, 8, 9, 10, 11] [] (by kernel_rfl) ?_ | refine GC_drawA (id := 21) [0, 1, 2, 3, 4, 5, 6, 7, 8] [] (by kernel_rfl) ?_ | ((first | apply GD_at | apply GL_at | apply GD_no | apply GL_no); exact rfl) | apply DFin_0 | (apply q1_; exact z_) | (apply q0_; exact z_) | (apply q2_; exact z_))
    refine JO_call (S := RgsW (timesV k (turned P a9 b9))) rfl rfl (fun w5 hw5 => c33F (upk hw5 mem_ hW0) hf (up hw5 mem_ hru) hpt) ?_
    rintro _ uc0 ud0 hc0 hd0 hl0 ⟨r0, rfl, hr0⟩
    have ir0 := hr0.v1
    have br0 := hr0.bound
    repeat' (first | apply s_ | ((first | apply JO_ob | apply GD_ex | apply GL_ex); exact rfl; first | exact ob1) | ((first | apply b_ | apply a_ | apply i_); exact z_; intro _) | ((first | apply p_ | apply JO_yes | apply GC_t); exact z_) | (apply n_; exact z_) | (apply GC_f; exact z_) | (apply GX_block_on; exact z_) | refine GC_drawA (id := 4) [0, 1, 2, 3, 4, 5, 6, 7, 8, 9, 10, 11] [] (by kernel_rfl) ?_ | refine GC_drawA (id := 21) [0, 1, 2, 3, 4, 5, 6, 7, 8] [] (by kernel_rfl) ?_ | ((first | apply GD_at | apply GL_at | apply GD_no | apply GL_no); exact rfl) | apply DFin_0 | (apply q1_; exact z_) | (apply q0_; exact z_) | (apply q2_; exact z_))
    all_goals exact GX_loop (r0, (fun b => uc0.heap.size ≤ b), ud0) ⟨rfl, rfl, rfl, rfl, rfl, rfl, rfl, rfl, rfl, rfl, rfl, rfl, rfl, rfl, rfl, trivial⟩ Nat.zero_lt_one hr0 (fun w hw => hw.cut)
  rintro ⟨rq, Gq, wq⟩ hrq
  simp only at hrq ⊢
  have irq := hrq.v1
  have brq := hrq.bound
  have lt1 := timesV_len k P
  rw [ett] at hrq
  have irq := hrq.v1
  have be1 := best_bd hK (b := k.boxes) hbx.1
  apply GC_seq
  refine GC_mid (α := Unit) (fun s => [(19, rq), (20, .int .i64 0), (17, rp), (18, .int .i64 0), (14, rl), (15, .int .i64 ((bestL k k.boxes).2)), (16, .int .i64 0), (12, ru), (10, .int .i64 (a9)), (11, .int .i64 (b9)), (9, rw), (4, pt p4), (1, xv), (2, .int .u8 x), (3, .int .u8 y)]) (fun s => [(Gq, wq), (Gp, wp), (Gl, wl), (Gu, wu), (Gw, ww), ((fun _ => True), w)]) (fun s => [(p4, .cells (wkC a b c d e f k).toArray 35)]) (fun s => True) ?_ ?_
  · repeat' (first | apply s_ | ((first | apply JO_ob | apply GD_ex | apply GL_ex); exact rfl; first | exact ob1) | ((first | apply b_ | apply a_ | apply i_); exact z_; intro _) | ((first | apply p_ | apply JO_yes | apply GC_t); exact z_) | (apply n_; exact z_) | (apply GC_f; exact z_) | (apply GX_block_on; exact z_) | refine GC_drawA (id := 4) [0, 1, 2, 3, 4, 5, 6, 7, 8, 9, 10, 11] [] (by kernel_rfl) ?_ | refine GC_drawA (id := 21) [0, 1, 2, 3, 4, 5, 6, 7, 8] [] (by kernel_rfl) ?_ | ((first | apply GD_at | apply GL_at | apply GD_no | apply GL_no); exact rfl) | apply DFin_0 | (apply q1_; exact z_) | (apply q0_; exact z_) | (apply q2_; exact z_))
    refine JO_call (S := TwoW k) rfl rfl (fun w5 hw5 => c23W (hw5.wk mm_ h) ht) ?_
    rintro _ uc9 ud9 hc9 hd9 hl9 ⟨a0, b0, c0, hs0, d0, e0, f0, rfl, hW0⟩
    have iw01 := hW0.yard.fields.v1
    have iw02 := hW0.yard.vats.arr.v1
    have iw03 := hW0.yard.smps.v1
    have iw04 := hW0.beat.vats.v1
    have iw05 := hW0.beat.smps.v1
    have iw06 := hW0.ends.v1
    repeat' (first | apply s_ | ((first | apply JO_ob | apply GD_ex | apply GL_ex); exact rfl; first | exact ob1) | ((first | apply b_ | apply a_ | apply i_); exact z_; intro _) | ((first | apply p_ | apply JO_yes | apply GC_t); exact z_) | (apply n_; exact z_) | (apply GC_f; exact z_) | (apply GX_block_on; exact z_) | refine GC_drawA (id := 4) [0, 1, 2, 3, 4, 5, 6, 7, 8, 9, 10, 11] [] (by kernel_rfl) ?_ | refine GC_drawA (id := 21) [0, 1, 2, 3, 4, 5, 6, 7, 8] [] (by kernel_rfl) ?_ | ((first | apply GD_at | apply GL_at | apply GD_no | apply GL_no); exact rfl) | apply DFin_0 | (apply q1_; exact z_) | (apply q0_; exact z_) | (apply q2_; exact z_))
    refine JO_call (S := ListW ((bestL k k.boxes).1)) rfl rfl (fun w5 hw5 => c34 _ _ w5 (up hw5 mm_ hrl) (by omega)) ?_
    rintro _ uc1 ud1 hc1 hd1 hl1 hq1
    have iq1 := hq1.v1
    repeat' (first | apply s_ | ((first | apply JO_ob | apply GD_ex | apply GL_ex); exact rfl; first | exact ob1 | exact Ob_call rfl (fun w5 hw5 => c61T (upk hw5 mm_ hW0) hf (up hw5 mm_ hq1) (planP_best hK) (by omega))) | ((first | apply b_ | apply a_ | apply i_); exact z_; intro _) | ((first | apply p_ | apply JO_yes | apply GC_t); exact z_) | (apply n_; exact z_) | (apply GC_f; exact z_) | (apply GX_block_on; exact z_) | refine GC_drawA (id := 4) [0, 1, 2, 3, 4, 5, 6, 7, 8, 9, 10, 11] [] (by kernel_rfl) ?_ | refine GC_drawA (id := 21) [0, 1, 2, 3, 4, 5, 6, 7, 8] [] (by kernel_rfl) ?_ | ((first | apply GD_at | apply GL_at | apply GD_no | apply GL_no); exact rfl) | apply DFin_0 | (apply q1_; exact z_) | (apply q0_; exact z_) | (apply q2_; exact z_))
    refine JO_call (S := TwoW k) rfl rfl (fun w5 hw5 => c23W (hw5.wk mm_ h) ht) ?_
    rintro _ uc9 ud9 hc9 hd9 hl9 ⟨a0, b0, c0, hs0, d0, e0, f0, rfl, hW0⟩
    have iw01 := hW0.yard.fields.v1
    have iw02 := hW0.yard.vats.arr.v1
    have iw03 := hW0.yard.smps.v1
    have iw04 := hW0.beat.vats.v1
    have iw05 := hW0.beat.smps.v1
    have iw06 := hW0.ends.v1
    repeat' (first | apply s_ | ((first | apply JO_ob | apply GD_ex | apply GL_ex); exact rfl; first | exact ob1) | ((first | apply b_ | apply a_ | apply i_); exact z_; intro _) | ((first | apply p_ | apply JO_yes | apply GC_t); exact z_) | (apply n_; exact z_) | (apply GC_f; exact z_) | (apply GX_block_on; exact z_) | refine GC_drawA (id := 4) [0, 1, 2, 3, 4, 5, 6, 7, 8, 9, 10, 11] [] (by kernel_rfl) ?_ | refine GC_drawA (id := 21) [0, 1, 2, 3, 4, 5, 6, 7, 8] [] (by kernel_rfl) ?_ | ((first | apply GD_at | apply GL_at | apply GD_no | apply GL_no); exact rfl) | apply DFin_0 | (apply q1_; exact z_) | (apply q0_; exact z_) | (apply q2_; exact z_))
    refine JO_call (S := ListW (P)) rfl rfl (fun w5 hw5 => c34 _ _ w5 (up hw5 mm_ hrw) (by omega)) ?_
    rintro _ uc1 ud1 hc1 hd1 hl1 hq1
    have iq1 := hq1.v1
    repeat' (first | apply s_ | ((first | apply JO_ob | apply GD_ex | apply GL_ex); exact rfl; first | exact ob1 | exact Ob_call rfl (fun w5 hw5 => c61L (upk hw5 mm_ hW0) hf (up hw5 mm_ hq1) hpl (by omega))) | ((first | apply b_ | apply a_ | apply i_); exact z_; intro _) | ((first | apply p_ | apply JO_yes | apply GC_t); exact z_) | (apply n_; exact z_) | (apply GC_f; exact z_) | (apply GX_block_on; exact z_) | refine GC_drawA (id := 4) [0, 1, 2, 3, 4, 5, 6, 7, 8, 9, 10, 11] [] (by kernel_rfl) ?_ | refine GC_drawA (id := 21) [0, 1, 2, 3, 4, 5, 6, 7, 8] [] (by kernel_rfl) ?_ | ((first | apply GD_at | apply GL_at | apply GD_no | apply GL_no); exact rfl) | apply DFin_0 | (apply q1_; exact z_) | (apply q0_; exact z_) | (apply q2_; exact z_))
    all_goals exact GX_loop () ⟨rfl, rfl, rfl, rfl, rfl, rfl, rfl, rfl, rfl, rfl, rfl, rfl, rfl, rfl, rfl, trivial⟩ Nat.zero_lt_one trivial (fun w hw => hw.cut)
  intro _ _
  try simp only
  apply GC_seq
  refine GC_mid (α := Unit) (fun s => [(19, rq), (20, .int .i64 0), (17, rp), (18, .int .i64 0), (14, rl), (15, .int .i64 ((bestL k k.boxes).2)), (16, .int .i64 0), (12, ru), (10, .int .i64 (a9)), (11, .int .i64 (b9)), (9, rw), (4, pt p4), (1, xv), (2, .int .u8 x), (3, .int .u8 y)]) (fun s => [(Gq, wq), (Gp, wp), (Gl, wl), (Gu, wu), (Gw, ww), ((fun _ => True), w)]) (fun s => [(p4, .cells (wkC a b c d e f k).toArray 35)]) (fun s => True) ?_ ?_
  · repeat' (first | apply s_ | ((first | apply JO_ob | apply GD_ex | apply GL_ex); exact rfl; first | exact ob1) | ((first | apply b_ | apply a_ | apply i_); exact z_; intro _) | ((first | apply p_ | apply JO_yes | apply GC_t); exact z_) | (apply n_; exact z_) | (apply GC_f; exact z_) | (apply GX_block_on; exact z_) | refine GC_drawA (id := 4) [0, 1, 2, 3, 4, 5, 6, 7, 8, 9, 10, 11] [] (by kernel_rfl) ?_ | refine GC_drawA (id := 21) [0, 1, 2, 3, 4, 5, 6, 7, 8] [] (by kernel_rfl) ?_ | ((first | apply GD_at | apply GL_at | apply GD_no | apply GL_no); exact rfl) | apply DFin_0 | (apply q1_; exact z_) | (apply q0_; exact z_) | (apply q2_; exact z_))
    refine GC_loop (α := Nat) (fun i => k.yard.vats.length - i) (fun i => [(21, .int .i64 (i : Int)), (19, rq), (20, .int .i64 0), (17, rp), (18, .int .i64 0), (14, rl), (15, .int .i64 ((bestL k k.boxes).2)), (16, .int .i64 0), (12, ru), (10, .int .i64 (a9)), (11, .int .i64 (b9)), (9, rw), (4, pt p4), (1, xv), (2, .int .u8 x), (3, .int .u8 y)]) (fun _ => [(Gq, wq), (Gp, wp), (Gl, wl), (Gu, wu), (Gw, ww), ((fun _ => True), w)]) (fun _ => [(p4, .cells (wkC a b c d e f k).toArray 35)]) (fun i => i ≤ k.yard.vats.length) 0 ⟨rfl, rfl, rfl, rfl, rfl, rfl, rfl, rfl, rfl, rfl, rfl, rfl, rfl, rfl, rfl, rfl, trivial⟩ (Nat.zero_le _) (fun w hw => hw.cut) ?_
    intro i hi
    by_cases hlt : i < k.yard.vats.length
    · have xa : i < (timesV k P).length := by omega
      repeat' (first | apply s_ | ((first | apply JO_ob | apply GD_ex | apply GL_ex); exact rfl; first | exact ob1 | exact Ob_neR rfl rfl rfl rfl) | ((first | apply b_ | apply a_ | apply i_); exact z_; intro _) | ((first | apply p_ | apply JO_yes | apply GC_t); exact z_) | (apply n_; exact z_) | (apply GC_f; exact z_) | (apply GX_block_on; exact z_) | refine GC_drawA (id := 4) [0, 1, 2, 3, 4, 5, 6, 7, 8, 9, 10, 11] [] (by kernel_rfl) ?_ | refine GC_drawA (id := 21) [0, 1, 2, 3, 4, 5, 6, 7, 8] [] (by kernel_rfl) ?_ | ((first | apply GD_at | apply GL_at | apply GD_no | apply GL_no); exact rfl) | apply DFin_0 | (apply q1_; exact z_) | (apply q0_; exact z_) | (apply q2_; exact z_))
      exact GX_loop (i + 1) ⟨rfl, rfl, rfl, rfl, rfl, rfl, rfl, rfl, rfl, rfl, rfl, rfl, rfl, rfl, rfl, rfl, trivial⟩ (by omega) (by omega) (fun w hw => hw.cut)
    · repeat' (first | apply s_ | ((first | apply JO_ob | apply GD_ex | apply GL_ex); exact rfl; first | exact ob1) | ((first | apply b_ | apply a_ | apply i_); exact z_; intro _) | ((first | apply p_ | apply JO_yes | apply GC_t); exact z_) | (apply n_; exact z_) | (apply GC_f; exact z_) | (apply GX_block_on; exact z_) | refine GC_drawA (id := 4) [0, 1, 2, 3, 4, 5, 6, 7, 8, 9, 10, 11] [] (by kernel_rfl) ?_ | refine GC_drawA (id := 21) [0, 1, 2, 3, 4, 5, 6, 7, 8] [] (by kernel_rfl) ?_ | ((first | apply GD_at | apply GL_at | apply GD_no | apply GL_no); exact rfl) | apply DFin_0 | (apply q1_; exact z_) | (apply q0_; exact z_) | (apply q2_; exact z_))
      exact GX_loop () ⟨rfl, rfl, rfl, rfl, rfl, rfl, rfl, rfl, rfl, rfl, rfl, rfl, rfl, rfl, rfl, trivial⟩ Nat.zero_lt_one trivial (fun w hw => hw.cut)
  intro _ _
  try simp only
  by_cases he : endV k P ≤ (bestL k k.boxes).2
  · have e8 := nb3 he
    repeat' (first | apply s_ | ((first | apply JO_ob | apply GD_ex | apply GL_ex); exact rfl; first | exact ob1) | ((first | apply b_ | apply a_ | apply i_); exact z_; intro _) | ((first | apply p_ | apply JO_yes | apply GC_t); exact z_) | (apply n_; exact z_) | (apply GC_f; exact z_) | (apply GX_block_on; exact z_) | refine GC_drawA (id := 4) [0, 1, 2, 3, 4, 5, 6, 7, 8, 9, 10, 11] [] (by kernel_rfl) ?_ | refine GC_drawA (id := 21) [0, 1, 2, 3, 4, 5, 6, 7, 8] [] (by kernel_rfl) ?_ | ((first | apply GD_at | apply GL_at | apply GD_no | apply GL_no); exact rfl) | apply DFin_0 | (apply q1_; exact z_) | (apply q0_; exact z_) | (apply q2_; exact z_))
    refine JO_call (S := TwoW k) rfl rfl (fun w5 hw5 => c23W (hw5.wk mm_ h) ht) ?_
    rintro _ uc9 ud9 hc9 hd9 hl9 ⟨a0, b0, c0, hs0, d0, e0, f0, rfl, hW0⟩
    have iw01 := hW0.yard.fields.v1
    have iw02 := hW0.yard.vats.arr.v1
    have iw03 := hW0.yard.smps.v1
    have iw04 := hW0.beat.vats.v1
    have iw05 := hW0.beat.smps.v1
    have iw06 := hW0.ends.v1
    repeat' (first | apply s_ | ((first | apply JO_ob | apply GD_ex | apply GL_ex); exact rfl; first | exact ob1) | ((first | apply b_ | apply a_ | apply i_); exact z_; intro _) | ((first | apply p_ | apply JO_yes | apply GC_t); exact z_) | (apply n_; exact z_) | (apply GC_f; exact z_) | (apply GX_block_on; exact z_) | refine GC_drawA (id := 4) [0, 1, 2, 3, 4, 5, 6, 7, 8, 9, 10, 11] [] (by kernel_rfl) ?_ | refine GC_drawA (id := 21) [0, 1, 2, 3, 4, 5, 6, 7, 8] [] (by kernel_rfl) ?_ | ((first | apply GD_at | apply GL_at | apply GD_no | apply GL_no); exact rfl) | apply DFin_0 | (apply q1_; exact z_) | (apply q0_; exact z_) | (apply q2_; exact z_))
    refine JO_call (S := ListW (P)) rfl rfl (fun w5 hw5 => c34 _ _ w5 (up hw5 mm_ hrw) (by omega)) ?_
    rintro _ uc1 ud1 hc1 hd1 hl1 hq1
    have iq1 := hq1.v1
    repeat' (first | apply s_ | ((first | apply JO_ob | apply GD_ex | apply GL_ex); exact rfl; first | exact ob1 | exact Ob_call rfl (fun w5 hw5 => c61T (upk hw5 mm_ hW0) hf (up hw5 mm_ hq1) hpl he)) | ((first | apply b_ | apply a_ | apply i_); exact z_; intro _) | ((first | apply p_ | apply JO_yes | apply GC_t); exact z_) | (apply n_; exact z_) | (apply GC_f; exact z_) | (apply GX_block_on; exact z_) | refine GC_drawA (id := 4) [0, 1, 2, 3, 4, 5, 6, 7, 8, 9, 10, 11] [] (by kernel_rfl) ?_ | refine GC_drawA (id := 21) [0, 1, 2, 3, 4, 5, 6, 7, 8] [] (by kernel_rfl) ?_ | ((first | apply GD_at | apply GL_at | apply GD_no | apply GL_no); exact rfl) | apply DFin_0 | (apply q1_; exact z_) | (apply q0_; exact z_) | (apply q2_; exact z_))
    repeat' (first | apply s_ | ((first | apply JO_ob | apply GD_ex | apply GL_ex); exact rfl; first | exact ob1 | exact Ob_call rfl (fun w5 hw5 => c64F w5 (up hw5 mm_ hrw) (up hw5 mm_ hrl) (by omega) e8) | exact Ob_call rfl (fun w5 _ => c21 w5)) | ((first | apply b_ | apply a_ | apply i_); exact z_; intro _) | ((first | apply p_ | apply JO_yes | apply GC_t); exact z_) | (apply n_; exact z_) | (apply GC_f; exact z_) | (apply GX_block_on; exact z_) | refine GC_drawA (id := 4) [0, 1, 2, 3, 4, 5, 6, 7, 8, 9, 10, 11] [] (by kernel_rfl) ?_ | refine GC_drawA (id := 21) [0, 1, 2, 3, 4, 5, 6, 7, 8] [] (by kernel_rfl) ?_ | ((first | apply GD_at | apply GL_at | apply GD_no | apply GL_no); exact rfl) | apply DFin_0 | (apply q1_; exact z_) | (apply q0_; exact z_) | (apply q2_; exact z_))
    exact GX_ex rfl rfl mem_ rfl
  · repeat' (first | apply s_ | ((first | apply JO_ob | apply GD_ex | apply GL_ex); exact rfl; first | exact ob1) | ((first | apply b_ | apply a_ | apply i_); exact z_; intro _) | ((first | apply p_ | apply JO_yes | apply GC_t); exact z_) | (apply n_; exact z_) | (apply GC_f; exact z_) | (apply GX_block_on; exact z_) | refine GC_drawA (id := 4) [0, 1, 2, 3, 4, 5, 6, 7, 8, 9, 10, 11] [] (by kernel_rfl) ?_ | refine GC_drawA (id := 21) [0, 1, 2, 3, 4, 5, 6, 7, 8] [] (by kernel_rfl) ?_ | ((first | apply GD_at | apply GL_at | apply GD_no | apply GL_no); exact rfl) | apply DFin_0 | (apply q1_; exact z_) | (apply q0_; exact z_) | (apply q2_; exact z_))
    refine JO_call (S := TwoW k) rfl rfl (fun w5 hw5 => c23W (hw5.wk mm_ h) ht) ?_
    rintro _ uc9 ud9 hc9 hd9 hl9 ⟨a0, b0, c0, hs0, d0, e0, f0, rfl, hW0⟩
    have iw01 := hW0.yard.fields.v1
    have iw02 := hW0.yard.vats.arr.v1
    have iw03 := hW0.yard.smps.v1
    have iw04 := hW0.beat.vats.v1
    have iw05 := hW0.beat.smps.v1
    have iw06 := hW0.ends.v1
    repeat' (first | apply s_ | ((first | apply JO_ob | apply GD_ex | apply GL_ex); exact rfl; first | exact ob1) | ((first | apply b_ | apply a_ | apply i_); exact z_; intro _) | ((first | apply p_ | apply JO_yes | apply GC_t); exact z_) | (apply n_; exact z_) | (apply GC_f; exact z_) | (apply GX_block_on; exact z_) | refine GC_drawA (id := 4) [0, 1, 2, 3, 4, 5, 6, 7, 8, 9, 10, 11] [] (by kernel_rfl) ?_ | refine GC_drawA (id := 21) [0, 1, 2, 3, 4, 5, 6, 7, 8] [] (by kernel_rfl) ?_ | ((first | apply GD_at | apply GL_at | apply GD_no | apply GL_no); exact rfl) | apply DFin_0 | (apply q1_; exact z_) | (apply q0_; exact z_) | (apply q2_; exact z_))
    refine JO_call (S := ListW (P)) rfl rfl (fun w5 hw5 => c34 _ _ w5 (up hw5 mm_ hrw) (by omega)) ?_
    rintro _ uc1 ud1 hc1 hd1 hl1 hq1
    have iq1 := hq1.v1
    repeat' (first | apply s_ | ((first | apply JO_ob | apply GD_ex | apply GL_ex); exact rfl; first | exact ob1 | exact Ob_call rfl (fun w5 hw5 => c61L (upk hw5 mm_ hW0) hf (up hw5 mm_ hq1) hpl (by omega))) | ((first | apply b_ | apply a_ | apply i_); exact z_; intro _) | ((first | apply p_ | apply JO_yes | apply GC_t); exact z_) | (apply n_; exact z_) | (apply GC_f; exact z_) | (apply GX_block_on; exact z_) | refine GC_drawA (id := 4) [0, 1, 2, 3, 4, 5, 6, 7, 8, 9, 10, 11] [] (by kernel_rfl) ?_ | refine GC_drawA (id := 21) [0, 1, 2, 3, 4, 5, 6, 7, 8] [] (by kernel_rfl) ?_ | ((first | apply GD_at | apply GL_at | apply GD_no | apply GL_no); exact rfl) | apply DFin_0 | (apply q1_; exact z_) | (apply q0_; exact z_) | (apply q2_; exact z_))
    repeat' (first | apply s_ | ((first | apply JO_ob | apply GD_ex | apply GL_ex); exact rfl; first | exact ob1 | exact Ob_call rfl (fun w5 _ => c21 w5)) | ((first | apply b_ | apply a_ | apply i_); exact z_; intro _) | ((first | apply p_ | apply JO_yes | apply GC_t); exact z_) | (apply n_; exact z_) | (apply GC_f; exact z_) | (apply GX_block_on; exact z_) | refine GC_drawA (id := 4) [0, 1, 2, 3, 4, 5, 6, 7, 8, 9, 10, 11] [] (by kernel_rfl) ?_ | refine GC_drawA (id := 21) [0, 1, 2, 3, 4, 5, 6, 7, 8] [] (by kernel_rfl) ?_ | ((first | apply GD_at | apply GL_at | apply GD_no | apply GL_no); exact rfl) | apply DFin_0 | (apply q1_; exact z_) | (apply q0_; exact z_) | (apply q2_; exact z_))
    exact GX_ex rfl rfl mem_ rfl
theorem law19 (h : WkA All w a b c hs d e f k) (x y : Int) (hA : Arr All w 1 encU xv xs) (hWd : Words xs) (hx : 0 ≤ x ∧ x ≤ 255) (hy : 0 ≤ y ∧ y ≤ 255) : Ex 19 [wkV a b c d e f k, xv, .int .u8 x, .int .u8 y] w (.bool true) := by
  have i1 := h.yard.fields.v1
  have i2 := h.yard.vats.arr.v1
  have i3 := h.yard.smps.v1
  have i4 := h.beat.vats.v1
  have i5 := h.beat.smps.v1
  have i6 := h.ends.v1
  have i7 := hA.v1
  cases hr : readyW k
  · refine Rt_of Tryz.func19 rfl Tryz.ntmps19 rfl ?_
    repeat' (first | apply s_ | ((first | apply JO_ob | apply GD_ex | apply GL_ex); exact rfl; first | exact ob1 | exact Ob_call rfl (fun w5 hw5 => c48F (hw5.wk mem_ h) hr) | exact Ob_call rfl (fun w5 _ => c21 w5)) | ((first | apply b_ | apply a_ | apply i_); exact z_; intro _) | ((first | apply p_ | apply JO_yes | apply GC_t); exact z_) | (apply n_; exact z_) | (apply GC_f; exact z_) | (apply GX_block_on; exact z_) | refine GC_drawA (id := 4) [0, 1, 2, 3, 4, 5, 6, 7, 8, 9, 10, 11] [] (by kernel_rfl) ?_ | refine GC_drawA (id := 21) [0, 1, 2, 3, 4, 5, 6, 7, 8] [] (by kernel_rfl) ?_ | ((first | apply GD_at | apply GL_at | apply GD_no | apply GL_no); exact rfl) | apply DFin_0 | (apply q1_; exact z_) | (apply q0_; exact z_) | (apply q2_; exact z_))
    exact GX_ex rfl rfl mem_ rfl
  exact law19_good h x y hA hWd hx hy hr
end
end Go.Proofs.YtkbaaikidhbfmaaGreat
