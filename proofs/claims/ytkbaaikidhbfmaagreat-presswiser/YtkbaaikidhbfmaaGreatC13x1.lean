/- The law PressWiser of the chapter 09 returns true for every input, and each argument reads afterwards as it read before. No condition. -/
import Derived.Test.YtkbaaikidhbfmaaGreatB5
/- Plain mathematics: works with another number of boxes, another force, another last hour, other cakes; the best plans. No statement is proved here. -/
set_option linter.unusedVariables false
set_option linter.unusedSimpArgs false
namespace Go.Proofs.YtkbaaikidhbfmaaGreat
open Go.RowKit
theorem fault9_mk {k : Wk} (h : OkK k) (hm : many1 k.yard.fields * many3 k.beat ≤ 6000) : fault9 k = 0 := by
  have h1 : (truths1 k.yard).length ≠ 0 := fun e => h.t1 ((truths1_nil h.y.f h.m1).1 e)
  have h3 : (truths3 k.beat).length ≠ 0 := fun e => h.t3 ((truths3_nil h.b).1 e)
  have hn : isNum k = true := by simp only [isNum, Bool.and_eq_true, decide_eq_true_eq]; exact ⟨h.boxes, h.force, h.last, h.cake⟩
  unfold fault9
  rw [if_neg (fun e => e h.f1), if_neg h1, if_neg (fun e => e h.f3), if_neg h3, if_neg (fun e => e h.len), if_neg (by rw [h.ends]; decide), if_neg (by rw [hn]; decide), if_neg (by omega)]
theorem fault9_many {k : Wk} (h : fault9 k = 0) : many1 k.yard.fields * many3 k.beat ≤ 6000 := (fault9_0 h).2.2.2.2.2.2.2
def boxK (k : Wk) (b : Int) : Wk := { k with boxes := b }
theorem fault_box {k : Wk} (h : fault9 k = 0) {b : Int} (hb : 1 ≤ b ∧ b ≤ 3) : fault9 (boxK k b) = 0 := by
  have hK := okK_of h
  have hm := fault9_many h
  exact fault9_mk (k := boxK k b) ⟨hK.f1, hK.f3, hK.y, hK.b, hK.m1, hK.m3, hK.len, hK.ends, hK.t1, hK.t3, hb, hK.force, hK.last, hK.cake⟩ hm
theorem best_box (k : Wk) (b b' : Int) : bestL (boxK k b) b' = bestL k b' := rfl
theorem best_len {k : Wk} (h : OkK k) {b : Int} (hb : 1 ≤ b) : (bestL k b).1.length = k.yard.vats.length := (mem_plans.1 (bestL_ok h hb).mem).1
theorem best_bd {k : Wk} (h : OkK k) {b : Int} (hb : 1 ≤ b) : 0 ≤ (bestL k b).2 ∧ (bestL k b).2 ≤ 2703 := by
  rw [(bestL_ok h hb).val]; exact endV_bd h _
def zeros (k : Wk) : List Int := List.replicate k.yard.vats.length 0
theorem zeros_len (k : Wk) : (zeros k).length = k.yard.vats.length := by simp [zeros]
theorem zeros_nth {k : Wk} {i : Nat} (hi : i < k.yard.vats.length) : nth (zeros k) i = 0 := by simp [zeros, nth, hi]
theorem zeros_plan {k : Wk} (h : OkK k) : planP k (zeros k) = true := by
  rw [planP_eq h.boxes, isPlan_iff, mem_plans]
  have hb := h.boxes
  exact ⟨zeros_len k, fun x hx => by rw [List.eq_of_mem_replicate hx]; omega⟩
theorem zeros_end {k : Wk} (h : OkK k) (hn : 0 < k.yard.vats.length) : endV k (zeros k) = (nth (timesV k (zeros k)) (k.yard.vats.length - 1)).2 := by
  have h1 := endV_ge h (zeros k) (i := k.yard.vats.length - 1) (by omega)
  have h2 : endV k (zeros k) ≤ (nth (timesV k (zeros k)) (k.yard.vats.length - 1)).2 := by
    have h0 := (timesV_bd h (zeros k) (i := k.yard.vats.length - 1) (by omega))
    rw [endV_leP h]
    refine ⟨by omega, fun i hi p hp => ?_⟩
    have h3 := (times_in (zeros k) hp (i := k.yard.vats.length - 1) (by omega)).2
    have h4 := atN_grow (hr := hrP k p) (l := zeros k) (v := 0) (n := i + 1) (k.yard.vats.length - 1 - i) (fun j hj => (hrP_bd h hp (by omega)).1)
    rw [show i + 1 + (k.yard.vats.length - 1 - i) = k.yard.vats.length by omega] at h4
    rw [atP_eq, zeros_nth hi]
    rw [atP_eq, zeros_nth (by omega), show k.yard.vats.length - 1 + 1 = k.yard.vats.length by omega] at h3
    omega
  omega
theorem best_one {k : Wk} (h : OkK k) (hn : 0 < k.yard.vats.length) : (bestL k 1).2 = (nth (timesV k (zeros k)) (k.yard.vats.length - 1)).2 := by
  have h1 := bestL_ok h (b := 1) (by omega)
  obtain ⟨g1, g2⟩ := mem_plans.1 h1.mem
  have e : (bestL k 1).1 = zeros k := by
    rw [zeros, ← g1]
    exact List.eq_replicate_iff.2 ⟨rfl, fun x hx => by have := g2 x hx; omega⟩
  rw [h1.val, e, zeros_end h hn]
def mostT (k : Wk) (i : Nat) : Int := endR ((mudsV k fun m => (hoursR k.force m : Int)).take i)
theorem mostT_succ {k : Wk} {i : Nat} (hi : i < k.yard.vats.length) : mostT k (i + 1) = max (mostT k i) (nth (mudsV k fun m => (hoursR k.force m : Int)) i).2 := by
  simp only [mostT]
  rw [take_snoc (by rw [mudsV_len]; exact hi)]
  simp only [endR, List.foldl_append, List.foldl_cons, List.foldl_nil]
theorem mostT_all (k : Wk) : mostT k k.yard.vats.length = mostV k := by
  simp only [mostT, mostV]; rw [List.take_of_length_le (by rw [mudsV_len]; exact Nat.le_refl _)]
end Go.Proofs.YtkbaaikidhbfmaaGreat
/- Plain mathematics: works with a greater force, with smaller cakes, with a later last hour. No statement is proved here. -/
set_option linter.unusedVariables false
set_option linter.unusedSimpArgs false
namespace Go.Proofs.YtkbaaikidhbfmaaGreat
open Go.RowKit
def forceK (k : Wk) (f : Int) : Wk := { k with force := f }
def cakeK (k : Wk) (c : Int) : Wk := { k with cake := c }
def lastK (k : Wk) (x : Int) : Wk := { k with last := x }
theorem okK_force {k : Wk} (hK : OkK k) {f : Int} (hf : 1 ≤ f ∧ f ≤ 9) : OkK (forceK k f) := ⟨hK.f1, hK.f3, hK.y, hK.b, hK.m1, hK.m3, hK.len, hK.ends, hK.t1, hK.t3, hK.boxes, hf, hK.last, hK.cake⟩
theorem okK_cake {k : Wk} (hK : OkK k) {c : Int} (hc : 1 ≤ c ∧ c ≤ 50) : OkK (cakeK k c) := ⟨hK.f1, hK.f3, hK.y, hK.b, hK.m1, hK.m3, hK.len, hK.ends, hK.t1, hK.t3, hK.boxes, hK.force, hK.last, hc⟩
theorem okK_last {k : Wk} (hK : OkK k) {x : Int} (hx : 0 ≤ x ∧ x ≤ 99) : OkK (lastK k x) := ⟨hK.f1, hK.f3, hK.y, hK.b, hK.m1, hK.m3, hK.len, hK.ends, hK.t1, hK.t3, hK.boxes, hK.force, hx, hK.cake⟩
theorem fault_force {k : Wk} (h : fault9 k = 0) {f : Int} (hf : 1 ≤ f ∧ f ≤ 9) : fault9 (forceK k f) = 0 := by
  have hm := fault9_many h
  exact fault9_mk (k := forceK k f) (okK_force (okK_of h) hf) hm
theorem fault_cake {k : Wk} (h : fault9 k = 0) {c : Int} (hc : 1 ≤ c ∧ c ≤ 50) : fault9 (cakeK k c) = 0 := by
  have hm := fault9_many h
  exact fault9_mk (k := cakeK k c) (okK_cake (okK_of h) hc) hm
theorem fault_last {k : Wk} (h : fault9 k = 0) {x : Int} (hx : 0 ≤ x ∧ x ≤ 99) : fault9 (lastK k x) = 0 := by
  have hm := fault9_many h
  exact fault9_mk (k := lastK k x) (okK_last (okK_of h) hx) hm
theorem force_hours {k : Wk} (hK : OkK k) {f : Int} (hf : k.force ≤ f ∧ f ≤ 9) {i : Nat} (hi : i < k.yard.vats.length) :
    (nth (mudsV (forceK k f) fun m => (hoursR (forceK k f).force m : Int)) i).1 ≤ (nth (mudsV k fun m => (hoursR k.force m : Int)) i).1 ∧ (nth (mudsV (forceK k f) fun m => (hoursR (forceK k f).force m : Int)) i).2 ≤ (nth (mudsV k fun m => (hoursR k.force m : Int)) i).2 := by
  have h1 := hK.force
  have hK2 := okK_force hK (f := f) (by omega)
  obtain ⟨g1, g2, g3, _, _⟩ := muds_bd hK hi
  have e : (mudsV (forceK k f) fun m => m) = mudsV k fun m => m := rfl
  have q1 := hoursR_force (m := (nth (mudsV k fun m => m) i).1) h1.1 hf.1 (by omega)
  have q2 := hoursR_force (m := (nth (mudsV k fun m => m) i).2) h1.1 hf.1 (by omega)
  rw [hours_mono hK hi, hours_mono hK2 hi, e]
  exact ⟨Int.ofNat_le.2 q1, Int.ofNat_le.2 q2⟩
theorem div_le {x c c' : Int} (hx : 0 ≤ x) (hc : 1 ≤ c') (h : c' ≤ c) : x / c ≤ x / c' := by
  refine (Int.le_ediv_iff_mul_le (by omega)).2 ?_
  have h1 : 0 ≤ x / c := Int.ediv_nonneg hx (by omega)
  have h2 : x / c * c' ≤ x / c * c := Int.mul_le_mul_of_nonneg_left h h1
  have h3 : x / c * c ≤ x := Int.ediv_mul_le x (by omega)
  omega
theorem cake_more {k : Wk} (hK : OkK k) {c : Int} (hc : 1 ≤ c ∧ c ≤ k.cake) {i : Nat} (hi : i < k.yard.vats.length) :
    (nth (mudsV k fun m => m / k.cake) i).1 ≤ (nth (mudsV (cakeK k c) fun m => m / (cakeK k c).cake) i).1 ∧ (nth (mudsV k fun m => m / k.cake) i).2 ≤ (nth (mudsV (cakeK k c) fun m => m / (cakeK k c).cake) i).2 := by
  have h1 := hK.cake
  have hK2 := okK_cake hK (c := c) (by omega)
  obtain ⟨g1, g2, g3, _, _⟩ := muds_bd hK hi
  have e : (mudsV (cakeK k c) fun m => m) = mudsV k fun m => m := rfl
  rw [cakes_mono hK hi, cakes_mono hK2 hi, e]
  exact ⟨div_le g1 hc.1 hc.2, div_le (by omega) hc.1 hc.2⟩
theorem end_force {k : Wk} (hK : OkK k) {f : Int} (hf : k.force ≤ f ∧ f ≤ 9) (l : List Int) : endV (forceK k f) l ≤ endV k l := by
  have h1 := hK.force
  have hK2 := okK_force hK (f := f) (by omega)
  obtain ⟨q1, q2⟩ := (endV_leP hK (l := l)).1 (Int.le_refl _)
  rw [endV_leP hK2]
  refine ⟨q1, fun i hi p hp => ?_⟩
  refine Int.le_trans ?_ (q2 i hi p hp)
  refine atN_mono _ fun j hj => ?_
  have h3 := mudR_bd hK (p := p) hp (i := j) (by have : i < k.yard.vats.length := hi; omega)
  exact Int.ofNat_le.2 (hoursR_force h1.1 hf.1 h3.2)
theorem best_force {k : Wk} (hK : OkK k) {f : Int} (hf : k.force ≤ f ∧ f ≤ 9) {b : Int} (hb : 1 ≤ b) : (bestL (forceK k f) b).2 ≤ (bestL k b).2 := by
  have h1 := hK.force
  have hK2 := okK_force hK (f := f) (by omega)
  have b1 := bestL_ok hK hb
  have b2 := bestL_ok hK2 hb
  rw [b1.val]
  exact Int.le_trans (b2.least _ b1.mem) (end_force hK hf _)
end Go.Proofs.YtkbaaikidhbfmaaGreat
/- Plain mathematics: who may be too late. No statement is proved here. -/
set_option linter.unusedVariables false
set_option linter.unusedSimpArgs false
namespace Go.Proofs.YtkbaaikidhbfmaaGreat
open Go.RowKit
theorem planned_plan {k : Wk} (h : OkK k) {xs : List Int} (hW : Words xs) : planP k (plannedL k xs) = true := by
  have hb := h.boxes
  rw [planP_eq hb, isPlan_iff, mem_plans]
  refine ⟨plannedL_len k xs, fun x hx => ?_⟩
  obtain ⟨i, hi, rfl⟩ := List.mem_map.1 hx
  have h1 := Int.emod_nonneg (wordR xs i) (b := k.boxes) (by omega)
  have h2 := Int.emod_lt_of_pos (wordR xs i) (b := k.boxes) (by omega)
  omega
/-- Nobody is too late, or there is a first one. -/
theorem late_cases {k : Wk} (h : OkK k) (l : List Int) : (lateR k l = (0, 7) ∧ endV k l ≤ k.last) ∨
    (∃ i : Nat, lateR k l = ((i : Int), 0) ∧ k.last < endV k l ∧ i < k.yard.vats.length ∧ k.last < (nth (timesV k l) i).2 ∧ ∀ j, j < i → (nth (timesV k l) j).2 ≤ k.last) := by
  have hl := timesV_len k l
  unfold lateR
  cases hq : (timesV k l).findIdx? (fun r => decide (k.last < r.2)) with
  | none =>
    refine .inl ⟨rfl, ?_⟩
    rw [endV_le h]
    refine ⟨h.last.1, fun i hi => ?_⟩
    have := List.findIdx?_eq_none_iff.1 hq _ (nth_mem (l := timesV k l) (i := i) (by omega))
    simpa using this
  | some i =>
    obtain ⟨hi, h1, h2⟩ := List.findIdx?_eq_some_iff_getElem.1 hq
    have e : nth (timesV k l) i = (timesV k l)[i] := by simp [nth, hi]
    have h3 : k.last < (nth (timesV k l) i).2 := by rw [e]; simpa using h1
    have h4 := endV_ge h l (i := i) (by omega)
    refine .inr ⟨i, rfl, by omega, by omega, h3, fun j hj => ?_⟩
    have e2 : nth (timesV k l) j = (timesV k l)[j] := by simp [nth, show j < (timesV k l).length by omega]
    rw [e2]; simpa using h2 j hj
theorem late_law {k : Wk} (h : OkK k) {y : Int} (hy : k.last ≤ y ∧ y ≤ 99) {L P : List Int} (hL : L = (bestL k k.boxes).1) (hP : planP k P = true) :
    ((lateR k L).2 = 7 ∧ (bestL k k.boxes).2 ≤ k.last ∨ (lateR k L).2 = 0 ∧ k.last < (bestL k k.boxes).2) ∧
    ((lateR k P).2 = 7 ∧ (lateR k L).2 = 7 ∧ (lateR (lastK k y) P).2 = 7 ∨ (lateR k P).2 = 0 ∧ (lateR (lastK k y) P).2 = 7 ∨ (lateR k P).2 = 0 ∧ (lateR (lastK k y) P).2 = 0 ∧ (lateR k P).1 ≤ (lateR (lastK k y) P).1) := by
  have hl0 := h.last
  have hK2 := okK_last h (x := y) (by omega)
  have hb := bestL_ok h h.boxes.1
  have hv : (bestL k k.boxes).2 = endV k L := by rw [hL]; exact hb.val
  have hP2 : P ∈ lex (List.replicate k.yard.vats.length (0, k.boxes - 1)) := isPlan_iff.1 (by rw [← planP_eq h.boxes]; exact hP)
  have hle := hb.least P hP2
  have ee : endV (lastK k y) P = endV k P := rfl
  have et : timesV (lastK k y) P = timesV k P := rfl
  have el : (lastK k y).last = y := rfl
  have en : (lastK k y).yard.vats.length = k.yard.vats.length := rfl
  have q1 := late_cases h L
  have q2 := late_cases h P
  have q3 := late_cases hK2 P
  rw [ee, et, el, en] at q3
  refine ⟨?_, ?_⟩
  · rcases q1 with ⟨e, h1⟩ | ⟨i, e, h1, _⟩
    · exact .inl ⟨by rw [e], by omega⟩
    · exact .inr ⟨by rw [e], by omega⟩
  · rcases q2 with ⟨e2, h2⟩ | ⟨i, e2, h2, h3, h4, h5⟩
    · left
      refine ⟨by rw [e2], ?_, ?_⟩
      · rcases q1 with ⟨e, h1⟩ | ⟨i, e, h1, _⟩
        · rw [e]
        · omega
      · rcases q3 with ⟨e, h1⟩ | ⟨i, e, h1, _⟩
        · rw [e]
        · omega
    · right
      rcases q3 with ⟨e3, h6⟩ | ⟨j, e3, h6, h7, h8, h9⟩
      · exact .inl ⟨by rw [e2], by rw [e3]⟩
      · refine .inr ⟨by rw [e2], by rw [e3], ?_⟩
        rw [e2, e3]
        simp only
        rcases Nat.lt_or_ge j i with hj | hj
        · have := h5 j hj; omega
        · omega
end Go.Proofs.YtkbaaikidhbfmaaGreat
/- Plain mathematics: the wise endings are the best ones. No statement is proved here. -/
set_option linter.unusedVariables false
set_option linter.unusedSimpArgs false
namespace Go.Proofs.YtkbaaikidhbfmaaGreat
open Go.RowKit
theorem refW_ok {k : Wk} (h : OkK k) {i : Nat} (hi : i < k.yard.vats.length) : ∀ n : Nat, ((n + 1 : Nat) : Int) ≤ k.beat.last + 1 →
    (0 ≤ (refW k i (n + 1)).1 ∧ (refW k i (n + 1)).1 ≤ (n : Int)) ∧ (refW k i (n + 1)).2 = sureE k i (refW k i (n + 1)).1 ∧ (∀ m : Nat, m ≤ n → sureE k i (m : Int) ≤ (refW k i (n + 1)).2) ∧ ∀ m : Nat, (m : Int) < (refW k i (n + 1)).1 → sureE k i (m : Int) < (refW k i (n + 1)).2
  | 0, hn => by
    have h0 : (refW k i 0).2 = -1 := rfl
    have h1 : 0 ≤ sureE k i ((0 : Nat) : Int) := by simp only [sureE]; omega
    rw [refW_succ, loE_eq h hi (by omega), if_pos (by omega)]
    refine ⟨by simp only; omega, rfl, fun m hm => ?_, fun m hm => ?_⟩
    · rw [show m = 0 by omega]; exact Int.le_refl _
    · simp only at hm; omega
  | n + 1, hn => by
    obtain ⟨g1, g2, g3, g4⟩ := refW_ok h hi n (by omega)
    rw [refW_succ, loE_eq h hi (by omega)]
    by_cases hc : (refW k i (n + 1)).2 < sureE k i ((n + 1 : Nat) : Int)
    · rw [if_pos hc]
      refine ⟨by simp only; omega, rfl, fun m hm => ?_, fun m hm => ?_⟩
      · rcases Nat.lt_or_ge m (n + 1) with e | e
        · have := g3 m (by omega); simp only; omega
        · rw [show m = n + 1 by omega]; exact Int.le_refl _
      · simp only at hm ⊢
        have := g3 m (by omega); omega
    · rw [if_neg hc]
      refine ⟨by omega, g2, fun m hm => ?_, g4⟩
      rcases Nat.lt_or_ge m (n + 1) with e | e
      · exact g3 m (by omega)
      · rw [show m = n + 1 by omega]; omega
def endsK (k : Wk) (l : List Int) : Wk := { k with ends := l }
theorem okK_ends {k : Wk} (hK : OkK k) {l : List Int} (hl : areEnd k.beat l = true) : OkK (endsK k l) := ⟨hK.f1, hK.f3, hK.y, hK.b, hK.m1, hK.m3, hK.len, hl, hK.t1, hK.t3, hK.boxes, hK.force, hK.last, hK.cake⟩
theorem fault_ends {k : Wk} (h : fault9 k = 0) {l : List Int} (hl : areEnd k.beat l = true) : fault9 (endsK k l) = 0 := by
  have hm := fault9_many h
  exact fault9_mk (k := endsK k l) (okK_ends (okK_of h) hl) hm
theorem areEnd_iff {y : Bt} {l : List Int} : areEnd y l = true ↔ l.length = y.vats.length ∧ ∀ i, i < l.length → 0 ≤ nth l i ∧ nth l i ≤ y.last := by
  simp only [areEnd, Bool.and_eq_true, decide_eq_true_eq]
  constructor
  · rintro ⟨h1, h2⟩
    exact ⟨h2, fun i hi => of_decide_eq_true (all_nth.1 h1 i hi)⟩
  · rintro ⟨h1, h2⟩
    exact ⟨all_nth.2 fun i hi => decide_eq_true (h2 i hi), h1⟩
theorem wise_len (k : Wk) : (wiseV k).length = k.yard.vats.length := by simp [wiseV]
theorem wise_nth {k : Wk} (h : OkK k) {i : Nat} (hi : i < k.yard.vats.length) : nth (wiseV k) i = (refW k i (k.beat.last.toNat + 1)).1 := by
  have hl := h.b.l
  rw [wise_eq h]
  have e : nth (wiseR k) i = (refW k i (k.beat.last + 1).toNat).1 := by simp [wiseR, nth, hi]
  rw [e, show (k.beat.last + 1).toNat = k.beat.last.toNat + 1 by omega]
theorem wise_ends {k : Wk} (h : OkK k) : areEnd k.beat (wiseV k) = true := by
  have hl := h.b.l
  rw [areEnd_iff]
  refine ⟨by rw [wise_len, h.len], fun i hi => ?_⟩
  rw [wise_len] at hi
  rw [wise_nth h hi]
  obtain ⟨g1, _⟩ := refW_ok h hi k.beat.last.toNat (by omega)
  omega
/-- Endings by words. -/
def wordsE (k : Wk) (xs : List Int) : List Int := (List.range k.yard.vats.length).map fun i => wordR xs i % (k.beat.last + 1)
theorem wordsE_len (k : Wk) (xs : List Int) : (wordsE k xs).length = k.yard.vats.length := by simp [wordsE]
theorem wordsE_nth {k : Wk} {xs : List Int} {i : Nat} (hi : i < k.yard.vats.length) : nth (wordsE k xs) i = wordR xs i % (k.beat.last + 1) := by simp [wordsE, nth, hi]
theorem wordsE_ends {k : Wk} (h : OkK k) {xs : List Int} (hW : Words xs) : areEnd k.beat (wordsE k xs) = true := by
  have hl := h.b.l
  rw [areEnd_iff]
  refine ⟨by rw [wordsE_len, h.len], fun i hi => ?_⟩
  rw [wordsE_len] at hi
  rw [wordsE_nth hi]
  have h1 := Int.emod_nonneg (wordR xs i) (b := k.beat.last + 1) (by omega)
  have h2 := Int.emod_lt_of_pos (wordR xs i) (b := k.beat.last + 1) (by omega)
  omega
theorem ends_lo {k : Wk} (h : OkK k) {l : List Int} (hl : areEnd k.beat l = true) {i : Nat} (hi : i < k.yard.vats.length) : (nth (mudsV (endsK k l) fun m => m) i).1 = sureE k i (nth l i) := by
  have h1 := areEnd_iff.1 hl
  have h2 := h.b.l
  have h3 := h1.2 i (by have := h.len; omega)
  exact muds_lo (okK_ends h hl) (i := i) hi (show 0 ≤ nth l i ∧ nth l i ≤ 9 by omega)
theorem wiser_law {k : Wk} (h : OkK k) {xs : List Int} (hW : Words xs) {i : Nat} (hi : i < k.yard.vats.length) :
    (nth (mudsV (endsK k (wordsE k xs)) fun m => m) i).1 ≤ (nth (mudsV (endsK k (wiseV k)) fun m => m) i).1 ∧ ((nth (mudsV (endsK k (wordsE k xs)) fun m => m) i).1 = (nth (mudsV (endsK k (wiseV k)) fun m => m) i).1 → nth (wiseV k) i ≤ nth (wordsE k xs) i) := by
  have hl := h.b.l
  obtain ⟨g1, g2, g3, g4⟩ := refW_ok h hi k.beat.last.toNat (by omega)
  have hw := (areEnd_iff.1 (wordsE_ends h hW)).2 i (by rw [wordsE_len]; exact hi)
  obtain ⟨m, hm⟩ : ∃ m : Nat, nth (wordsE k xs) i = (m : Int) := ⟨(nth (wordsE k xs) i).toNat, by omega⟩
  rw [ends_lo h (wordsE_ends h hW) hi, ends_lo h (wise_ends h) hi, wise_nth h hi, ← g2, hm]
  refine ⟨g3 m (by omega), fun e => ?_⟩
  rcases Int.lt_or_le (m : Int) (refW k i (k.beat.last.toNat + 1)).1 with hlt | hle
  · have := g4 m hlt; omega
  · exact hle
end Go.Proofs.YtkbaaikidhbfmaaGreat
/- The walk of the law PressWiser. No statement is proved here. -/
set_option linter.unusedVariables false
set_option linter.unusedSimpArgs false
namespace Go.Proofs.YtkbaaikidhbfmaaGreat
open Go.RowKit
section
variable {w : World} {a b c d e f xv : Value} {hs : List Value} {k : Wk} {xs : List Int}
theorem c57T {v : Value} {y : Bt} {l : List Int} (w : World) (h : BtA All w d e y) (hv : Arr All w 1 encI v l) (he : areEnd y l = true) : Ex 57 [btV d e y, v] w (.bool true) := by
  have := c57 w d e v y l h hv
  rwa [he] at this
theorem thin_ends {l : List Int} (ht : thinW k = true) (hl : l.length ≤ 30) : thinW (endsK k l) = true := by
  simp only [thinW, Bool.and_eq_true, decide_eq_true_eq] at ht ⊢
  exact ⟨ht.1, hl⟩
set_option maxRecDepth 100000 in
set_option maxHeartbeats 8000000 in
theorem law13_good (h : WkA All w a b c hs d e f k) (hA : Arr All w 1 encU xv xs) (hWd : Words xs) (hr : readyW k = true) : Ex 13 [wkV a b c d e f k, xv] w (.bool true) := by
  have i1 := h.yard.fields.v1
  have i2 := h.yard.vats.arr.v1
  have i3 := h.yard.smps.v1
  have i4 := h.beat.vats.v1
  have i5 := h.beat.smps.v1
  have i6 := h.ends.v1
  have i7 := hA.v1
  obtain ⟨ht, hf⟩ := ready_iff.1 hr
  have hK := okK_of hf
  have v3 := hK.v3
  refine Rt_of Tryz.func13 rfl Tryz.ntmps13 rfl ?_

  apply GC_seq
  refine GC_mid (α := Nat) (fun s => [(2, pt s), (1, xv)]) (fun s => [((fun _ => True), w)]) (fun s => [(s, .cells (wkC a b c d e f k).toArray 35)]) (fun s => True) ?_ ?_
  · repeat' (first | apply s_ | ((first | apply JO_ob | apply GD_ex | apply GL_ex); exact rfl; first | exact ob1) | ((first | apply b_ | apply a_ | apply i_); exact z_; intro _) | ((first | apply p_ | apply JO_yes | apply GC_t); exact z_) | (apply n_; exact z_) | (apply GC_f; exact z_) | (apply GX_block_on; exact z_) | refine GC_drawB (id := 6) [] [0, 1] [2, 3, 4, 5] _ (by kernel_rfl) (List.Sublist.refl _) ?_ | refine GC_drawB (id := 11) [2, 3, 4, 5, 6, 7, 8, 9] [0, 1] [10, 11, 12, 13] _ (by kernel_rfl) (List.Sublist.refl _) ?_ | refine GC_drawA (id := 19) [0, 1, 2, 3, 4, 5, 6, 7, 8, 9, 10, 11, 12, 13, 14, 15, 16, 17, 18, 19, 20, 21, 22, 23, 24, 25, 26, 27, 28, 29, 30, 31, 32, 33, 34, 35] [] (by kernel_rfl) ?_ | ((first | apply GD_at | apply GL_at | apply GD_no | apply GL_no); exact rfl) | apply DFin_0 | (apply q1_; exact z_) | (apply q0_; exact z_) | (apply q2_; exact z_))
    all_goals exact GX_loop _ ⟨rfl, rfl, trivial⟩ Nat.zero_lt_one trivial (fun w hw => hw.cut)
  intro p2 _
  try simp only
  apply GC_seq
  refine GC_mid (α := Unit) (fun s => [(2, pt p2), (1, xv)]) (fun s => [((fun _ => True), w)]) (fun s => [(p2, .cells (wkC a b c d e f k).toArray 35)]) (fun s => True) ?_ ?_
  · repeat' (first | apply s_ | ((first | apply JO_ob | apply GD_ex | apply GL_ex); exact rfl; first | exact ob1 | exact Ob_call rfl (fun w5 hw5 => c48T (hw5.wk mem_ h) hr)) | ((first | apply b_ | apply a_ | apply i_); exact z_; intro _) | ((first | apply p_ | apply JO_yes | apply GC_t); exact z_) | (apply n_; exact z_) | (apply GC_f; exact z_) | (apply GX_block_on; exact z_) | refine GC_drawB (id := 6) [] [0, 1] [2, 3, 4, 5] _ (by kernel_rfl) (List.Sublist.refl _) ?_ | refine GC_drawB (id := 11) [2, 3, 4, 5, 6, 7, 8, 9] [0, 1] [10, 11, 12, 13] _ (by kernel_rfl) (List.Sublist.refl _) ?_ | refine GC_drawA (id := 19) [0, 1, 2, 3, 4, 5, 6, 7, 8, 9, 10, 11, 12, 13, 14, 15, 16, 17, 18, 19, 20, 21, 22, 23, 24, 25, 26, 27, 28, 29, 30, 31, 32, 33, 34, 35] [] (by kernel_rfl) ?_ | ((first | apply GD_at | apply GL_at | apply GD_no | apply GL_no); exact rfl) | apply DFin_0 | (apply q1_; exact z_) | (apply q0_; exact z_) | (apply q2_; exact z_))
    all_goals exact GX_loop () ⟨rfl, rfl, trivial⟩ Nat.zero_lt_one trivial (fun w hw => hw.cut)
  intro _ _
  try simp only
  apply GC_seq
  refine GC_mid (α := VG) (fun s => [(5, s.1), (6, .int .i64 0), (2, pt p2), (1, xv)]) (fun s => [(s.2.1, s.2.2), ((fun _ => True), w)]) (fun s => [(p2, .cells (wkC a b c d e f k).toArray 35)]) (fun s => Arr s.2.1 s.2.2 1 encI s.1 (wiseV k)) ?_ ?_
  · repeat' (first | apply s_ | ((first | apply JO_ob | apply GD_ex | apply GL_ex); exact rfl; first | exact ob1) | ((first | apply b_ | apply a_ | apply i_); exact z_; intro _) | ((first | apply p_ | apply JO_yes | apply GC_t); exact z_) | (apply n_; exact z_) | (apply GC_f; exact z_) | (apply GX_block_on; exact z_) | refine GC_drawB (id := 6) [] [0, 1] [2, 3, 4, 5] _ (by kernel_rfl) (List.Sublist.refl _) ?_ | refine GC_drawB (id := 11) [2, 3, 4, 5, 6, 7, 8, 9] [0, 1] [10, 11, 12, 13] _ (by kernel_rfl) (List.Sublist.refl _) ?_ | refine GC_drawA (id := 19) [0, 1, 2, 3, 4, 5, 6, 7, 8, 9, 10, 11, 12, 13, 14, 15, 16, 17, 18, 19, 20, 21, 22, 23, 24, 25, 26, 27, 28, 29, 30, 31, 32, 33, 34, 35] [] (by kernel_rfl) ?_ | ((first | apply GD_at | apply GL_at | apply GD_no | apply GL_no); exact rfl) | apply DFin_0 | (apply q1_; exact z_) | (apply q0_; exact z_) | (apply q2_; exact z_))
    refine JO_call (S := TwoW k) rfl rfl (fun w5 hw5 => c23W (hw5.wk mem_ h) ht) ?_
    rintro _ ua0 ub0 ha0 hb0 hk0 ⟨a0, b0, c0, hs0, d0, e0, f0, rfl, hW0⟩
    have iw01 := hW0.yard.fields.v1
    have iw02 := hW0.yard.vats.arr.v1
    have iw03 := hW0.yard.smps.v1
    have iw04 := hW0.beat.vats.v1
    have iw05 := hW0.beat.smps.v1
    have iw06 := hW0.ends.v1
    repeat' (first | apply s_ | ((first | apply JO_ob | apply GD_ex | apply GL_ex); exact rfl; first | exact ob1) | ((first | apply b_ | apply a_ | apply i_); exact z_; intro _) | ((first | apply p_ | apply JO_yes | apply GC_t); exact z_) | (apply n_; exact z_) | (apply GC_f; exact z_) | (apply GX_block_on; exact z_) | refine GC_drawB (id := 6) [] [0, 1] [2, 3, 4, 5] _ (by kernel_rfl) (List.Sublist.refl _) ?_ | refine GC_drawB (id := 11) [2, 3, 4, 5, 6, 7, 8, 9] [0, 1] [10, 11, 12, 13] _ (by kernel_rfl) (List.Sublist.refl _) ?_ | refine GC_drawA (id := 19) [0, 1, 2, 3, 4, 5, 6, 7, 8, 9, 10, 11, 12, 13, 14, 15, 16, 17, 18, 19, 20, 21, 22, 23, 24, 25, 26, 27, 28, 29, 30, 31, 32, 33, 34, 35] [] (by kernel_rfl) ?_ | ((first | apply GD_at | apply GL_at | apply GD_no | apply GL_no); exact rfl) | apply DFin_0 | (apply q1_; exact z_) | (apply q0_; exact z_) | (apply q2_; exact z_))
    refine JO_call (S := IntsW (wiseV k)) rfl rfl (fun w5 hw5 => c39F (upk hw5 (.head _) hW0) hf) ?_
    rintro _ uc0 ud0 hc0 hd0 hl0 ⟨r0, rfl, hr0⟩
    have ir0 := hr0.v1
    repeat' (first | apply s_ | ((first | apply JO_ob | apply GD_ex | apply GL_ex); exact rfl; first | exact ob1) | ((first | apply b_ | apply a_ | apply i_); exact z_; intro _) | ((first | apply p_ | apply JO_yes | apply GC_t); exact z_) | (apply n_; exact z_) | (apply GC_f; exact z_) | (apply GX_block_on; exact z_) | refine GC_drawB (id := 6) [] [0, 1] [2, 3, 4, 5] _ (by kernel_rfl) (List.Sublist.refl _) ?_ | refine GC_drawB (id := 11) [2, 3, 4, 5, 6, 7, 8, 9] [0, 1] [10, 11, 12, 13] _ (by kernel_rfl) (List.Sublist.refl _) ?_ | refine GC_drawA (id := 19) [0, 1, 2, 3, 4, 5, 6, 7, 8, 9, 10, 11, 12, 13, 14, 15, 16, 17, 18, 19, 20, 21, 22, 23, 24, 25, 26, 27, 28, 29, 30, 31, 32, 33, 34, 35] [] (by kernel_rfl) ?_ | ((first | apply GD_at | apply GL_at | apply GD_no | apply GL_no); exact rfl) | apply DFin_0 | (apply q1_; exact z_) | (apply q0_; exact z_) | (apply q2_; exact z_))
    all_goals exact GX_loop (r0, (fun b => uc0.heap.size ≤ b), ud0) ⟨rfl, rfl, rfl, rfl, trivial⟩ Nat.zero_lt_one hr0 (fun w hw => hw.cut)
  rintro ⟨rl, Gl, wl⟩ hrl
  simp only at hrl ⊢
  have irl := hrl.v1
  have brl := hrl.bound
  have hwe := wise_ends hK
  have hwl := wise_len k
  apply GC_seq
  refine GC_mid (α := Unit) (fun s => [(5, rl), (6, .int .i64 0), (2, pt p2), (1, xv)]) (fun s => [(Gl, wl), ((fun _ => True), w)]) (fun s => [(p2, .cells (wkC a b c d e f k).toArray 35)]) (fun s => True) ?_ ?_
  · repeat' (first | apply s_ | ((first | apply JO_ob | apply GD_ex | apply GL_ex); exact rfl; first | exact ob1 | exact Ob_call rfl (fun w5 hw5 => c57T w5 (hw5.bt mem_ h.beat) (up hw5 mem_ hrl) hwe)) | ((first | apply b_ | apply a_ | apply i_); exact z_; intro _) | ((first | apply p_ | apply JO_yes | apply GC_t); exact z_) | (apply n_; exact z_) | (apply GC_f; exact z_) | (apply GX_block_on; exact z_) | refine GC_drawB (id := 6) [] [0, 1] [2, 3, 4, 5] _ (by kernel_rfl) (List.Sublist.refl _) ?_ | refine GC_drawB (id := 11) [2, 3, 4, 5, 6, 7, 8, 9] [0, 1] [10, 11, 12, 13] _ (by kernel_rfl) (List.Sublist.refl _) ?_ | refine GC_drawA (id := 19) [0, 1, 2, 3, 4, 5, 6, 7, 8, 9, 10, 11, 12, 13, 14, 15, 16, 17, 18, 19, 20, 21, 22, 23, 24, 25, 26, 27, 28, 29, 30, 31, 32, 33, 34, 35] [] (by kernel_rfl) ?_ | ((first | apply GD_at | apply GL_at | apply GD_no | apply GL_no); exact rfl) | apply DFin_0 | (apply q1_; exact z_) | (apply q0_; exact z_) | (apply q2_; exact z_))
    all_goals exact GX_loop () ⟨rfl, rfl, rfl, rfl, trivial⟩ Nat.zero_lt_one trivial (fun w hw => hw.cut)
  intro _ _
  try simp only
  apply GC_seq
  refine GC_mid (α := Nat × Nat) (fun s => [(7, pt s.1), (8, pt s.2), (5, rl), (6, .int .i64 0), (2, pt p2), (1, xv)]) (fun s => [(Gl, wl), ((fun _ => True), w)]) (fun s => [(s.2, .cells (wkC a b c d e f k).toArray 35), (s.1, .cells (wkC a b c d e f k).toArray 35), (p2, .cells (wkC a b c d e f k).toArray 35)]) (fun s => True) ?_ ?_
  · repeat' (first | apply s_ | ((first | apply JO_ob | apply GD_ex | apply GL_ex); exact rfl; first | exact ob1) | ((first | apply b_ | apply a_ | apply i_); exact z_; intro _) | ((first | apply p_ | apply JO_yes | apply GC_t); exact z_) | (apply n_; exact z_) | (apply GC_f; exact z_) | (apply GX_block_on; exact z_) | refine GC_drawB (id := 6) [] [0, 1] [2, 3, 4, 5] _ (by kernel_rfl) (List.Sublist.refl _) ?_ | refine GC_drawB (id := 11) [2, 3, 4, 5, 6, 7, 8, 9] [0, 1] [10, 11, 12, 13] _ (by kernel_rfl) (List.Sublist.refl _) ?_ | refine GC_drawA (id := 19) [0, 1, 2, 3, 4, 5, 6, 7, 8, 9, 10, 11, 12, 13, 14, 15, 16, 17, 18, 19, 20, 21, 22, 23, 24, 25, 26, 27, 28, 29, 30, 31, 32, 33, 34, 35] [] (by kernel_rfl) ?_ | ((first | apply GD_at | apply GL_at | apply GD_no | apply GL_no); exact rfl) | apply DFin_0 | (apply q1_; exact z_) | (apply q0_; exact z_) | (apply q2_; exact z_))
    all_goals try simp only [setH]
    all_goals first | exact GX_loop (_, _) ⟨rfl, rfl, rfl, rfl, rfl, rfl, trivial⟩ Nat.zero_lt_one trivial (fun w hw => hw.weak (fun r h => h) (List.Sublist.refl _)) | exact GX_loop (_, _) ⟨rfl, rfl, rfl, rfl, rfl, rfl, trivial⟩ Nat.zero_lt_one trivial (fun w hw => (hw.perm (List.Perm.swap ..)).weak (fun r h => h) (List.Sublist.refl _))
  rintro ⟨p7, p8⟩ _
  try simp only
  apply GC_seq
  refine GC_mid (α := VG) (fun s => [(7, pt p7), (8, pt p8), (5, rl), (6, .int .i64 0), (2, pt p2), (1, xv)]) (fun s => [(s.2.1, s.2.2), (Gl, wl), ((fun _ => True), w)]) (fun s => [(p8, .cells (wkC a b c d e (.slice none 0 0) k).toArray 35), (p7, .cells (wkC a b c d e s.1 k).toArray 35), (p2, .cells (wkC a b c d e f k).toArray 35)]) (fun s => Arr s.2.1 s.2.2 1 encI s.1 (wiseV k)) ?_ ?_
  · repeat' (first | apply s_ | ((first | apply JO_ob | apply GD_ex | apply GL_ex); exact rfl; first | exact ob1) | ((first | apply b_ | apply a_ | apply i_); exact z_; intro _) | ((first | apply p_ | apply JO_yes | apply GC_t); exact z_) | (apply n_; exact z_) | (apply GC_f; exact z_) | (apply GX_block_on; exact z_) | refine GC_drawB (id := 6) [] [0, 1] [2, 3, 4, 5] _ (by kernel_rfl) (List.Sublist.refl _) ?_ | refine GC_drawB (id := 11) [2, 3, 4, 5, 6, 7, 8, 9] [0, 1] [10, 11, 12, 13] _ (by kernel_rfl) (List.Sublist.refl _) ?_ | refine GC_drawA (id := 19) [0, 1, 2, 3, 4, 5, 6, 7, 8, 9, 10, 11, 12, 13, 14, 15, 16, 17, 18, 19, 20, 21, 22, 23, 24, 25, 26, 27, 28, 29, 30, 31, 32, 33, 34, 35] [] (by kernel_rfl) ?_ | ((first | apply GD_at | apply GL_at | apply GD_no | apply GL_no); exact rfl) | apply DFin_0 | (apply q1_; exact z_) | (apply q0_; exact z_) | (apply q2_; exact z_))
    refine JO_call (S := ListW (wiseV k)) rfl rfl (fun w5 hw5 => c34 _ _ w5 (up hw5 mem_ hrl) (by omega)) ?_
    rintro _ uc0 ud0 hc0 hd0 hl0 hr0
    rename_i r0
    have ir0 := hr0.v1
    repeat' (first | apply s_ | ((first | apply JO_ob | apply GD_ex | apply GL_ex); exact rfl; first | exact ob1) | ((first | apply b_ | apply a_ | apply i_); exact z_; intro _) | ((first | apply p_ | apply JO_yes | apply GC_t); exact z_) | (apply n_; exact z_) | (apply GC_f; exact z_) | (apply GX_block_on; exact z_) | refine GC_drawB (id := 6) [] [0, 1] [2, 3, 4, 5] _ (by kernel_rfl) (List.Sublist.refl _) ?_ | refine GC_drawB (id := 11) [2, 3, 4, 5, 6, 7, 8, 9] [0, 1] [10, 11, 12, 13] _ (by kernel_rfl) (List.Sublist.refl _) ?_ | refine GC_drawA (id := 19) [0, 1, 2, 3, 4, 5, 6, 7, 8, 9, 10, 11, 12, 13, 14, 15, 16, 17, 18, 19, 20, 21, 22, 23, 24, 25, 26, 27, 28, 29, 30, 31, 32, 33, 34, 35] [] (by kernel_rfl) ?_ | ((first | apply GD_at | apply GL_at | apply GD_no | apply GL_no); exact rfl) | apply DFin_0 | (apply q1_; exact z_) | (apply q0_; exact z_) | (apply q2_; exact z_))
    all_goals exact GX_loop (r0, (fun b => uc0.heap.size ≤ b), ud0) ⟨rfl, rfl, rfl, rfl, rfl, rfl, trivial⟩ Nat.zero_lt_one hr0 (fun w hw => hw.cut)
  rintro ⟨rx, Gx, wx⟩ hrx
  simp only at hrx ⊢
  have irx := hrx.v1
  have brx := hrx.bound
  have lwe := wordsE_len k xs
  have hb9 := hK.b.l
  apply GC_seq
  refine GC_mid (α := VG) (fun s => [(7, pt p7), (8, pt p8), (5, rl), (6, .int .i64 0), (2, pt p2), (1, xv)]) (fun s => [(s.2.1, s.2.2), (Gx, wx), (Gl, wl), ((fun _ => True), w)]) (fun s => [(p8, .cells (wkC a b c d e s.1 k).toArray 35), (p7, .cells (wkC a b c d e rx k).toArray 35), (p2, .cells (wkC a b c d e f k).toArray 35)]) (fun s => Arr s.2.1 s.2.2 1 encI s.1 (wordsE k xs)) ?_ ?_
  · repeat' (first | apply s_ | ((first | apply JO_ob | apply GD_ex | apply GL_ex); exact rfl; first | exact ob1) | ((first | apply b_ | apply a_ | apply i_); exact z_; intro _) | ((first | apply p_ | apply JO_yes | apply GC_t); exact z_) | (apply n_; exact z_) | (apply GC_f; exact z_) | (apply GX_block_on; exact z_) | refine GC_drawB (id := 6) [] [0, 1] [2, 3, 4, 5] _ (by kernel_rfl) (List.Sublist.refl _) ?_ | refine GC_drawB (id := 11) [2, 3, 4, 5, 6, 7, 8, 9] [0, 1] [10, 11, 12, 13] _ (by kernel_rfl) (List.Sublist.refl _) ?_ | refine GC_drawA (id := 19) [0, 1, 2, 3, 4, 5, 6, 7, 8, 9, 10, 11, 12, 13, 14, 15, 16, 17, 18, 19, 20, 21, 22, 23, 24, 25, 26, 27, 28, 29, 30, 31, 32, 33, 34, 35] [] (by kernel_rfl) ?_ | ((first | apply GD_at | apply GL_at | apply GD_no | apply GL_no); exact rfl) | apply DFin_0 | (apply q1_; exact z_) | (apply q0_; exact z_) | (apply q2_; exact z_))
    refine GC_loop (α := Nat × Value × List Value) (fun s => k.yard.vats.length - s.1) (fun s => [(9, .int .i64 (s.1 : Int)), (7, pt p7), (8, pt p8), (5, rl), (6, .int .i64 0), (2, pt p2), (1, xv)]) (fun _ => [(Gx, wx), (Gl, wl), ((fun _ => True), w)]) (fun s => [(p8, .cells (wkC a b c d e s.2.1 k).toArray 35), (p7, .cells (wkC a b c d e rx k).toArray 35), (p2, .cells (wkC a b c d e f k).toArray 35)] ++ rowH s.2.1 3 (((wordsE k xs).take s.1).flatMap encI ++ s.2.2)) (fun s => s.1 ≤ k.yard.vats.length ∧ Own 1 encI s.2.1 ((wordsE k xs).take s.1) s.2.2) (0, .slice none 0 0, []) ⟨rfl, rfl, rfl, rfl, rfl, rfl, rfl, trivial⟩ ⟨Nat.zero_le _, Own.nil fun _ => rfl⟩ (fun w hw => hw.cut) ?_
    rintro ⟨i, ov, sp⟩ ⟨hi, ho⟩
    simp only [List.cons_append, List.nil_append] at hi ho ⊢
    have jo := ho.v1
    by_cases hlt : i < k.yard.vats.length
    · have wb := wordR_bd hWd i
      repeat' (first | apply s_ | ((first | apply JO_ob | apply GD_ex | apply GL_ex); exact rfl; first | exact ob1 | exact Ob_call rfl (fun w5 hw5 => c26W (hw5.wk mem_ h)) | exact Ob_call rfl (fun w5 hw5 => c58 w5 xv xs i (hw5.arr mem_ hA) hWd (by omega)) | exact Ob_rem rfl rfl (by omega) (by omega)) | ((first | apply b_ | apply a_ | apply i_); exact z_; intro _) | ((first | apply p_ | apply JO_yes | apply GC_t); exact z_) | (apply n_; exact z_) | (apply GC_f; exact z_) | (apply GX_block_on; exact z_) | refine GC_drawB (id := 6) [] [0, 1] [2, 3, 4, 5] _ (by kernel_rfl) (List.Sublist.refl _) ?_ | refine GC_drawB (id := 11) [2, 3, 4, 5, 6, 7, 8, 9] [0, 1] [10, 11, 12, 13] _ (by kernel_rfl) (List.Sublist.refl _) ?_ | refine GC_drawA (id := 19) [0, 1, 2, 3, 4, 5, 6, 7, 8, 9, 10, 11, 12, 13, 14, 15, 16, 17, 18, 19, 20, 21, 22, 23, 24, 25, 26, 27, 28, 29, 30, 31, 32, 33, 34, 35] [] (by kernel_rfl) ?_ | ((first | apply GD_at | apply GL_at | apply GD_no | apply GL_no); exact rfl) | apply DFin_0 | (apply q1_; exact z_) | (apply q0_; exact z_) | (apply q2_; exact z_))
      all_goals
        refine JO_append (xs := (wordsE k xs).take i) (ys := [wordR xs i % (k.beat.last + 1)]) [_, _, _, _] rfl rfl rfl ho (List.Perm.refl _) (fun w hw => hw.slOwn mem_ rfl) rfl (by simp; omega) ?_
        intro v3 s3 ho3
        have j3 := ho3.v1
        have e6 : (wordsE k xs).take i ++ [wordR xs i % (k.beat.last + 1)] = (wordsE k xs).take (i + 1) := by
          rw [take_snoc (by omega), wordsE_nth hlt]
        rw [e6] at ho3 ⊢
        repeat' (first | apply s_ | ((first | apply JO_ob | apply GD_ex | apply GL_ex); exact rfl; first | exact ob1) | ((first | apply b_ | apply a_ | apply i_); exact z_; intro _) | ((first | apply p_ | apply JO_yes | apply GC_t); exact z_) | (apply n_; exact z_) | (apply GC_f; exact z_) | (apply GX_block_on; exact z_) | refine GC_drawB (id := 6) [] [0, 1] [2, 3, 4, 5] _ (by kernel_rfl) (List.Sublist.refl _) ?_ | refine GC_drawB (id := 11) [2, 3, 4, 5, 6, 7, 8, 9] [0, 1] [10, 11, 12, 13] _ (by kernel_rfl) (List.Sublist.refl _) ?_ | refine GC_drawA (id := 19) [0, 1, 2, 3, 4, 5, 6, 7, 8, 9, 10, 11, 12, 13, 14, 15, 16, 17, 18, 19, 20, 21, 22, 23, 24, 25, 26, 27, 28, 29, 30, 31, 32, 33, 34, 35] [] (by kernel_rfl) ?_ | ((first | apply GD_at | apply GL_at | apply GD_no | apply GL_no); exact rfl) | apply DFin_0 | (apply q1_; exact z_) | (apply q0_; exact z_) | (apply q2_; exact z_))
        exact GX_loop (i + 1, v3, s3) ⟨rfl, rfl, rfl, rfl, rfl, rfl, rfl, trivial⟩ (by simp only; omega) ⟨by simp only; omega, ho3⟩ fun w hw => hw.weak (fun r h => h) (List.Sublist.cons _ (List.Sublist.refl _))
    · have ei : (wordsE k xs).take i = wordsE k xs := List.take_of_length_le (by omega)
      rw [ei] at ho ⊢
      repeat' (first | apply s_ | ((first | apply JO_ob | apply GD_ex | apply GL_ex); exact rfl; first | exact ob1 | exact Ob_call rfl (fun w5 hw5 => c26W (hw5.wk mem_ h))) | ((first | apply b_ | apply a_ | apply i_); exact z_; intro _) | ((first | apply p_ | apply JO_yes | apply GC_t); exact z_) | (apply n_; exact z_) | (apply GC_f; exact z_) | (apply GX_block_on; exact z_) | refine GC_drawB (id := 6) [] [0, 1] [2, 3, 4, 5] _ (by kernel_rfl) (List.Sublist.refl _) ?_ | refine GC_drawB (id := 11) [2, 3, 4, 5, 6, 7, 8, 9] [0, 1] [10, 11, 12, 13] _ (by kernel_rfl) (List.Sublist.refl _) ?_ | refine GC_drawA (id := 19) [0, 1, 2, 3, 4, 5, 6, 7, 8, 9, 10, 11, 12, 13, 14, 15, 16, 17, 18, 19, 20, 21, 22, 23, 24, 25, 26, 27, 28, 29, 30, 31, 32, 33, 34, 35] [] (by kernel_rfl) ?_ | ((first | apply GD_at | apply GL_at | apply GD_no | apply GL_no); exact rfl) | apply DFin_0 | (apply q1_; exact z_) | (apply q0_; exact z_) | (apply q2_; exact z_))
      refine GX_freeze (A := [_, _, _]) ho (by decide) ?_
      intro G2 w2 hV hG2
      exact GX_loop (ov, G2, w2) ⟨rfl, rfl, rfl, rfl, rfl, rfl, trivial⟩ Nat.zero_lt_one hV (fun w hw => hw.cut)
  rintro ⟨ry, Gy, wy⟩ hry
  simp only at hry ⊢
  have iry := hry.v1
  have bry := hry.bound
  have hfx := fault_ends hf hwe
  have hfy := fault_ends hf (wordsE_ends hK hWd)
  have htx : thinW (endsK k (wiseV k)) = true := thin_ends ht (by omega)
  have hty : thinW (endsK k (wordsE k xs)) = true := thin_ends ht (by omega)
  apply GC_seq
  refine GC_mid (α := VG) (fun s => [(10, s.1), (11, .int .i64 0), (7, pt p7), (8, pt p8), (5, rl), (6, .int .i64 0), (2, pt p2), (1, xv)]) (fun s => [(s.2.1, s.2.2), (Gy, wy), (Gx, wx), (Gl, wl), ((fun _ => True), w)]) (fun s => [(p8, .cells (wkC a b c d e ry k).toArray 35), (p7, .cells (wkC a b c d e rx k).toArray 35), (p2, .cells (wkC a b c d e f k).toArray 35)]) (fun s => Arr s.2.1 s.2.2 2 encR s.1 (mudsV (endsK k (wiseV k)) fun m => m)) ?_ ?_
  · repeat' (first | apply s_ | ((first | apply JO_ob | apply GD_ex | apply GL_ex); exact rfl; first | exact ob1) | ((first | apply b_ | apply a_ | apply i_); exact z_; intro _) | ((first | apply p_ | apply JO_yes | apply GC_t); exact z_) | (apply n_; exact z_) | (apply GC_f; exact z_) | (apply GX_block_on; exact z_) | refine GC_drawB (id := 6) [] [0, 1] [2, 3, 4, 5] _ (by kernel_rfl) (List.Sublist.refl _) ?_ | refine GC_drawB (id := 11) [2, 3, 4, 5, 6, 7, 8, 9] [0, 1] [10, 11, 12, 13] _ (by kernel_rfl) (List.Sublist.refl _) ?_ | refine GC_drawA (id := 19) [0, 1, 2, 3, 4, 5, 6, 7, 8, 9, 10, 11, 12, 13, 14, 15, 16, 17, 18, 19, 20, 21, 22, 23, 24, 25, 26, 27, 28, 29, 30, 31, 32, 33, 34, 35] [] (by kernel_rfl) ?_ | ((first | apply GD_at | apply GL_at | apply GD_no | apply GL_no); exact rfl) | apply DFin_0 | (apply q1_; exact z_) | (apply q0_; exact z_) | (apply q2_; exact z_))
    refine JO_call (S := TwoW (endsK k (wiseV k))) rfl rfl (fun w5 hw5 => c23W (⟨hw5.yd mem_ h.yard, hw5.bt mem_ h.beat, up hw5 mem_ hrx⟩) htx) ?_
    rintro _ uc9 ud9 hc9 hd9 hl9 ⟨a0, b0, c0, hs0, d0, e0, f0, rfl, hW0⟩
    have iw01 := hW0.yard.fields.v1
    have iw02 := hW0.yard.vats.arr.v1
    have iw03 := hW0.yard.smps.v1
    have iw04 := hW0.beat.vats.v1
    have iw05 := hW0.beat.smps.v1
    have iw06 := hW0.ends.v1
    repeat' (first | apply s_ | ((first | apply JO_ob | apply GD_ex | apply GL_ex); exact rfl; first | exact ob1) | ((first | apply b_ | apply a_ | apply i_); exact z_; intro _) | ((first | apply p_ | apply JO_yes | apply GC_t); exact z_) | (apply n_; exact z_) | (apply GC_f; exact z_) | (apply GX_block_on; exact z_) | refine GC_drawB (id := 6) [] [0, 1] [2, 3, 4, 5] _ (by kernel_rfl) (List.Sublist.refl _) ?_ | refine GC_drawB (id := 11) [2, 3, 4, 5, 6, 7, 8, 9] [0, 1] [10, 11, 12, 13] _ (by kernel_rfl) (List.Sublist.refl _) ?_ | refine GC_drawA (id := 19) [0, 1, 2, 3, 4, 5, 6, 7, 8, 9, 10, 11, 12, 13, 14, 15, 16, 17, 18, 19, 20, 21, 22, 23, 24, 25, 26, 27, 28, 29, 30, 31, 32, 33, 34, 35] [] (by kernel_rfl) ?_ | ((first | apply GD_at | apply GL_at | apply GD_no | apply GL_no); exact rfl) | apply DFin_0 | (apply q1_; exact z_) | (apply q0_; exact z_) | (apply q2_; exact z_))
    refine JO_call (S := RgsW (mudsV (endsK k (wiseV k)) fun m => m)) rfl rfl (fun w5 hw5 => c22F (upk hw5 (.head _) hW0) hfx) ?_
    rintro _ uc0 ud0 hc0 hd0 hl0 ⟨r0, rfl, hr0⟩
    have ir0 := hr0.v1
    have br0 := hr0.bound
    repeat' (first | apply s_ | ((first | apply JO_ob | apply GD_ex | apply GL_ex); exact rfl; first | exact ob1) | ((first | apply b_ | apply a_ | apply i_); exact z_; intro _) | ((first | apply p_ | apply JO_yes | apply GC_t); exact z_) | (apply n_; exact z_) | (apply GC_f; exact z_) | (apply GX_block_on; exact z_) | refine GC_drawB (id := 6) [] [0, 1] [2, 3, 4, 5] _ (by kernel_rfl) (List.Sublist.refl _) ?_ | refine GC_drawB (id := 11) [2, 3, 4, 5, 6, 7, 8, 9] [0, 1] [10, 11, 12, 13] _ (by kernel_rfl) (List.Sublist.refl _) ?_ | refine GC_drawA (id := 19) [0, 1, 2, 3, 4, 5, 6, 7, 8, 9, 10, 11, 12, 13, 14, 15, 16, 17, 18, 19, 20, 21, 22, 23, 24, 25, 26, 27, 28, 29, 30, 31, 32, 33, 34, 35] [] (by kernel_rfl) ?_ | ((first | apply GD_at | apply GL_at | apply GD_no | apply GL_no); exact rfl) | apply DFin_0 | (apply q1_; exact z_) | (apply q0_; exact z_) | (apply q2_; exact z_))
    all_goals exact GX_loop (r0, (fun b => uc0.heap.size ≤ b), ud0) ⟨rfl, rfl, rfl, rfl, rfl, rfl, rfl, rfl, trivial⟩ Nat.zero_lt_one hr0 (fun w hw => hw.cut)
  rintro ⟨ra, Ga, wa⟩ hra
  simp only at hra ⊢
  have ira := hra.v1
  have bra := hra.bound
  apply GC_seq
  refine GC_mid (α := VG) (fun s => [(12, s.1), (13, .int .i64 0), (10, ra), (11, .int .i64 0), (7, pt p7), (8, pt p8), (5, rl), (6, .int .i64 0), (2, pt p2), (1, xv)]) (fun s => [(s.2.1, s.2.2), (Ga, wa), (Gy, wy), (Gx, wx), (Gl, wl), ((fun _ => True), w)]) (fun s => [(p8, .cells (wkC a b c d e ry k).toArray 35), (p7, .cells (wkC a b c d e rx k).toArray 35), (p2, .cells (wkC a b c d e f k).toArray 35)]) (fun s => Arr s.2.1 s.2.2 2 encR s.1 (mudsV (endsK k (wordsE k xs)) fun m => m)) ?_ ?_
  · repeat' (first | apply s_ | ((first | apply JO_ob | apply GD_ex | apply GL_ex); exact rfl; first | exact ob1) | ((first | apply b_ | apply a_ | apply i_); exact z_; intro _) | ((first | apply p_ | apply JO_yes | apply GC_t); exact z_) | (apply n_; exact z_) | (apply GC_f; exact z_) | (apply GX_block_on; exact z_) | refine GC_drawB (id := 6) [] [0, 1] [2, 3, 4, 5] _ (by kernel_rfl) (List.Sublist.refl _) ?_ | refine GC_drawB (id := 11) [2, 3, 4, 5, 6, 7, 8, 9] [0, 1] [10, 11, 12, 13] _ (by kernel_rfl) (List.Sublist.refl _) ?_ | refine GC_drawA (id := 19) [0, 1, 2, 3, 4, 5, 6, 7, 8, 9, 10, 11, 12, 13, 14, 15, 16, 17, 18, 19, 20, 21, 22, 23, 24, 25, 26, 27, 28, 29, 30, 31, 32, 33, 34, 35] [] (by kernel_rfl) ?_ | ((first | apply GD_at | apply GL_at | apply GD_no | apply GL_no); exact rfl) | apply DFin_0 | (apply q1_; exact z_) | (apply q0_; exact z_) | (apply q2_; exact z_))
    refine JO_call (S := TwoW (endsK k (wordsE k xs))) rfl rfl (fun w5 hw5 => c23W (⟨hw5.yd mem_ h.yard, hw5.bt mem_ h.beat, up hw5 mem_ hry⟩) hty) ?_
    rintro _ uc9 ud9 hc9 hd9 hl9 ⟨a0, b0, c0, hs0, d0, e0, f0, rfl, hW0⟩
    have iw01 := hW0.yard.fields.v1
    have iw02 := hW0.yard.vats.arr.v1
    have iw03 := hW0.yard.smps.v1
    have iw04 := hW0.beat.vats.v1
    have iw05 := hW0.beat.smps.v1
    have iw06 := hW0.ends.v1
    repeat' (first | apply s_ | ((first | apply JO_ob | apply GD_ex | apply GL_ex); exact rfl; first | exact ob1) | ((first | apply b_ | apply a_ | apply i_); exact z_; intro _) | ((first | apply p_ | apply JO_yes | apply GC_t); exact z_) | (apply n_; exact z_) | (apply GC_f; exact z_) | (apply GX_block_on; exact z_) | refine GC_drawB (id := 6) [] [0, 1] [2, 3, 4, 5] _ (by kernel_rfl) (List.Sublist.refl _) ?_ | refine GC_drawB (id := 11) [2, 3, 4, 5, 6, 7, 8, 9] [0, 1] [10, 11, 12, 13] _ (by kernel_rfl) (List.Sublist.refl _) ?_ | refine GC_drawA (id := 19) [0, 1, 2, 3, 4, 5, 6, 7, 8, 9, 10, 11, 12, 13, 14, 15, 16, 17, 18, 19, 20, 21, 22, 23, 24, 25, 26, 27, 28, 29, 30, 31, 32, 33, 34, 35] [] (by kernel_rfl) ?_ | ((first | apply GD_at | apply GL_at | apply GD_no | apply GL_no); exact rfl) | apply DFin_0 | (apply q1_; exact z_) | (apply q0_; exact z_) | (apply q2_; exact z_))
    refine JO_call (S := RgsW (mudsV (endsK k (wordsE k xs)) fun m => m)) rfl rfl (fun w5 hw5 => c22F (upk hw5 (.head _) hW0) hfy) ?_
    rintro _ uc0 ud0 hc0 hd0 hl0 ⟨r0, rfl, hr0⟩
    have ir0 := hr0.v1
    have br0 := hr0.bound
    repeat' (first | apply s_ | ((first | apply JO_ob | apply GD_ex | apply GL_ex); exact rfl; first | exact ob1) | ((first | apply b_ | apply a_ | apply i_); exact z_; intro _) | ((first | apply p_ | apply JO_yes | apply GC_t); exact z_) | (apply n_; exact z_) | (apply GC_f; exact z_) | (apply GX_block_on; exact z_) | refine GC_drawB (id := 6) [] [0, 1] [2, 3, 4, 5] _ (by kernel_rfl) (List.Sublist.refl _) ?_ | refine GC_drawB (id := 11) [2, 3, 4, 5, 6, 7, 8, 9] [0, 1] [10, 11, 12, 13] _ (by kernel_rfl) (List.Sublist.refl _) ?_ | refine GC_drawA (id := 19) [0, 1, 2, 3, 4, 5, 6, 7, 8, 9, 10, 11, 12, 13, 14, 15, 16, 17, 18, 19, 20, 21, 22, 23, 24, 25, 26, 27, 28, 29, 30, 31, 32, 33, 34, 35] [] (by kernel_rfl) ?_ | ((first | apply GD_at | apply GL_at | apply GD_no | apply GL_no); exact rfl) | apply DFin_0 | (apply q1_; exact z_) | (apply q0_; exact z_) | (apply q2_; exact z_))
    all_goals exact GX_loop (r0, (fun b => uc0.heap.size ≤ b), ud0) ⟨rfl, rfl, rfl, rfl, rfl, rfl, rfl, rfl, rfl, rfl, trivial⟩ Nat.zero_lt_one hr0 (fun w hw => hw.cut)
  rintro ⟨rb, Gb, wb⟩ hrb
  simp only at hrb ⊢
  have irb := hrb.v1
  have brb := hrb.bound
  have la : (mudsV (endsK k (wiseV k)) fun m => m).length = k.yard.vats.length := mudsV_len _ _
  have lb : (mudsV (endsK k (wordsE k xs)) fun m => m).length = k.yard.vats.length := mudsV_len _ _
  apply GC_seq
  refine GC_mid (α := Unit) (fun s => [(12, rb), (13, .int .i64 0), (10, ra), (11, .int .i64 0), (7, pt p7), (8, pt p8), (5, rl), (6, .int .i64 0), (2, pt p2), (1, xv)]) (fun s => [(Gb, wb), (Ga, wa), (Gy, wy), (Gx, wx), (Gl, wl), ((fun _ => True), w)]) (fun s => [(p8, .cells (wkC a b c d e ry k).toArray 35), (p7, .cells (wkC a b c d e rx k).toArray 35), (p2, .cells (wkC a b c d e f k).toArray 35)]) (fun s => True) ?_ ?_
  · repeat' (first | apply s_ | ((first | apply JO_ob | apply GD_ex | apply GL_ex); exact rfl; first | exact ob1) | ((first | apply b_ | apply a_ | apply i_); exact z_; intro _) | ((first | apply p_ | apply JO_yes | apply GC_t); exact z_) | (apply n_; exact z_) | (apply GC_f; exact z_) | (apply GX_block_on; exact z_) | refine GC_drawB (id := 6) [] [0, 1] [2, 3, 4, 5] _ (by kernel_rfl) (List.Sublist.refl _) ?_ | refine GC_drawB (id := 11) [2, 3, 4, 5, 6, 7, 8, 9] [0, 1] [10, 11, 12, 13] _ (by kernel_rfl) (List.Sublist.refl _) ?_ | refine GC_drawA (id := 19) [0, 1, 2, 3, 4, 5, 6, 7, 8, 9, 10, 11, 12, 13, 14, 15, 16, 17, 18, 19, 20, 21, 22, 23, 24, 25, 26, 27, 28, 29, 30, 31, 32, 33, 34, 35] [] (by kernel_rfl) ?_ | ((first | apply GD_at | apply GL_at | apply GD_no | apply GL_no); exact rfl) | apply DFin_0 | (apply q1_; exact z_) | (apply q0_; exact z_) | (apply q2_; exact z_))
    all_goals exact GX_loop () ⟨rfl, rfl, rfl, rfl, rfl, rfl, rfl, rfl, rfl, rfl, trivial⟩ Nat.zero_lt_one trivial (fun w hw => hw.cut)
  intro _ _
  try simp only
  repeat' (first | apply s_ | ((first | apply JO_ob | apply GD_ex | apply GL_ex); exact rfl; first | exact ob1) | ((first | apply b_ | apply a_ | apply i_); exact z_; intro _) | ((first | apply p_ | apply JO_yes | apply GC_t); exact z_) | (apply n_; exact z_) | (apply GC_f; exact z_) | (apply GX_block_on; exact z_) | refine GC_drawB (id := 6) [] [0, 1] [2, 3, 4, 5] _ (by kernel_rfl) (List.Sublist.refl _) ?_ | refine GC_drawB (id := 11) [2, 3, 4, 5, 6, 7, 8, 9] [0, 1] [10, 11, 12, 13] _ (by kernel_rfl) (List.Sublist.refl _) ?_ | refine GC_drawA (id := 19) [0, 1, 2, 3, 4, 5, 6, 7, 8, 9, 10, 11, 12, 13, 14, 15, 16, 17, 18, 19, 20, 21, 22, 23, 24, 25, 26, 27, 28, 29, 30, 31, 32, 33, 34, 35] [] (by kernel_rfl) ?_ | ((first | apply GD_at | apply GL_at | apply GD_no | apply GL_no); exact rfl) | apply DFin_0 | (apply q1_; exact z_) | (apply q0_; exact z_) | (apply q2_; exact z_))
  refine GC_loop (α := Nat) (fun i => k.yard.vats.length - i) (fun i => [(14, .int .i64 (i : Int)), (12, rb), (13, .int .i64 0), (10, ra), (11, .int .i64 0), (7, pt p7), (8, pt p8), (5, rl), (6, .int .i64 0), (2, pt p2), (1, xv)]) (fun _ => [(Gb, wb), (Ga, wa), (Gy, wy), (Gx, wx), (Gl, wl), ((fun _ => True), w)]) (fun _ => [(p8, .cells (wkC a b c d e ry k).toArray 35), (p7, .cells (wkC a b c d e rx k).toArray 35), (p2, .cells (wkC a b c d e f k).toArray 35)]) (fun i => i ≤ k.yard.vats.length) 0 ⟨rfl, rfl, rfl, rfl, rfl, rfl, rfl, rfl, rfl, rfl, rfl, trivial⟩ (Nat.zero_le _) (fun w hw => hw.cut) ?_
  intro i hi
  by_cases hlt : i < k.yard.vats.length
  · have xa : i < (mudsV (endsK k (wiseV k)) fun m => m).length := by omega
    have xb : i < (mudsV (endsK k (wordsE k xs)) fun m => m).length := by omega
    have xl : i < (wiseV k).length := by omega
    have xe : i < (wordsE k xs).length := by omega
    obtain ⟨f1, f2⟩ := wiser_law hK hWd hlt
    by_cases he : (nth (mudsV (endsK k (wordsE k xs)) fun m => m) i).1 = (nth (mudsV (endsK k (wiseV k)) fun m => m) i).1
    · have f3 := f2 he
      repeat' (first | apply s_ | ((first | apply JO_ob | apply GD_ex | apply GL_ex); exact rfl; first | exact ob1) | ((first | apply b_ | apply a_ | apply i_); exact z_; intro _) | ((first | apply p_ | apply JO_yes | apply GC_t); exact z_) | (apply n_; exact z_) | (apply GC_f; exact z_) | (apply GX_block_on; exact z_) | refine GC_drawB (id := 6) [] [0, 1] [2, 3, 4, 5] _ (by kernel_rfl) (List.Sublist.refl _) ?_ | refine GC_drawB (id := 11) [2, 3, 4, 5, 6, 7, 8, 9] [0, 1] [10, 11, 12, 13] _ (by kernel_rfl) (List.Sublist.refl _) ?_ | refine GC_drawA (id := 19) [0, 1, 2, 3, 4, 5, 6, 7, 8, 9, 10, 11, 12, 13, 14, 15, 16, 17, 18, 19, 20, 21, 22, 23, 24, 25, 26, 27, 28, 29, 30, 31, 32, 33, 34, 35] [] (by kernel_rfl) ?_ | ((first | apply GD_at | apply GL_at | apply GD_no | apply GL_no); exact rfl) | apply DFin_0 | (apply q1_; exact z_) | (apply q0_; exact z_) | (apply q2_; exact z_))
      exact GX_loop (i + 1) ⟨rfl, rfl, rfl, rfl, rfl, rfl, rfl, rfl, rfl, rfl, rfl, trivial⟩ (by omega) (by omega) (fun w hw => hw.cut)
    · repeat' (first | apply s_ | ((first | apply JO_ob | apply GD_ex | apply GL_ex); exact rfl; first | exact ob1) | ((first | apply b_ | apply a_ | apply i_); exact z_; intro _) | ((first | apply p_ | apply JO_yes | apply GC_t); exact z_) | (apply n_; exact z_) | (apply GC_f; exact z_) | (apply GX_block_on; exact z_) | refine GC_drawB (id := 6) [] [0, 1] [2, 3, 4, 5] _ (by kernel_rfl) (List.Sublist.refl _) ?_ | refine GC_drawB (id := 11) [2, 3, 4, 5, 6, 7, 8, 9] [0, 1] [10, 11, 12, 13] _ (by kernel_rfl) (List.Sublist.refl _) ?_ | refine GC_drawA (id := 19) [0, 1, 2, 3, 4, 5, 6, 7, 8, 9, 10, 11, 12, 13, 14, 15, 16, 17, 18, 19, 20, 21, 22, 23, 24, 25, 26, 27, 28, 29, 30, 31, 32, 33, 34, 35] [] (by kernel_rfl) ?_ | ((first | apply GD_at | apply GL_at | apply GD_no | apply GL_no); exact rfl) | apply DFin_0 | (apply q1_; exact z_) | (apply q0_; exact z_) | (apply q2_; exact z_))
      exact GX_loop (i + 1) ⟨rfl, rfl, rfl, rfl, rfl, rfl, rfl, rfl, rfl, rfl, rfl, trivial⟩ (by omega) (by omega) (fun w hw => hw.cut)
  · repeat' (first | apply s_ | ((first | apply JO_ob | apply GD_ex | apply GL_ex); exact rfl; first | exact ob1 | exact Ob_call rfl (fun w5 _ => c21 w5)) | ((first | apply b_ | apply a_ | apply i_); exact z_; intro _) | ((first | apply p_ | apply JO_yes | apply GC_t); exact z_) | (apply n_; exact z_) | (apply GC_f; exact z_) | (apply GX_block_on; exact z_) | refine GC_drawB (id := 6) [] [0, 1] [2, 3, 4, 5] _ (by kernel_rfl) (List.Sublist.refl _) ?_ | refine GC_drawB (id := 11) [2, 3, 4, 5, 6, 7, 8, 9] [0, 1] [10, 11, 12, 13] _ (by kernel_rfl) (List.Sublist.refl _) ?_ | refine GC_drawA (id := 19) [0, 1, 2, 3, 4, 5, 6, 7, 8, 9, 10, 11, 12, 13, 14, 15, 16, 17, 18, 19, 20, 21, 22, 23, 24, 25, 26, 27, 28, 29, 30, 31, 32, 33, 34, 35] [] (by kernel_rfl) ?_ | ((first | apply GD_at | apply GL_at | apply GD_no | apply GL_no); exact rfl) | apply DFin_0 | (apply q1_; exact z_) | (apply q0_; exact z_) | (apply q2_; exact z_))
    exact GX_ex rfl rfl mem_ rfl
theorem law13 (h : WkA All w a b c hs d e f k) (hA : Arr All w 1 encU xv xs) (hWd : Words xs) : Ex 13 [wkV a b c d e f k, xv] w (.bool true) := by
  have i1 := h.yard.fields.v1
  have i2 := h.yard.vats.arr.v1
  have i3 := h.yard.smps.v1
  have i4 := h.beat.vats.v1
  have i5 := h.beat.smps.v1
  have i6 := h.ends.v1
  have i7 := hA.v1
  cases hr : readyW k
  · refine Rt_of Tryz.func13 rfl Tryz.ntmps13 rfl ?_
    repeat' (first | apply s_ | ((first | apply JO_ob | apply GD_ex | apply GL_ex); exact rfl; first | exact ob1 | exact Ob_call rfl (fun w5 hw5 => c48F (hw5.wk mem_ h) hr) | exact Ob_call rfl (fun w5 _ => c21 w5)) | ((first | apply b_ | apply a_ | apply i_); exact z_; intro _) | ((first | apply p_ | apply JO_yes | apply GC_t); exact z_) | (apply n_; exact z_) | (apply GC_f; exact z_) | (apply GX_block_on; exact z_) | refine GC_drawB (id := 6) [] [0, 1] [2, 3, 4, 5] _ (by kernel_rfl) (List.Sublist.refl _) ?_ | refine GC_drawB (id := 11) [2, 3, 4, 5, 6, 7, 8, 9] [0, 1] [10, 11, 12, 13] _ (by kernel_rfl) (List.Sublist.refl _) ?_ | refine GC_drawA (id := 19) [0, 1, 2, 3, 4, 5, 6, 7, 8, 9, 10, 11, 12, 13, 14, 15, 16, 17, 18, 19, 20, 21, 22, 23, 24, 25, 26, 27, 28, 29, 30, 31, 32, 33, 34, 35] [] (by kernel_rfl) ?_ | ((first | apply GD_at | apply GL_at | apply GD_no | apply GL_no); exact rfl) | apply DFin_0 | (apply q1_; exact z_) | (apply q0_; exact z_) | (apply q2_; exact z_))
    exact GX_ex rfl rfl mem_ rfl
  exact law13_good h hA hWd hr
end
end Go.Proofs.YtkbaaikidhbfmaaGreat
