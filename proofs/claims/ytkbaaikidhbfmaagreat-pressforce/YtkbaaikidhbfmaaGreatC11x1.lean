/- The law PressForce of the chapter 09 returns true for every input, and each argument reads afterwards as it read before. No condition. -/
import Derived.Test.YtkbaaikidhbfmaaGreatB5
/- Plain mathematics: works with another number of boxes, another force, another last hour, other cakes; the best plans. No statement is proved here. -/
set_option linter.unusedVariables false
set_option linter.unusedSimpArgs false
namespace Go.Proofs.YtkbaaikidhbfmaaGreat
open Go.RowKit
theorem fault9_mk {k : Wk} (h : OkK k) (hm : many1 k.yard.fields * many3 k.beat ≤ 6000) : fault9 k = 0 := by
  have h1 : (truths1 k.yard).length ≠ 0 := fun e => h.t1 ((truths1_nil h.y.f h.m1).1 e)
  have h3 : (truths3 k.beat).length ≠ 0 := fun e => h.t3 ((truths3_nil h.b).1 e)
  have hn : isNum k = true := by simp only [isNum, Bool.and_eq_true, decide_eq_true_eq]; exact ⟨h.boxes, h.force, h.last, h.cake⟩
  unfold fault9
  rw [if_neg (fun e => e h.f1), if_neg h1, if_neg (fun e => e h.f3), if_neg h3, if_neg (fun e => e h.len), if_neg (by rw [h.ends]; decide), if_neg (by rw [hn]; decide), if_neg (by omega)]
theorem fault9_many {k : Wk} (h : fault9 k = 0) : many1 k.yard.fields * many3 k.beat ≤ 6000 := (fault9_0 h).2.2.2.2.2.2.2
def boxK (k : Wk) (b : Int) : Wk := { k with boxes := b }
theorem fault_box {k : Wk} (h : fault9 k = 0) {b : Int} (hb : 1 ≤ b ∧ b ≤ 3) : fault9 (boxK k b) = 0 := by
  have hK := okK_of h
  have hm := fault9_many h
  exact fault9_mk (k := boxK k b) ⟨hK.f1, hK.f3, hK.y, hK.b, hK.m1, hK.m3, hK.len, hK.ends, hK.t1, hK.t3, hb, hK.force, hK.last, hK.cake⟩ hm
theorem best_box (k : Wk) (b b' : Int) : bestL (boxK k b) b' = bestL k b' := rfl
theorem best_len {k : Wk} (h : OkK k) {b : Int} (hb : 1 ≤ b) : (bestL k b).1.length = k.yard.vats.length := (mem_plans.1 (bestL_ok h hb).mem).1
theorem best_bd {k : Wk} (h : OkK k) {b : Int} (hb : 1 ≤ b) : 0 ≤ (bestL k b).2 ∧ (bestL k b).2 ≤ 2703 := by
  rw [(bestL_ok h hb).val]; exact endV_bd h _
def zeros (k : Wk) : List Int := List.replicate k.yard.vats.length 0
theorem zeros_len (k : Wk) : (zeros k).length = k.yard.vats.length := by simp [zeros]
theorem zeros_nth {k : Wk} {i : Nat} (hi : i < k.yard.vats.length) : nth (zeros k) i = 0 := by simp [zeros, nth, hi]
theorem zeros_plan {k : Wk} (h : OkK k) : planP k (zeros k) = true := by
  rw [planP_eq h.boxes, isPlan_iff, mem_plans]
  have hb := h.boxes
  exact ⟨zeros_len k, fun x hx => by rw [List.eq_of_mem_replicate hx]; omega⟩
theorem zeros_end {k : Wk} (h : OkK k) (hn : 0 < k.yard.vats.length) : endV k (zeros k) = (nth (timesV k (zeros k)) (k.yard.vats.length - 1)).2 := by
  have h1 := endV_ge h (zeros k) (i := k.yard.vats.length - 1) (by omega)
  have h2 : endV k (zeros k) ≤ (nth (timesV k (zeros k)) (k.yard.vats.length - 1)).2 := by
    have h0 := (timesV_bd h (zeros k) (i := k.yard.vats.length - 1) (by omega))
    rw [endV_leP h]
    refine ⟨by omega, fun i hi p hp => ?_⟩
    have h3 := (times_in (zeros k) hp (i := k.yard.vats.length - 1) (by omega)).2
    have h4 := atN_grow (hr := hrP k p) (l := zeros k) (v := 0) (n := i + 1) (k.yard.vats.length - 1 - i) (fun j hj => (hrP_bd h hp (by omega)).1)
    rw [show i + 1 + (k.yard.vats.length - 1 - i) = k.yard.vats.length by omega] at h4
    rw [atP_eq, zeros_nth hi]
    rw [atP_eq, zeros_nth (by omega), show k.yard.vats.length - 1 + 1 = k.yard.vats.length by omega] at h3
    omega
  omega
theorem best_one {k : Wk} (h : OkK k) (hn : 0 < k.yard.vats.length) : (bestL k 1).2 = (nth (timesV k (zeros k)) (k.yard.vats.length - 1)).2 := by
  have h1 := bestL_ok h (b := 1) (by omega)
  obtain ⟨g1, g2⟩ := mem_plans.1 h1.mem
  have e : (bestL k 1).1 = zeros k := by
    rw [zeros, ← g1]
    exact List.eq_replicate_iff.2 ⟨rfl, fun x hx => by have := g2 x hx; omega⟩
  rw [h1.val, e, zeros_end h hn]
def mostT (k : Wk) (i : Nat) : Int := endR ((mudsV k fun m => (hoursR k.force m : Int)).take i)
theorem mostT_succ {k : Wk} {i : Nat} (hi : i < k.yard.vats.length) : mostT k (i + 1) = max (mostT k i) (nth (mudsV k fun m => (hoursR k.force m : Int)) i).2 := by
  simp only [mostT]
  rw [take_snoc (by rw [mudsV_len]; exact hi)]
  simp only [endR, List.foldl_append, List.foldl_cons, List.foldl_nil]
theorem mostT_all (k : Wk) : mostT k k.yard.vats.length = mostV k := by
  simp only [mostT, mostV]; rw [List.take_of_length_le (by rw [mudsV_len]; exact Nat.le_refl _)]
end Go.Proofs.YtkbaaikidhbfmaaGreat
/- Plain mathematics: works with a greater force, with smaller cakes, with a later last hour. No statement is proved here. -/
set_option linter.unusedVariables false
set_option linter.unusedSimpArgs false
namespace Go.Proofs.YtkbaaikidhbfmaaGreat
open Go.RowKit
def forceK (k : Wk) (f : Int) : Wk := { k with force := f }
def cakeK (k : Wk) (c : Int) : Wk := { k with cake := c }
def lastK (k : Wk) (x : Int) : Wk := { k with last := x }
theorem okK_force {k : Wk} (hK : OkK k) {f : Int} (hf : 1 ≤ f ∧ f ≤ 9) : OkK (forceK k f) := ⟨hK.f1, hK.f3, hK.y, hK.b, hK.m1, hK.m3, hK.len, hK.ends, hK.t1, hK.t3, hK.boxes, hf, hK.last, hK.cake⟩
theorem okK_cake {k : Wk} (hK : OkK k) {c : Int} (hc : 1 ≤ c ∧ c ≤ 50) : OkK (cakeK k c) := ⟨hK.f1, hK.f3, hK.y, hK.b, hK.m1, hK.m3, hK.len, hK.ends, hK.t1, hK.t3, hK.boxes, hK.force, hK.last, hc⟩
theorem okK_last {k : Wk} (hK : OkK k) {x : Int} (hx : 0 ≤ x ∧ x ≤ 99) : OkK (lastK k x) := ⟨hK.f1, hK.f3, hK.y, hK.b, hK.m1, hK.m3, hK.len, hK.ends, hK.t1, hK.t3, hK.boxes, hK.force, hx, hK.cake⟩
theorem fault_force {k : Wk} (h : fault9 k = 0) {f : Int} (hf : 1 ≤ f ∧ f ≤ 9) : fault9 (forceK k f) = 0 := by
  have hm := fault9_many h
  exact fault9_mk (k := forceK k f) (okK_force (okK_of h) hf) hm
theorem fault_cake {k : Wk} (h : fault9 k = 0) {c : Int} (hc : 1 ≤ c ∧ c ≤ 50) : fault9 (cakeK k c) = 0 := by
  have hm := fault9_many h
  exact fault9_mk (k := cakeK k c) (okK_cake (okK_of h) hc) hm
theorem fault_last {k : Wk} (h : fault9 k = 0) {x : Int} (hx : 0 ≤ x ∧ x ≤ 99) : fault9 (lastK k x) = 0 := by
  have hm := fault9_many h
  exact fault9_mk (k := lastK k x) (okK_last (okK_of h) hx) hm
theorem force_hours {k : Wk} (hK : OkK k) {f : Int} (hf : k.force ≤ f ∧ f ≤ 9) {i : Nat} (hi : i < k.yard.vats.length) :
    (nth (mudsV (forceK k f) fun m => (hoursR (forceK k f).force m : Int)) i).1 ≤ (nth (mudsV k fun m => (hoursR k.force m : Int)) i).1 ∧ (nth (mudsV (forceK k f) fun m => (hoursR (forceK k f).force m : Int)) i).2 ≤ (nth (mudsV k fun m => (hoursR k.force m : Int)) i).2 := by
  have h1 := hK.force
  have hK2 := okK_force hK (f := f) (by omega)
  obtain ⟨g1, g2, g3, _, _⟩ := muds_bd hK hi
  have e : (mudsV (forceK k f) fun m => m) = mudsV k fun m => m := rfl
  have q1 := hoursR_force (m := (nth (mudsV k fun m => m) i).1) h1.1 hf.1 (by omega)
  have q2 := hoursR_force (m := (nth (mudsV k fun m => m) i).2) h1.1 hf.1 (by omega)
  rw [hours_mono hK hi, hours_mono hK2 hi, e]
  exact ⟨Int.ofNat_le.2 q1, Int.ofNat_le.2 q2⟩
theorem div_le {x c c' : Int} (hx : 0 ≤ x) (hc : 1 ≤ c') (h : c' ≤ c) : x / c ≤ x / c' := by
  refine (Int.le_ediv_iff_mul_le (by omega)).2 ?_
  have h1 : 0 ≤ x / c := Int.ediv_nonneg hx (by omega)
  have h2 : x / c * c' ≤ x / c * c := Int.mul_le_mul_of_nonneg_left h h1
  have h3 : x / c * c ≤ x := Int.ediv_mul_le x (by omega)
  omega
theorem cake_more {k : Wk} (hK : OkK k) {c : Int} (hc : 1 ≤ c ∧ c ≤ k.cake) {i : Nat} (hi : i < k.yard.vats.length) :
    (nth (mudsV k fun m => m / k.cake) i).1 ≤ (nth (mudsV (cakeK k c) fun m => m / (cakeK k c).cake) i).1 ∧ (nth (mudsV k fun m => m / k.cake) i).2 ≤ (nth (mudsV (cakeK k c) fun m => m / (cakeK k c).cake) i).2 := by
  have h1 := hK.cake
  have hK2 := okK_cake hK (c := c) (by omega)
  obtain ⟨g1, g2, g3, _, _⟩ := muds_bd hK hi
  have e : (mudsV (cakeK k c) fun m => m) = mudsV k fun m => m := rfl
  rw [cakes_mono hK hi, cakes_mono hK2 hi, e]
  exact ⟨div_le g1 hc.1 hc.2, div_le (by omega) hc.1 hc.2⟩
theorem end_force {k : Wk} (hK : OkK k) {f : Int} (hf : k.force ≤ f ∧ f ≤ 9) (l : List Int) : endV (forceK k f) l ≤ endV k l := by
  have h1 := hK.force
  have hK2 := okK_force hK (f := f) (by omega)
  obtain ⟨q1, q2⟩ := (endV_leP hK (l := l)).1 (Int.le_refl _)
  rw [endV_leP hK2]
  refine ⟨q1, fun i hi p hp => ?_⟩
  refine Int.le_trans ?_ (q2 i hi p hp)
  refine atN_mono _ fun j hj => ?_
  have h3 := mudR_bd hK (p := p) hp (i := j) (by have : i < k.yard.vats.length := hi; omega)
  exact Int.ofNat_le.2 (hoursR_force h1.1 hf.1 h3.2)
theorem best_force {k : Wk} (hK : OkK k) {f : Int} (hf : k.force ≤ f ∧ f ≤ 9) {b : Int} (hb : 1 ≤ b) : (bestL (forceK k f) b).2 ≤ (bestL k b).2 := by
  have h1 := hK.force
  have hK2 := okK_force hK (f := f) (by omega)
  have b1 := bestL_ok hK hb
  have b2 := bestL_ok hK2 hb
  rw [b1.val]
  exact Int.le_trans (b2.least _ b1.mem) (end_force hK hf _)
end Go.Proofs.YtkbaaikidhbfmaaGreat
/- The walk of the law PressForce. No statement is proved here. -/
set_option linter.unusedVariables false
set_option linter.unusedSimpArgs false
namespace Go.Proofs.YtkbaaikidhbfmaaGreat
open Go.RowKit
section
variable {w : World} {a b c d e f : Value} {hs : List Value} {k : Wk}
set_option maxRecDepth 100000 in
set_option maxHeartbeats 8000000 in
theorem law11_good (h : WkA All w a b c hs d e f k) (x : Int) (hx : 0 ≤ x ∧ x ≤ 255) (hr : readyW k = true) : Ex 11 [wkV a b c d e f k, .int .u8 x] w (.bool true) := by
  have i1 := h.yard.fields.v1
  have i2 := h.yard.vats.arr.v1
  have i3 := h.yard.smps.v1
  have i4 := h.beat.vats.v1
  have i5 := h.beat.smps.v1
  have i6 := h.ends.v1
  obtain ⟨ht, hf⟩ := ready_iff.1 hr
  have hK := okK_of hf
  have v3 := hK.v3
  refine Rt_of Tryz.func11 rfl Tryz.ntmps11 rfl ?_

  apply GC_seq
  refine GC_mid (α := Nat) (fun s => [(2, pt s), (1, .int .u8 x)]) (fun s => [((fun _ => True), w)]) (fun s => [(s, .cells (wkC a b c d e f k).toArray 35)]) (fun s => True) ?_ ?_
  · repeat' (first | apply s_ | ((first | apply JO_ob | apply GD_ex | apply GL_ex); exact rfl; first | exact ob1) | ((first | apply b_ | apply a_ | apply i_); exact z_; intro _) | ((first | apply p_ | apply JO_yes | apply GC_t); exact z_) | (apply n_; exact z_) | (apply GC_f; exact z_) | (apply GX_block_on; exact z_) | refine GC_drawB (id := 3) [] [0, 1] [2, 3, 4, 5] _ (by kernel_rfl) (List.Sublist.refl _) ?_ | refine GC_drawB (id := 4) [0, 1, 2, 3, 4, 5, 6, 15] [7, 8, 9, 10, 11, 12, 13, 14] [16, 17, 18] _ (by kernel_rfl) (List.Sublist.refl _) ?_ | refine GC_drawA (id := 18) [0, 1, 2, 3, 4, 5, 6, 7, 8, 9, 10, 11, 12, 13, 14, 15, 16, 17, 18, 19, 20, 21, 22, 23, 24, 25, 26, 27, 28, 29, 30, 31, 32, 33, 34, 35, 36, 37, 38, 39, 40, 41, 42, 43, 44, 45, 46, 47, 48, 49, 50, 51, 52, 53, 54, 55, 56, 57, 58, 59, 60] [] (by kernel_rfl) ?_ | ((first | apply GD_at | apply GL_at | apply GD_no | apply GL_no); exact rfl) | apply DFin_0 | (apply q1_; exact z_) | (apply q0_; exact z_) | (apply q2_; exact z_))
    all_goals exact GX_loop _ ⟨rfl, rfl, trivial⟩ Nat.zero_lt_one trivial (fun w hw => hw.cut)
  intro p2 _
  try simp only
  apply GC_seq
  refine GC_mid (α := Unit) (fun s => [(2, pt p2), (1, .int .u8 x)]) (fun s => [((fun _ => True), w)]) (fun s => [(p2, .cells (wkC a b c d e f k).toArray 35)]) (fun s => True) ?_ ?_
  · repeat' (first | apply s_ | ((first | apply JO_ob | apply GD_ex | apply GL_ex); exact rfl; first | exact ob1 | exact Ob_call rfl (fun w5 hw5 => c48T (hw5.wk mem_ h) hr)) | ((first | apply b_ | apply a_ | apply i_); exact z_; intro _) | ((first | apply p_ | apply JO_yes | apply GC_t); exact z_) | (apply n_; exact z_) | (apply GC_f; exact z_) | (apply GX_block_on; exact z_) | refine GC_drawB (id := 3) [] [0, 1] [2, 3, 4, 5] _ (by kernel_rfl) (List.Sublist.refl _) ?_ | refine GC_drawB (id := 4) [0, 1, 2, 3, 4, 5, 6, 15] [7, 8, 9, 10, 11, 12, 13, 14] [16, 17, 18] _ (by kernel_rfl) (List.Sublist.refl _) ?_ | refine GC_drawA (id := 18) [0, 1, 2, 3, 4, 5, 6, 7, 8, 9, 10, 11, 12, 13, 14, 15, 16, 17, 18, 19, 20, 21, 22, 23, 24, 25, 26, 27, 28, 29, 30, 31, 32, 33, 34, 35, 36, 37, 38, 39, 40, 41, 42, 43, 44, 45, 46, 47, 48, 49, 50, 51, 52, 53, 54, 55, 56, 57, 58, 59, 60] [] (by kernel_rfl) ?_ | ((first | apply GD_at | apply GL_at | apply GD_no | apply GL_no); exact rfl) | apply DFin_0 | (apply q1_; exact z_) | (apply q0_; exact z_) | (apply q2_; exact z_))
    all_goals exact GX_loop () ⟨rfl, rfl, trivial⟩ Nat.zero_lt_one trivial (fun w hw => hw.cut)
  intro _ _
  try simp only
  apply GC_seq
  refine GC_mid (α := Nat × Nat) (fun s => [(5, pt s.1), (6, pt s.2), (2, pt p2), (1, .int .u8 x)]) (fun s => [((fun _ => True), w)]) (fun s => [(s.2, .cells (wkC a b c d e f k).toArray 35), (s.1, .cells (wkC a b c d e f k).toArray 35), (p2, .cells (wkC a b c d e f k).toArray 35)]) (fun s => True) ?_ ?_
  · repeat' (first | apply s_ | ((first | apply JO_ob | apply GD_ex | apply GL_ex); exact rfl; first | exact ob1) | ((first | apply b_ | apply a_ | apply i_); exact z_; intro _) | ((first | apply p_ | apply JO_yes | apply GC_t); exact z_) | (apply n_; exact z_) | (apply GC_f; exact z_) | (apply GX_block_on; exact z_) | refine GC_drawB (id := 3) [] [0, 1] [2, 3, 4, 5] _ (by kernel_rfl) (List.Sublist.refl _) ?_ | refine GC_drawB (id := 4) [0, 1, 2, 3, 4, 5, 6, 15] [7, 8, 9, 10, 11, 12, 13, 14] [16, 17, 18] _ (by kernel_rfl) (List.Sublist.refl _) ?_ | refine GC_drawA (id := 18) [0, 1, 2, 3, 4, 5, 6, 7, 8, 9, 10, 11, 12, 13, 14, 15, 16, 17, 18, 19, 20, 21, 22, 23, 24, 25, 26, 27, 28, 29, 30, 31, 32, 33, 34, 35, 36, 37, 38, 39, 40, 41, 42, 43, 44, 45, 46, 47, 48, 49, 50, 51, 52, 53, 54, 55, 56, 57, 58, 59, 60] [] (by kernel_rfl) ?_ | ((first | apply GD_at | apply GL_at | apply GD_no | apply GL_no); exact rfl) | apply DFin_0 | (apply q1_; exact z_) | (apply q0_; exact z_) | (apply q2_; exact z_))
    all_goals try simp only [setH]
    all_goals first | exact GX_loop (_, _) ⟨rfl, rfl, rfl, rfl, trivial⟩ Nat.zero_lt_one trivial (fun w hw => hw.weak (fun r h => h) (List.Sublist.refl _)) | exact GX_loop (_, _) ⟨rfl, rfl, rfl, rfl, trivial⟩ Nat.zero_lt_one trivial (fun w hw => (hw.perm (List.Perm.swap ..)).weak (fun r h => h) (List.Sublist.refl _))
  rintro ⟨p5, p6⟩ _
  try simp only
  have hfo := hK.force
  have hck := hK.cake
  apply GC_seq
  refine GC_mid (α := Unit) (fun s => [(5, pt p5), (6, pt p6), (2, pt p2), (1, .int .u8 x)]) (fun s => [((fun _ => True), w)]) (fun s => [(p6, .cells (wkC a b c d e f (cakeK k (max 1 (k.cake - x / 4 % 8)))).toArray 35), (p5, .cells (wkC a b c d e f (forceK k (min 9 (k.force + x % 4)))).toArray 35), (p2, .cells (wkC a b c d e f k).toArray 35)]) (fun s => True) ?_ ?_
  · refine GC_drawB (id := 4) [0, 1, 2, 3, 4, 5, 6, 15] [7, 8, 9, 10, 11, 12, 13, 14] [16, 17, 18] [(p2, .cells (wkC a b c d e f k).toArray 35)] (by kernel_rfl) (.cons _ (.cons _ (List.Sublist.refl _))) ?_
    repeat' (first | apply s_ | ((first | apply JO_ob | apply GD_ex | apply GL_ex); exact rfl; first | exact ob1 | exact Ob_convert rfl (wrapI (by omega) (by omega)) | exact Ob_rem rfl rfl (by omega) (by omega) | exact Ob_quo rfl rfl (by omega) (by omega) (by omega)) | ((first | apply b_ | apply a_ | apply i_); exact z_; intro _) | ((first | apply p_ | apply JO_yes | apply GC_t); exact z_) | (apply n_; exact z_) | (apply GC_f; exact z_) | (apply GX_block_on; exact z_) | refine GC_drawB (id := 3) [] [0, 1] [2, 3, 4, 5] _ (by kernel_rfl) (List.Sublist.refl _) ?_ | refine GC_drawB (id := 4) [0, 1, 2, 3, 4, 5, 6, 15] [7, 8, 9, 10, 11, 12, 13, 14] [16, 17, 18] _ (by kernel_rfl) (List.Sublist.refl _) ?_ | refine GC_drawA (id := 18) [0, 1, 2, 3, 4, 5, 6, 7, 8, 9, 10, 11, 12, 13, 14, 15, 16, 17, 18, 19, 20, 21, 22, 23, 24, 25, 26, 27, 28, 29, 30, 31, 32, 33, 34, 35, 36, 37, 38, 39, 40, 41, 42, 43, 44, 45, 46, 47, 48, 49, 50, 51, 52, 53, 54, 55, 56, 57, 58, 59, 60] [] (by kernel_rfl) ?_ | ((first | apply GD_at | apply GL_at | apply GD_no | apply GL_no); exact rfl) | apply DFin_0 | (apply q1_; exact z_) | (apply q0_; exact z_) | (apply q2_; exact z_))
    all_goals exact GX_loop () ⟨rfl, rfl, rfl, rfl, trivial⟩ Nat.zero_lt_one trivial (fun w hw => hw.cut)
  intro _ _
  try simp only
  have hF : k.force ≤ min 9 (k.force + x % 4) ∧ min 9 (k.force + x % 4) ≤ 9 := by omega
  have hC : 1 ≤ max 1 (k.cake - x / 4 % 8) ∧ max 1 (k.cake - x / 4 % 8) ≤ k.cake := by omega
  generalize min 9 (k.force + x % 4) = F at hF ⊢
  generalize max 1 (k.cake - x / 4 % 8) = C at hC ⊢
  have hfF : fault9 (forceK k F) = 0 := fault_force hf (by omega)
  have hfC : fault9 (cakeK k C) = 0 := fault_cake hf (by omega)
  have hF2 : WkA All w a b c hs d e f (forceK k F) := ⟨h.yard, h.beat, h.ends⟩
  have hC2 : WkA All w a b c hs d e f (cakeK k C) := ⟨h.yard, h.beat, h.ends⟩
  have htF : thinW (forceK k F) = true := ht
  have htC : thinW (cakeK k C) = true := ht
  apply GC_seq
  refine GC_mid (α := VG) (fun s => [(7, s.1), (8, .int .i64 0), (5, pt p5), (6, pt p6), (2, pt p2), (1, .int .u8 x)]) (fun s => [(s.2.1, s.2.2), ((fun _ => True), w)]) (fun s => [(p6, .cells (wkC a b c d e f (cakeK k C)).toArray 35), (p5, .cells (wkC a b c d e f (forceK k F)).toArray 35), (p2, .cells (wkC a b c d e f k).toArray 35)]) (fun s => Arr s.2.1 s.2.2 2 encR s.1 (mudsV k fun m => (hoursR k.force m : Int))) ?_ ?_
  · repeat' (first | apply s_ | ((first | apply JO_ob | apply GD_ex | apply GL_ex); exact rfl; first | exact ob1) | ((first | apply b_ | apply a_ | apply i_); exact z_; intro _) | ((first | apply p_ | apply JO_yes | apply GC_t); exact z_) | (apply n_; exact z_) | (apply GC_f; exact z_) | (apply GX_block_on; exact z_) | refine GC_drawB (id := 3) [] [0, 1] [2, 3, 4, 5] _ (by kernel_rfl) (List.Sublist.refl _) ?_ | refine GC_drawB (id := 4) [0, 1, 2, 3, 4, 5, 6, 15] [7, 8, 9, 10, 11, 12, 13, 14] [16, 17, 18] _ (by kernel_rfl) (List.Sublist.refl _) ?_ | refine GC_drawA (id := 18) [0, 1, 2, 3, 4, 5, 6, 7, 8, 9, 10, 11, 12, 13, 14, 15, 16, 17, 18, 19, 20, 21, 22, 23, 24, 25, 26, 27, 28, 29, 30, 31, 32, 33, 34, 35, 36, 37, 38, 39, 40, 41, 42, 43, 44, 45, 46, 47, 48, 49, 50, 51, 52, 53, 54, 55, 56, 57, 58, 59, 60] [] (by kernel_rfl) ?_ | ((first | apply GD_at | apply GL_at | apply GD_no | apply GL_no); exact rfl) | apply DFin_0 | (apply q1_; exact z_) | (apply q0_; exact z_) | (apply q2_; exact z_))
    refine JO_call (S := TwoW k) rfl rfl (fun w5 hw5 => c23W (hw5.wk mem_ h) ht) ?_
    rintro _ ua0 ub0 ha0 hb0 hk0 ⟨a0, b0, c0, hs0, d0, e0, f0, rfl, hW0⟩
    have iw01 := hW0.yard.fields.v1
    have iw02 := hW0.yard.vats.arr.v1
    have iw03 := hW0.yard.smps.v1
    have iw04 := hW0.beat.vats.v1
    have iw05 := hW0.beat.smps.v1
    have iw06 := hW0.ends.v1
    repeat' (first | apply s_ | ((first | apply JO_ob | apply GD_ex | apply GL_ex); exact rfl; first | exact ob1) | ((first | apply b_ | apply a_ | apply i_); exact z_; intro _) | ((first | apply p_ | apply JO_yes | apply GC_t); exact z_) | (apply n_; exact z_) | (apply GC_f; exact z_) | (apply GX_block_on; exact z_) | refine GC_drawB (id := 3) [] [0, 1] [2, 3, 4, 5] _ (by kernel_rfl) (List.Sublist.refl _) ?_ | refine GC_drawB (id := 4) [0, 1, 2, 3, 4, 5, 6, 15] [7, 8, 9, 10, 11, 12, 13, 14] [16, 17, 18] _ (by kernel_rfl) (List.Sublist.refl _) ?_ | refine GC_drawA (id := 18) [0, 1, 2, 3, 4, 5, 6, 7, 8, 9, 10, 11, 12, 13, 14, 15, 16, 17, 18, 19, 20, 21, 22, 23, 24, 25, 26, 27, 28, 29, 30, 31, 32, 33, 34, 35, 36, 37, 38, 39, 40, 41, 42, 43, 44, 45, 46, 47, 48, 49, 50, 51, 52, 53, 54, 55, 56, 57, 58, 59, 60] [] (by kernel_rfl) ?_ | ((first | apply GD_at | apply GL_at | apply GD_no | apply GL_no); exact rfl) | apply DFin_0 | (apply q1_; exact z_) | (apply q0_; exact z_) | (apply q2_; exact z_))
    refine JO_call (S := RgsW (mudsV k fun m => (hoursR k.force m : Int))) rfl rfl (fun w5 hw5 => c29F (upk hw5 (.head _) hW0) hf) ?_
    rintro _ uc0 ud0 hc0 hd0 hl0 ⟨r0, rfl, hr0⟩
    have ir0 := hr0.v1
    have br0 := hr0.bound
    repeat' (first | apply s_ | ((first | apply JO_ob | apply GD_ex | apply GL_ex); exact rfl; first | exact ob1) | ((first | apply b_ | apply a_ | apply i_); exact z_; intro _) | ((first | apply p_ | apply JO_yes | apply GC_t); exact z_) | (apply n_; exact z_) | (apply GC_f; exact z_) | (apply GX_block_on; exact z_) | refine GC_drawB (id := 3) [] [0, 1] [2, 3, 4, 5] _ (by kernel_rfl) (List.Sublist.refl _) ?_ | refine GC_drawB (id := 4) [0, 1, 2, 3, 4, 5, 6, 15] [7, 8, 9, 10, 11, 12, 13, 14] [16, 17, 18] _ (by kernel_rfl) (List.Sublist.refl _) ?_ | refine GC_drawA (id := 18) [0, 1, 2, 3, 4, 5, 6, 7, 8, 9, 10, 11, 12, 13, 14, 15, 16, 17, 18, 19, 20, 21, 22, 23, 24, 25, 26, 27, 28, 29, 30, 31, 32, 33, 34, 35, 36, 37, 38, 39, 40, 41, 42, 43, 44, 45, 46, 47, 48, 49, 50, 51, 52, 53, 54, 55, 56, 57, 58, 59, 60] [] (by kernel_rfl) ?_ | ((first | apply GD_at | apply GL_at | apply GD_no | apply GL_no); exact rfl) | apply DFin_0 | (apply q1_; exact z_) | (apply q0_; exact z_) | (apply q2_; exact z_))
    all_goals exact GX_loop (r0, (fun b => uc0.heap.size ≤ b), ud0) ⟨rfl, rfl, rfl, rfl, rfl, rfl, trivial⟩ Nat.zero_lt_one hr0 (fun w hw => hw.cut)
  rintro ⟨ra, Ga, wa⟩ hra
  simp only at hra ⊢
  have ira := hra.v1
  have bra := hra.bound
  apply GC_seq
  refine GC_mid (α := VG) (fun s => [(9, s.1), (10, .int .i64 0), (7, ra), (8, .int .i64 0), (5, pt p5), (6, pt p6), (2, pt p2), (1, .int .u8 x)]) (fun s => [(s.2.1, s.2.2), (Ga, wa), ((fun _ => True), w)]) (fun s => [(p6, .cells (wkC a b c d e f (cakeK k C)).toArray 35), (p5, .cells (wkC a b c d e f (forceK k F)).toArray 35), (p2, .cells (wkC a b c d e f k).toArray 35)]) (fun s => Arr s.2.1 s.2.2 2 encR s.1 (mudsV (forceK k F) fun m => (hoursR (forceK k F).force m : Int))) ?_ ?_
  · repeat' (first | apply s_ | ((first | apply JO_ob | apply GD_ex | apply GL_ex); exact rfl; first | exact ob1) | ((first | apply b_ | apply a_ | apply i_); exact z_; intro _) | ((first | apply p_ | apply JO_yes | apply GC_t); exact z_) | (apply n_; exact z_) | (apply GC_f; exact z_) | (apply GX_block_on; exact z_) | refine GC_drawB (id := 3) [] [0, 1] [2, 3, 4, 5] _ (by kernel_rfl) (List.Sublist.refl _) ?_ | refine GC_drawB (id := 4) [0, 1, 2, 3, 4, 5, 6, 15] [7, 8, 9, 10, 11, 12, 13, 14] [16, 17, 18] _ (by kernel_rfl) (List.Sublist.refl _) ?_ | refine GC_drawA (id := 18) [0, 1, 2, 3, 4, 5, 6, 7, 8, 9, 10, 11, 12, 13, 14, 15, 16, 17, 18, 19, 20, 21, 22, 23, 24, 25, 26, 27, 28, 29, 30, 31, 32, 33, 34, 35, 36, 37, 38, 39, 40, 41, 42, 43, 44, 45, 46, 47, 48, 49, 50, 51, 52, 53, 54, 55, 56, 57, 58, 59, 60] [] (by kernel_rfl) ?_ | ((first | apply GD_at | apply GL_at | apply GD_no | apply GL_no); exact rfl) | apply DFin_0 | (apply q1_; exact z_) | (apply q0_; exact z_) | (apply q2_; exact z_))
    refine JO_call (S := TwoW (forceK k F)) rfl rfl (fun w5 hw5 => c23W (hw5.wk mem_ hF2) htF) ?_
    rintro _ ua0 ub0 ha0 hb0 hk0 ⟨a0, b0, c0, hs0, d0, e0, f0, rfl, hW0⟩
    have iw01 := hW0.yard.fields.v1
    have iw02 := hW0.yard.vats.arr.v1
    have iw03 := hW0.yard.smps.v1
    have iw04 := hW0.beat.vats.v1
    have iw05 := hW0.beat.smps.v1
    have iw06 := hW0.ends.v1
    repeat' (first | apply s_ | ((first | apply JO_ob | apply GD_ex | apply GL_ex); exact rfl; first | exact ob1) | ((first | apply b_ | apply a_ | apply i_); exact z_; intro _) | ((first | apply p_ | apply JO_yes | apply GC_t); exact z_) | (apply n_; exact z_) | (apply GC_f; exact z_) | (apply GX_block_on; exact z_) | refine GC_drawB (id := 3) [] [0, 1] [2, 3, 4, 5] _ (by kernel_rfl) (List.Sublist.refl _) ?_ | refine GC_drawB (id := 4) [0, 1, 2, 3, 4, 5, 6, 15] [7, 8, 9, 10, 11, 12, 13, 14] [16, 17, 18] _ (by kernel_rfl) (List.Sublist.refl _) ?_ | refine GC_drawA (id := 18) [0, 1, 2, 3, 4, 5, 6, 7, 8, 9, 10, 11, 12, 13, 14, 15, 16, 17, 18, 19, 20, 21, 22, 23, 24, 25, 26, 27, 28, 29, 30, 31, 32, 33, 34, 35, 36, 37, 38, 39, 40, 41, 42, 43, 44, 45, 46, 47, 48, 49, 50, 51, 52, 53, 54, 55, 56, 57, 58, 59, 60] [] (by kernel_rfl) ?_ | ((first | apply GD_at | apply GL_at | apply GD_no | apply GL_no); exact rfl) | apply DFin_0 | (apply q1_; exact z_) | (apply q0_; exact z_) | (apply q2_; exact z_))
    refine JO_call (S := RgsW (mudsV (forceK k F) fun m => (hoursR (forceK k F).force m : Int))) rfl rfl (fun w5 hw5 => c29F (upk hw5 (.head _) hW0) hfF) ?_
    rintro _ uc0 ud0 hc0 hd0 hl0 ⟨r0, rfl, hr0⟩
    have ir0 := hr0.v1
    have br0 := hr0.bound
    repeat' (first | apply s_ | ((first | apply JO_ob | apply GD_ex | apply GL_ex); exact rfl; first | exact ob1) | ((first | apply b_ | apply a_ | apply i_); exact z_; intro _) | ((first | apply p_ | apply JO_yes | apply GC_t); exact z_) | (apply n_; exact z_) | (apply GC_f; exact z_) | (apply GX_block_on; exact z_) | refine GC_drawB (id := 3) [] [0, 1] [2, 3, 4, 5] _ (by kernel_rfl) (List.Sublist.refl _) ?_ | refine GC_drawB (id := 4) [0, 1, 2, 3, 4, 5, 6, 15] [7, 8, 9, 10, 11, 12, 13, 14] [16, 17, 18] _ (by kernel_rfl) (List.Sublist.refl _) ?_ | refine GC_drawA (id := 18) [0, 1, 2, 3, 4, 5, 6, 7, 8, 9, 10, 11, 12, 13, 14, 15, 16, 17, 18, 19, 20, 21, 22, 23, 24, 25, 26, 27, 28, 29, 30, 31, 32, 33, 34, 35, 36, 37, 38, 39, 40, 41, 42, 43, 44, 45, 46, 47, 48, 49, 50, 51, 52, 53, 54, 55, 56, 57, 58, 59, 60] [] (by kernel_rfl) ?_ | ((first | apply GD_at | apply GL_at | apply GD_no | apply GL_no); exact rfl) | apply DFin_0 | (apply q1_; exact z_) | (apply q0_; exact z_) | (apply q2_; exact z_))
    all_goals exact GX_loop (r0, (fun b => uc0.heap.size ≤ b), ud0) ⟨rfl, rfl, rfl, rfl, rfl, rfl, rfl, rfl, trivial⟩ Nat.zero_lt_one hr0 (fun w hw => hw.cut)
  rintro ⟨rb, Gb, wb⟩ hrb
  simp only at hrb ⊢
  have irb := hrb.v1
  have brb := hrb.bound
  apply GC_seq
  refine GC_mid (α := VG) (fun s => [(11, s.1), (12, .int .i64 0), (9, rb), (10, .int .i64 0), (7, ra), (8, .int .i64 0), (5, pt p5), (6, pt p6), (2, pt p2), (1, .int .u8 x)]) (fun s => [(s.2.1, s.2.2), (Gb, wb), (Ga, wa), ((fun _ => True), w)]) (fun s => [(p6, .cells (wkC a b c d e f (cakeK k C)).toArray 35), (p5, .cells (wkC a b c d e f (forceK k F)).toArray 35), (p2, .cells (wkC a b c d e f k).toArray 35)]) (fun s => Arr s.2.1 s.2.2 2 encR s.1 (mudsV k fun m => m / k.cake)) ?_ ?_
  · repeat' (first | apply s_ | ((first | apply JO_ob | apply GD_ex | apply GL_ex); exact rfl; first | exact ob1) | ((first | apply b_ | apply a_ | apply i_); exact z_; intro _) | ((first | apply p_ | apply JO_yes | apply GC_t); exact z_) | (apply n_; exact z_) | (apply GC_f; exact z_) | (apply GX_block_on; exact z_) | refine GC_drawB (id := 3) [] [0, 1] [2, 3, 4, 5] _ (by kernel_rfl) (List.Sublist.refl _) ?_ | refine GC_drawB (id := 4) [0, 1, 2, 3, 4, 5, 6, 15] [7, 8, 9, 10, 11, 12, 13, 14] [16, 17, 18] _ (by kernel_rfl) (List.Sublist.refl _) ?_ | refine GC_drawA (id := 18) [0, 1, 2, 3, 4, 5, 6, 7, 8, 9, 10, 11, 12, 13, 14, 15, 16, 17, 18, 19, 20, 21, 22, 23, 24, 25, 26, 27, 28, 29, 30, 31, 32, 33, 34, 35, 36, 37, 38, 39, 40, 41, 42, 43, 44, 45, 46, 47, 48, 49, 50, 51, 52, 53, 54, 55, 56, 57, 58, 59, 60] [] (by kernel_rfl) ?_ | ((first | apply GD_at | apply GL_at | apply GD_no | apply GL_no); exact rfl) | apply DFin_0 | (apply q1_; exact z_) | (apply q0_; exact z_) | (apply q2_; exact z_))
    refine JO_call (S := TwoW k) rfl rfl (fun w5 hw5 => c23W (hw5.wk mem_ h) ht) ?_
    rintro _ ua0 ub0 ha0 hb0 hk0 ⟨a0, b0, c0, hs0, d0, e0, f0, rfl, hW0⟩
    have iw01 := hW0.yard.fields.v1
    have iw02 := hW0.yard.vats.arr.v1
    have iw03 := hW0.yard.smps.v1
    have iw04 := hW0.beat.vats.v1
    have iw05 := hW0.beat.smps.v1
    have iw06 := hW0.ends.v1
    repeat' (first | apply s_ | ((first | apply JO_ob | apply GD_ex | apply GL_ex); exact rfl; first | exact ob1) | ((first | apply b_ | apply a_ | apply i_); exact z_; intro _) | ((first | apply p_ | apply JO_yes | apply GC_t); exact z_) | (apply n_; exact z_) | (apply GC_f; exact z_) | (apply GX_block_on; exact z_) | refine GC_drawB (id := 3) [] [0, 1] [2, 3, 4, 5] _ (by kernel_rfl) (List.Sublist.refl _) ?_ | refine GC_drawB (id := 4) [0, 1, 2, 3, 4, 5, 6, 15] [7, 8, 9, 10, 11, 12, 13, 14] [16, 17, 18] _ (by kernel_rfl) (List.Sublist.refl _) ?_ | refine GC_drawA (id := 18) [0, 1, 2, 3, 4, 5, 6, 7, 8, 9, 10, 11, 12, 13, 14, 15, 16, 17, 18, 19, 20, 21, 22, 23, 24, 25, 26, 27, 28, 29, 30, 31, 32, 33, 34, 35, 36, 37, 38, 39, 40, 41, 42, 43, 44, 45, 46, 47, 48, 49, 50, 51, 52, 53, 54, 55, 56, 57, 58, 59, 60] [] (by kernel_rfl) ?_ | ((first | apply GD_at | apply GL_at | apply GD_no | apply GL_no); exact rfl) | apply DFin_0 | (apply q1_; exact z_) | (apply q0_; exact z_) | (apply q2_; exact z_))
    refine JO_call (S := RgsW (mudsV k fun m => m / k.cake)) rfl rfl (fun w5 hw5 => c30F (upk hw5 (.head _) hW0) hf) ?_
    rintro _ uc0 ud0 hc0 hd0 hl0 ⟨r0, rfl, hr0⟩
    have ir0 := hr0.v1
    have br0 := hr0.bound
    repeat' (first | apply s_ | ((first | apply JO_ob | apply GD_ex | apply GL_ex); exact rfl; first | exact ob1) | ((first | apply b_ | apply a_ | apply i_); exact z_; intro _) | ((first | apply p_ | apply JO_yes | apply GC_t); exact z_) | (apply n_; exact z_) | (apply GC_f; exact z_) | (apply GX_block_on; exact z_) | refine GC_drawB (id := 3) [] [0, 1] [2, 3, 4, 5] _ (by kernel_rfl) (List.Sublist.refl _) ?_ | refine GC_drawB (id := 4) [0, 1, 2, 3, 4, 5, 6, 15] [7, 8, 9, 10, 11, 12, 13, 14] [16, 17, 18] _ (by kernel_rfl) (List.Sublist.refl _) ?_ | refine GC_drawA (id := 18) [0, 1, 2, 3, 4, 5, 6, 7, 8, 9, 10, 11, 12, 13, 14, 15, 16, 17, 18, 19, 20, 21, 22, 23, 24, 25, 26, 27, 28, 29, 30, 31, 32, 33, 34, 35, 36, 37, 38, 39, 40, 41, 42, 43, 44, 45, 46, 47, 48, 49, 50, 51, 52, 53, 54, 55, 56, 57, 58, 59, 60] [] (by kernel_rfl) ?_ | ((first | apply GD_at | apply GL_at | apply GD_no | apply GL_no); exact rfl) | apply DFin_0 | (apply q1_; exact z_) | (apply q0_; exact z_) | (apply q2_; exact z_))
    all_goals exact GX_loop (r0, (fun b => uc0.heap.size ≤ b), ud0) ⟨rfl, rfl, rfl, rfl, rfl, rfl, rfl, rfl, rfl, rfl, trivial⟩ Nat.zero_lt_one hr0 (fun w hw => hw.cut)
  rintro ⟨rc, Gc, wc⟩ hrc
  simp only at hrc ⊢
  have irc := hrc.v1
  have brc := hrc.bound
  apply GC_seq
  refine GC_mid (α := VG) (fun s => [(13, s.1), (14, .int .i64 0), (11, rc), (12, .int .i64 0), (9, rb), (10, .int .i64 0), (7, ra), (8, .int .i64 0), (5, pt p5), (6, pt p6), (2, pt p2), (1, .int .u8 x)]) (fun s => [(s.2.1, s.2.2), (Gc, wc), (Gb, wb), (Ga, wa), ((fun _ => True), w)]) (fun s => [(p6, .cells (wkC a b c d e f (cakeK k C)).toArray 35), (p5, .cells (wkC a b c d e f (forceK k F)).toArray 35), (p2, .cells (wkC a b c d e f k).toArray 35)]) (fun s => Arr s.2.1 s.2.2 2 encR s.1 (mudsV (cakeK k C) fun m => m / (cakeK k C).cake)) ?_ ?_
  · repeat' (first | apply s_ | ((first | apply JO_ob | apply GD_ex | apply GL_ex); exact rfl; first | exact ob1) | ((first | apply b_ | apply a_ | apply i_); exact z_; intro _) | ((first | apply p_ | apply JO_yes | apply GC_t); exact z_) | (apply n_; exact z_) | (apply GC_f; exact z_) | (apply GX_block_on; exact z_) | refine GC_drawB (id := 3) [] [0, 1] [2, 3, 4, 5] _ (by kernel_rfl) (List.Sublist.refl _) ?_ | refine GC_drawB (id := 4) [0, 1, 2, 3, 4, 5, 6, 15] [7, 8, 9, 10, 11, 12, 13, 14] [16, 17, 18] _ (by kernel_rfl) (List.Sublist.refl _) ?_ | refine GC_drawA (id := 18) [0, 1, 2, 3, 4, 5, 6, 7, 8, 9, 10, 11, 12, 13, 14, 15, 16, 17, 18, 19, 20, 21, 22, 23, 24, 25, 26, 27, 28, 29, 30, 31, 32, 33, 34, 35, 36, 37, 38, 39, 40, 41, 42, 43, 44, 45, 46, 47, 48, 49, 50, 51, 52, 53, 54, 55, 56, 57, 58, 59, 60] [] (by kernel_rfl) ?_ | ((first | apply GD_at | apply GL_at | apply GD_no | apply GL_no); exact rfl) | apply DFin_0 | (apply q1_; exact z_) | (apply q0_; exact z_) | (apply q2_; exact z_))
    refine JO_call (S := TwoW (cakeK k C)) rfl rfl (fun w5 hw5 => c23W (hw5.wk mem_ hC2) htC) ?_
    rintro _ ua0 ub0 ha0 hb0 hk0 ⟨a0, b0, c0, hs0, d0, e0, f0, rfl, hW0⟩
    have iw01 := hW0.yard.fields.v1
    have iw02 := hW0.yard.vats.arr.v1
    have iw03 := hW0.yard.smps.v1
    have iw04 := hW0.beat.vats.v1
    have iw05 := hW0.beat.smps.v1
    have iw06 := hW0.ends.v1
    repeat' (first | apply s_ | ((first | apply JO_ob | apply GD_ex | apply GL_ex); exact rfl; first | exact ob1) | ((first | apply b_ | apply a_ | apply i_); exact z_; intro _) | ((first | apply p_ | apply JO_yes | apply GC_t); exact z_) | (apply n_; exact z_) | (apply GC_f; exact z_) | (apply GX_block_on; exact z_) | refine GC_drawB (id := 3) [] [0, 1] [2, 3, 4, 5] _ (by kernel_rfl) (List.Sublist.refl _) ?_ | refine GC_drawB (id := 4) [0, 1, 2, 3, 4, 5, 6, 15] [7, 8, 9, 10, 11, 12, 13, 14] [16, 17, 18] _ (by kernel_rfl) (List.Sublist.refl _) ?_ | refine GC_drawA (id := 18) [0, 1, 2, 3, 4, 5, 6, 7, 8, 9, 10, 11, 12, 13, 14, 15, 16, 17, 18, 19, 20, 21, 22, 23, 24, 25, 26, 27, 28, 29, 30, 31, 32, 33, 34, 35, 36, 37, 38, 39, 40, 41, 42, 43, 44, 45, 46, 47, 48, 49, 50, 51, 52, 53, 54, 55, 56, 57, 58, 59, 60] [] (by kernel_rfl) ?_ | ((first | apply GD_at | apply GL_at | apply GD_no | apply GL_no); exact rfl) | apply DFin_0 | (apply q1_; exact z_) | (apply q0_; exact z_) | (apply q2_; exact z_))
    refine JO_call (S := RgsW (mudsV (cakeK k C) fun m => m / (cakeK k C).cake)) rfl rfl (fun w5 hw5 => c30F (upk hw5 (.head _) hW0) hfC) ?_
    rintro _ uc0 ud0 hc0 hd0 hl0 ⟨r0, rfl, hr0⟩
    have ir0 := hr0.v1
    have br0 := hr0.bound
    repeat' (first | apply s_ | ((first | apply JO_ob | apply GD_ex | apply GL_ex); exact rfl; first | exact ob1) | ((first | apply b_ | apply a_ | apply i_); exact z_; intro _) | ((first | apply p_ | apply JO_yes | apply GC_t); exact z_) | (apply n_; exact z_) | (apply GC_f; exact z_) | (apply GX_block_on; exact z_) | refine GC_drawB (id := 3) [] [0, 1] [2, 3, 4, 5] _ (by kernel_rfl) (List.Sublist.refl _) ?_ | refine GC_drawB (id := 4) [0, 1, 2, 3, 4, 5, 6, 15] [7, 8, 9, 10, 11, 12, 13, 14] [16, 17, 18] _ (by kernel_rfl) (List.Sublist.refl _) ?_ | refine GC_drawA (id := 18) [0, 1, 2, 3, 4, 5, 6, 7, 8, 9, 10, 11, 12, 13, 14, 15, 16, 17, 18, 19, 20, 21, 22, 23, 24, 25, 26, 27, 28, 29, 30, 31, 32, 33, 34, 35, 36, 37, 38, 39, 40, 41, 42, 43, 44, 45, 46, 47, 48, 49, 50, 51, 52, 53, 54, 55, 56, 57, 58, 59, 60] [] (by kernel_rfl) ?_ | ((first | apply GD_at | apply GL_at | apply GD_no | apply GL_no); exact rfl) | apply DFin_0 | (apply q1_; exact z_) | (apply q0_; exact z_) | (apply q2_; exact z_))
    all_goals exact GX_loop (r0, (fun b => uc0.heap.size ≤ b), ud0) ⟨rfl, rfl, rfl, rfl, rfl, rfl, rfl, rfl, rfl, rfl, rfl, rfl, trivial⟩ Nat.zero_lt_one hr0 (fun w hw => hw.cut)
  rintro ⟨rd, Gd, wd⟩ hrd
  simp only at hrd ⊢
  have ird := hrd.v1
  have brd := hrd.bound
  apply GC_seq
  refine GC_mid (α := VG) (fun s => [(15, s.1), (16, .int .i64 0), (13, rd), (14, .int .i64 0), (11, rc), (12, .int .i64 0), (9, rb), (10, .int .i64 0), (7, ra), (8, .int .i64 0), (5, pt p5), (6, pt p6), (2, pt p2), (1, .int .u8 x)]) (fun s => [(s.2.1, s.2.2), (Gd, wd), (Gc, wc), (Gb, wb), (Ga, wa), ((fun _ => True), w)]) (fun s => [(p6, .cells (wkC a b c d e f (cakeK k C)).toArray 35), (p5, .cells (wkC a b c d e f (forceK k F)).toArray 35), (p2, .cells (wkC a b c d e f k).toArray 35)]) (fun s => Arr s.2.1 s.2.2 2 encR s.1 (mudsV k fun m => m)) ?_ ?_
  · repeat' (first | apply s_ | ((first | apply JO_ob | apply GD_ex | apply GL_ex); exact rfl; first | exact ob1) | ((first | apply b_ | apply a_ | apply i_); exact z_; intro _) | ((first | apply p_ | apply JO_yes | apply GC_t); exact z_) | (apply n_; exact z_) | (apply GC_f; exact z_) | (apply GX_block_on; exact z_) | refine GC_drawB (id := 3) [] [0, 1] [2, 3, 4, 5] _ (by kernel_rfl) (List.Sublist.refl _) ?_ | refine GC_drawB (id := 4) [0, 1, 2, 3, 4, 5, 6, 15] [7, 8, 9, 10, 11, 12, 13, 14] [16, 17, 18] _ (by kernel_rfl) (List.Sublist.refl _) ?_ | refine GC_drawA (id := 18) [0, 1, 2, 3, 4, 5, 6, 7, 8, 9, 10, 11, 12, 13, 14, 15, 16, 17, 18, 19, 20, 21, 22, 23, 24, 25, 26, 27, 28, 29, 30, 31, 32, 33, 34, 35, 36, 37, 38, 39, 40, 41, 42, 43, 44, 45, 46, 47, 48, 49, 50, 51, 52, 53, 54, 55, 56, 57, 58, 59, 60] [] (by kernel_rfl) ?_ | ((first | apply GD_at | apply GL_at | apply GD_no | apply GL_no); exact rfl) | apply DFin_0 | (apply q1_; exact z_) | (apply q0_; exact z_) | (apply q2_; exact z_))
    refine JO_call (S := TwoW k) rfl rfl (fun w5 hw5 => c23W (hw5.wk mem_ h) ht) ?_
    rintro _ ua0 ub0 ha0 hb0 hk0 ⟨a0, b0, c0, hs0, d0, e0, f0, rfl, hW0⟩
    have iw01 := hW0.yard.fields.v1
    have iw02 := hW0.yard.vats.arr.v1
    have iw03 := hW0.yard.smps.v1
    have iw04 := hW0.beat.vats.v1
    have iw05 := hW0.beat.smps.v1
    have iw06 := hW0.ends.v1
    repeat' (first | apply s_ | ((first | apply JO_ob | apply GD_ex | apply GL_ex); exact rfl; first | exact ob1) | ((first | apply b_ | apply a_ | apply i_); exact z_; intro _) | ((first | apply p_ | apply JO_yes | apply GC_t); exact z_) | (apply n_; exact z_) | (apply GC_f; exact z_) | (apply GX_block_on; exact z_) | refine GC_drawB (id := 3) [] [0, 1] [2, 3, 4, 5] _ (by kernel_rfl) (List.Sublist.refl _) ?_ | refine GC_drawB (id := 4) [0, 1, 2, 3, 4, 5, 6, 15] [7, 8, 9, 10, 11, 12, 13, 14] [16, 17, 18] _ (by kernel_rfl) (List.Sublist.refl _) ?_ | refine GC_drawA (id := 18) [0, 1, 2, 3, 4, 5, 6, 7, 8, 9, 10, 11, 12, 13, 14, 15, 16, 17, 18, 19, 20, 21, 22, 23, 24, 25, 26, 27, 28, 29, 30, 31, 32, 33, 34, 35, 36, 37, 38, 39, 40, 41, 42, 43, 44, 45, 46, 47, 48, 49, 50, 51, 52, 53, 54, 55, 56, 57, 58, 59, 60] [] (by kernel_rfl) ?_ | ((first | apply GD_at | apply GL_at | apply GD_no | apply GL_no); exact rfl) | apply DFin_0 | (apply q1_; exact z_) | (apply q0_; exact z_) | (apply q2_; exact z_))
    refine JO_call (S := RgsW (mudsV k fun m => m)) rfl rfl (fun w5 hw5 => c22F (upk hw5 (.head _) hW0) hf) ?_
    rintro _ uc0 ud0 hc0 hd0 hl0 ⟨r0, rfl, hr0⟩
    have ir0 := hr0.v1
    have br0 := hr0.bound
    repeat' (first | apply s_ | ((first | apply JO_ob | apply GD_ex | apply GL_ex); exact rfl; first | exact ob1) | ((first | apply b_ | apply a_ | apply i_); exact z_; intro _) | ((first | apply p_ | apply JO_yes | apply GC_t); exact z_) | (apply n_; exact z_) | (apply GC_f; exact z_) | (apply GX_block_on; exact z_) | refine GC_drawB (id := 3) [] [0, 1] [2, 3, 4, 5] _ (by kernel_rfl) (List.Sublist.refl _) ?_ | refine GC_drawB (id := 4) [0, 1, 2, 3, 4, 5, 6, 15] [7, 8, 9, 10, 11, 12, 13, 14] [16, 17, 18] _ (by kernel_rfl) (List.Sublist.refl _) ?_ | refine GC_drawA (id := 18) [0, 1, 2, 3, 4, 5, 6, 7, 8, 9, 10, 11, 12, 13, 14, 15, 16, 17, 18, 19, 20, 21, 22, 23, 24, 25, 26, 27, 28, 29, 30, 31, 32, 33, 34, 35, 36, 37, 38, 39, 40, 41, 42, 43, 44, 45, 46, 47, 48, 49, 50, 51, 52, 53, 54, 55, 56, 57, 58, 59, 60] [] (by kernel_rfl) ?_ | ((first | apply GD_at | apply GL_at | apply GD_no | apply GL_no); exact rfl) | apply DFin_0 | (apply q1_; exact z_) | (apply q0_; exact z_) | (apply q2_; exact z_))
    all_goals exact GX_loop (r0, (fun b => uc0.heap.size ≤ b), ud0) ⟨rfl, rfl, rfl, rfl, rfl, rfl, rfl, rfl, rfl, rfl, rfl, rfl, rfl, rfl, trivial⟩ Nat.zero_lt_one hr0 (fun w hw => hw.cut)
  rintro ⟨rp, Gp, wp⟩ hrp
  simp only at hrp ⊢
  have irp := hrp.v1
  have brp := hrp.bound
  apply GC_seq
  refine GC_mid (α := VG) (fun s => [(17, s.1), (18, .int .i64 0), (15, rp), (16, .int .i64 0), (13, rd), (14, .int .i64 0), (11, rc), (12, .int .i64 0), (9, rb), (10, .int .i64 0), (7, ra), (8, .int .i64 0), (5, pt p5), (6, pt p6), (2, pt p2), (1, .int .u8 x)]) (fun s => [(s.2.1, s.2.2), (Gp, wp), (Gd, wd), (Gc, wc), (Gb, wb), (Ga, wa), ((fun _ => True), w)]) (fun s => [(p6, .cells (wkC a b c d e f (cakeK k C)).toArray 35), (p5, .cells (wkC a b c d e f (forceK k F)).toArray 35), (p2, .cells (wkC a b c d e f k).toArray 35)]) (fun s => Arr s.2.1 s.2.2 2 encR s.1 (mudsV (forceK k F) fun m => m)) ?_ ?_
  · repeat' (first | apply s_ | ((first | apply JO_ob | apply GD_ex | apply GL_ex); exact rfl; first | exact ob1) | ((first | apply b_ | apply a_ | apply i_); exact z_; intro _) | ((first | apply p_ | apply JO_yes | apply GC_t); exact z_) | (apply n_; exact z_) | (apply GC_f; exact z_) | (apply GX_block_on; exact z_) | refine GC_drawB (id := 3) [] [0, 1] [2, 3, 4, 5] _ (by kernel_rfl) (List.Sublist.refl _) ?_ | refine GC_drawB (id := 4) [0, 1, 2, 3, 4, 5, 6, 15] [7, 8, 9, 10, 11, 12, 13, 14] [16, 17, 18] _ (by kernel_rfl) (List.Sublist.refl _) ?_ | refine GC_drawA (id := 18) [0, 1, 2, 3, 4, 5, 6, 7, 8, 9, 10, 11, 12, 13, 14, 15, 16, 17, 18, 19, 20, 21, 22, 23, 24, 25, 26, 27, 28, 29, 30, 31, 32, 33, 34, 35, 36, 37, 38, 39, 40, 41, 42, 43, 44, 45, 46, 47, 48, 49, 50, 51, 52, 53, 54, 55, 56, 57, 58, 59, 60] [] (by kernel_rfl) ?_ | ((first | apply GD_at | apply GL_at | apply GD_no | apply GL_no); exact rfl) | apply DFin_0 | (apply q1_; exact z_) | (apply q0_; exact z_) | (apply q2_; exact z_))
    refine JO_call (S := TwoW (forceK k F)) rfl rfl (fun w5 hw5 => c23W (hw5.wk mem_ hF2) htF) ?_
    rintro _ ua0 ub0 ha0 hb0 hk0 ⟨a0, b0, c0, hs0, d0, e0, f0, rfl, hW0⟩
    have iw01 := hW0.yard.fields.v1
    have iw02 := hW0.yard.vats.arr.v1
    have iw03 := hW0.yard.smps.v1
    have iw04 := hW0.beat.vats.v1
    have iw05 := hW0.beat.smps.v1
    have iw06 := hW0.ends.v1
    repeat' (first | apply s_ | ((first | apply JO_ob | apply GD_ex | apply GL_ex); exact rfl; first | exact ob1) | ((first | apply b_ | apply a_ | apply i_); exact z_; intro _) | ((first | apply p_ | apply JO_yes | apply GC_t); exact z_) | (apply n_; exact z_) | (apply GC_f; exact z_) | (apply GX_block_on; exact z_) | refine GC_drawB (id := 3) [] [0, 1] [2, 3, 4, 5] _ (by kernel_rfl) (List.Sublist.refl _) ?_ | refine GC_drawB (id := 4) [0, 1, 2, 3, 4, 5, 6, 15] [7, 8, 9, 10, 11, 12, 13, 14] [16, 17, 18] _ (by kernel_rfl) (List.Sublist.refl _) ?_ | refine GC_drawA (id := 18) [0, 1, 2, 3, 4, 5, 6, 7, 8, 9, 10, 11, 12, 13, 14, 15, 16, 17, 18, 19, 20, 21, 22, 23, 24, 25, 26, 27, 28, 29, 30, 31, 32, 33, 34, 35, 36, 37, 38, 39, 40, 41, 42, 43, 44, 45, 46, 47, 48, 49, 50, 51, 52, 53, 54, 55, 56, 57, 58, 59, 60] [] (by kernel_rfl) ?_ | ((first | apply GD_at | apply GL_at | apply GD_no | apply GL_no); exact rfl) | apply DFin_0 | (apply q1_; exact z_) | (apply q0_; exact z_) | (apply q2_; exact z_))
    refine JO_call (S := RgsW (mudsV (forceK k F) fun m => m)) rfl rfl (fun w5 hw5 => c22F (upk hw5 (.head _) hW0) hfF) ?_
    rintro _ uc0 ud0 hc0 hd0 hl0 ⟨r0, rfl, hr0⟩
    have ir0 := hr0.v1
    have br0 := hr0.bound
    repeat' (first | apply s_ | ((first | apply JO_ob | apply GD_ex | apply GL_ex); exact rfl; first | exact ob1) | ((first | apply b_ | apply a_ | apply i_); exact z_; intro _) | ((first | apply p_ | apply JO_yes | apply GC_t); exact z_) | (apply n_; exact z_) | (apply GC_f; exact z_) | (apply GX_block_on; exact z_) | refine GC_drawB (id := 3) [] [0, 1] [2, 3, 4, 5] _ (by kernel_rfl) (List.Sublist.refl _) ?_ | refine GC_drawB (id := 4) [0, 1, 2, 3, 4, 5, 6, 15] [7, 8, 9, 10, 11, 12, 13, 14] [16, 17, 18] _ (by kernel_rfl) (List.Sublist.refl _) ?_ | refine GC_drawA (id := 18) [0, 1, 2, 3, 4, 5, 6, 7, 8, 9, 10, 11, 12, 13, 14, 15, 16, 17, 18, 19, 20, 21, 22, 23, 24, 25, 26, 27, 28, 29, 30, 31, 32, 33, 34, 35, 36, 37, 38, 39, 40, 41, 42, 43, 44, 45, 46, 47, 48, 49, 50, 51, 52, 53, 54, 55, 56, 57, 58, 59, 60] [] (by kernel_rfl) ?_ | ((first | apply GD_at | apply GL_at | apply GD_no | apply GL_no); exact rfl) | apply DFin_0 | (apply q1_; exact z_) | (apply q0_; exact z_) | (apply q2_; exact z_))
    all_goals exact GX_loop (r0, (fun b => uc0.heap.size ≤ b), ud0) ⟨rfl, rfl, rfl, rfl, rfl, rfl, rfl, rfl, rfl, rfl, rfl, rfl, rfl, rfl, rfl, rfl, trivial⟩ Nat.zero_lt_one hr0 (fun w hw => hw.cut)
  rintro ⟨rq, Gq, wq⟩ hrq
  simp only at hrq ⊢
  have irq := hrq.v1
  have brq := hrq.bound
  apply GC_seq
  refine GC_mid (α := Unit) (fun s => [(20, .int .i64 ((bestL k k.boxes).2)), (21, .int .i64 0), (17, rq), (18, .int .i64 0), (15, rp), (16, .int .i64 0), (13, rd), (14, .int .i64 0), (11, rc), (12, .int .i64 0), (9, rb), (10, .int .i64 0), (7, ra), (8, .int .i64 0), (5, pt p5), (6, pt p6), (2, pt p2), (1, .int .u8 x)]) (fun s => [(Gq, wq), (Gp, wp), (Gd, wd), (Gc, wc), (Gb, wb), (Ga, wa), ((fun _ => True), w)]) (fun s => [(p6, .cells (wkC a b c d e f (cakeK k C)).toArray 35), (p5, .cells (wkC a b c d e f (forceK k F)).toArray 35), (p2, .cells (wkC a b c d e f k).toArray 35)]) (fun s => True) ?_ ?_
  · repeat' (first | apply s_ | ((first | apply JO_ob | apply GD_ex | apply GL_ex); exact rfl; first | exact ob1) | ((first | apply b_ | apply a_ | apply i_); exact z_; intro _) | ((first | apply p_ | apply JO_yes | apply GC_t); exact z_) | (apply n_; exact z_) | (apply GC_f; exact z_) | (apply GX_block_on; exact z_) | refine GC_drawB (id := 3) [] [0, 1] [2, 3, 4, 5] _ (by kernel_rfl) (List.Sublist.refl _) ?_ | refine GC_drawB (id := 4) [0, 1, 2, 3, 4, 5, 6, 15] [7, 8, 9, 10, 11, 12, 13, 14] [16, 17, 18] _ (by kernel_rfl) (List.Sublist.refl _) ?_ | refine GC_drawA (id := 18) [0, 1, 2, 3, 4, 5, 6, 7, 8, 9, 10, 11, 12, 13, 14, 15, 16, 17, 18, 19, 20, 21, 22, 23, 24, 25, 26, 27, 28, 29, 30, 31, 32, 33, 34, 35, 36, 37, 38, 39, 40, 41, 42, 43, 44, 45, 46, 47, 48, 49, 50, 51, 52, 53, 54, 55, 56, 57, 58, 59, 60] [] (by kernel_rfl) ?_ | ((first | apply GD_at | apply GL_at | apply GD_no | apply GL_no); exact rfl) | apply DFin_0 | (apply q1_; exact z_) | (apply q0_; exact z_) | (apply q2_; exact z_))
    refine JO_call (S := TwoW k) rfl rfl (fun w5 hw5 => c23W (hw5.wk mem_ h) ht) ?_
    rintro _ ua0 ub0 ha0 hb0 hk0 ⟨a0, b0, c0, hs0, d0, e0, f0, rfl, hW0⟩
    have iw01 := hW0.yard.fields.v1
    have iw02 := hW0.yard.vats.arr.v1
    have iw03 := hW0.yard.smps.v1
    have iw04 := hW0.beat.vats.v1
    have iw05 := hW0.beat.smps.v1
    have iw06 := hW0.ends.v1
    repeat' (first | apply s_ | ((first | apply JO_ob | apply GD_ex | apply GL_ex); exact rfl; first | exact ob1) | ((first | apply b_ | apply a_ | apply i_); exact z_; intro _) | ((first | apply p_ | apply JO_yes | apply GC_t); exact z_) | (apply n_; exact z_) | (apply GC_f; exact z_) | (apply GX_block_on; exact z_) | refine GC_drawB (id := 3) [] [0, 1] [2, 3, 4, 5] _ (by kernel_rfl) (List.Sublist.refl _) ?_ | refine GC_drawB (id := 4) [0, 1, 2, 3, 4, 5, 6, 15] [7, 8, 9, 10, 11, 12, 13, 14] [16, 17, 18] _ (by kernel_rfl) (List.Sublist.refl _) ?_ | refine GC_drawA (id := 18) [0, 1, 2, 3, 4, 5, 6, 7, 8, 9, 10, 11, 12, 13, 14, 15, 16, 17, 18, 19, 20, 21, 22, 23, 24, 25, 26, 27, 28, 29, 30, 31, 32, 33, 34, 35, 36, 37, 38, 39, 40, 41, 42, 43, 44, 45, 46, 47, 48, 49, 50, 51, 52, 53, 54, 55, 56, 57, 58, 59, 60] [] (by kernel_rfl) ?_ | ((first | apply GD_at | apply GL_at | apply GD_no | apply GL_no); exact rfl) | apply DFin_0 | (apply q1_; exact z_) | (apply q0_; exact z_) | (apply q2_; exact z_))
    refine JO_call (S := BestW ((bestL k k.boxes).1) ((bestL k k.boxes).2)) rfl rfl (fun w5 hw5 => c54F (upk hw5 (.head _) hW0) hf) ?_
    rintro _ uc0 ud0 hc0 hd0 hl0 ⟨r0, rfl, hr0⟩
    have ir0 := hr0.v1
    repeat' (first | apply s_ | ((first | apply JO_ob | apply GD_ex | apply GL_ex); exact rfl; first | exact ob1) | ((first | apply b_ | apply a_ | apply i_); exact z_; intro _) | ((first | apply p_ | apply JO_yes | apply GC_t); exact z_) | (apply n_; exact z_) | (apply GC_f; exact z_) | (apply GX_block_on; exact z_) | refine GC_drawB (id := 3) [] [0, 1] [2, 3, 4, 5] _ (by kernel_rfl) (List.Sublist.refl _) ?_ | refine GC_drawB (id := 4) [0, 1, 2, 3, 4, 5, 6, 15] [7, 8, 9, 10, 11, 12, 13, 14] [16, 17, 18] _ (by kernel_rfl) (List.Sublist.refl _) ?_ | refine GC_drawA (id := 18) [0, 1, 2, 3, 4, 5, 6, 7, 8, 9, 10, 11, 12, 13, 14, 15, 16, 17, 18, 19, 20, 21, 22, 23, 24, 25, 26, 27, 28, 29, 30, 31, 32, 33, 34, 35, 36, 37, 38, 39, 40, 41, 42, 43, 44, 45, 46, 47, 48, 49, 50, 51, 52, 53, 54, 55, 56, 57, 58, 59, 60] [] (by kernel_rfl) ?_ | ((first | apply GD_at | apply GL_at | apply GD_no | apply GL_no); exact rfl) | apply DFin_0 | (apply q1_; exact z_) | (apply q0_; exact z_) | (apply q2_; exact z_))
    all_goals exact GX_loop () ⟨rfl, rfl, rfl, rfl, rfl, rfl, rfl, rfl, rfl, rfl, rfl, rfl, rfl, rfl, rfl, rfl, rfl, rfl, trivial⟩ Nat.zero_lt_one trivial (fun w hw => hw.cut)
  intro _ _
  try simp only
  apply GC_seq
  refine GC_mid (α := Unit) (fun s => [(23, .int .i64 ((bestL (forceK k F) k.boxes).2)), (24, .int .i64 0), (20, .int .i64 ((bestL k k.boxes).2)), (21, .int .i64 0), (17, rq), (18, .int .i64 0), (15, rp), (16, .int .i64 0), (13, rd), (14, .int .i64 0), (11, rc), (12, .int .i64 0), (9, rb), (10, .int .i64 0), (7, ra), (8, .int .i64 0), (5, pt p5), (6, pt p6), (2, pt p2), (1, .int .u8 x)]) (fun s => [(Gq, wq), (Gp, wp), (Gd, wd), (Gc, wc), (Gb, wb), (Ga, wa), ((fun _ => True), w)]) (fun s => [(p6, .cells (wkC a b c d e f (cakeK k C)).toArray 35), (p5, .cells (wkC a b c d e f (forceK k F)).toArray 35), (p2, .cells (wkC a b c d e f k).toArray 35)]) (fun s => True) ?_ ?_
  · repeat' (first | apply s_ | ((first | apply JO_ob | apply GD_ex | apply GL_ex); exact rfl; first | exact ob1) | ((first | apply b_ | apply a_ | apply i_); exact z_; intro _) | ((first | apply p_ | apply JO_yes | apply GC_t); exact z_) | (apply n_; exact z_) | (apply GC_f; exact z_) | (apply GX_block_on; exact z_) | refine GC_drawB (id := 3) [] [0, 1] [2, 3, 4, 5] _ (by kernel_rfl) (List.Sublist.refl _) ?_ | refine GC_drawB (id := 4) [0, 1, 2, 3, 4, 5, 6, 15] [7, 8, 9, 10, 11, 12, 13, 14] [16, 17, 18] _ (by kernel_rfl) (List.Sublist.refl _) ?_ | refine GC_drawA (id := 18) [0, 1, 2, 3, 4, 5, 6, 7, 8, 9, 10, 11, 12, 13, 14, 15, 16, 17, 18, 19, 20, 21, 22, 23, 24, 25, 26, 27, 28, 29, 30, 31, 32, 33, 34, 35, 36, 37, 38, 39, 40, 41, 42, 43, 44, 45, 46, 47, 48, 49, 50, 51, 52, 53, 54, 55, 56, 57, 58, 59, 60] [] (by kernel_rfl) ?_ | ((first | apply GD_at | apply GL_at | apply GD_no | apply GL_no); exact rfl) | apply DFin_0 | (apply q1_; exact z_) | (apply q0_; exact z_) | (apply q2_; exact z_))
    refine JO_call (S := TwoW (forceK k F)) rfl rfl (fun w5 hw5 => c23W (hw5.wk mem_ hF2) htF) ?_
    rintro _ ua0 ub0 ha0 hb0 hk0 ⟨a0, b0, c0, hs0, d0, e0, f0, rfl, hW0⟩
    have iw01 := hW0.yard.fields.v1
    have iw02 := hW0.yard.vats.arr.v1
    have iw03 := hW0.yard.smps.v1
    have iw04 := hW0.beat.vats.v1
    have iw05 := hW0.beat.smps.v1
    have iw06 := hW0.ends.v1
    repeat' (first | apply s_ | ((first | apply JO_ob | apply GD_ex | apply GL_ex); exact rfl; first | exact ob1) | ((first | apply b_ | apply a_ | apply i_); exact z_; intro _) | ((first | apply p_ | apply JO_yes | apply GC_t); exact z_) | (apply n_; exact z_) | (apply GC_f; exact z_) | (apply GX_block_on; exact z_) | refine GC_drawB (id := 3) [] [0, 1] [2, 3, 4, 5] _ (by kernel_rfl) (List.Sublist.refl _) ?_ | refine GC_drawB (id := 4) [0, 1, 2, 3, 4, 5, 6, 15] [7, 8, 9, 10, 11, 12, 13, 14] [16, 17, 18] _ (by kernel_rfl) (List.Sublist.refl _) ?_ | refine GC_drawA (id := 18) [0, 1, 2, 3, 4, 5, 6, 7, 8, 9, 10, 11, 12, 13, 14, 15, 16, 17, 18, 19, 20, 21, 22, 23, 24, 25, 26, 27, 28, 29, 30, 31, 32, 33, 34, 35, 36, 37, 38, 39, 40, 41, 42, 43, 44, 45, 46, 47, 48, 49, 50, 51, 52, 53, 54, 55, 56, 57, 58, 59, 60] [] (by kernel_rfl) ?_ | ((first | apply GD_at | apply GL_at | apply GD_no | apply GL_no); exact rfl) | apply DFin_0 | (apply q1_; exact z_) | (apply q0_; exact z_) | (apply q2_; exact z_))
    refine JO_call (S := BestW ((bestL (forceK k F) k.boxes).1) ((bestL (forceK k F) k.boxes).2)) rfl rfl (fun w5 hw5 => c54F (upk hw5 (.head _) hW0) hfF) ?_
    rintro _ uc0 ud0 hc0 hd0 hl0 ⟨r0, rfl, hr0⟩
    have ir0 := hr0.v1
    repeat' (first | apply s_ | ((first | apply JO_ob | apply GD_ex | apply GL_ex); exact rfl; first | exact ob1) | ((first | apply b_ | apply a_ | apply i_); exact z_; intro _) | ((first | apply p_ | apply JO_yes | apply GC_t); exact z_) | (apply n_; exact z_) | (apply GC_f; exact z_) | (apply GX_block_on; exact z_) | refine GC_drawB (id := 3) [] [0, 1] [2, 3, 4, 5] _ (by kernel_rfl) (List.Sublist.refl _) ?_ | refine GC_drawB (id := 4) [0, 1, 2, 3, 4, 5, 6, 15] [7, 8, 9, 10, 11, 12, 13, 14] [16, 17, 18] _ (by kernel_rfl) (List.Sublist.refl _) ?_ | refine GC_drawA (id := 18) [0, 1, 2, 3, 4, 5, 6, 7, 8, 9, 10, 11, 12, 13, 14, 15, 16, 17, 18, 19, 20, 21, 22, 23, 24, 25, 26, 27, 28, 29, 30, 31, 32, 33, 34, 35, 36, 37, 38, 39, 40, 41, 42, 43, 44, 45, 46, 47, 48, 49, 50, 51, 52, 53, 54, 55, 56, 57, 58, 59, 60] [] (by kernel_rfl) ?_ | ((first | apply GD_at | apply GL_at | apply GD_no | apply GL_no); exact rfl) | apply DFin_0 | (apply q1_; exact z_) | (apply q0_; exact z_) | (apply q2_; exact z_))
    all_goals exact GX_loop () ⟨rfl, rfl, rfl, rfl, rfl, rfl, rfl, rfl, rfl, rfl, rfl, rfl, rfl, rfl, rfl, rfl, rfl, rfl, rfl, rfl, trivial⟩ Nat.zero_lt_one trivial (fun w hw => hw.cut)
  intro _ _
  try simp only
  have hbest := best_force hK hF (b := k.boxes) hK.boxes.1
  have la := mudsV_len k fun m => (hoursR k.force m : Int)
  have lb : (mudsV (forceK k F) fun m => (hoursR (forceK k F).force m : Int)).length = k.yard.vats.length := mudsV_len _ _
  have lc := mudsV_len k fun m => m / k.cake
  have ld : (mudsV (cakeK k C) fun m => m / (cakeK k C).cake).length = k.yard.vats.length := mudsV_len _ _
  have lp := mudsV_len k fun m => m
  have lq : (mudsV (forceK k F) fun m => m).length = k.yard.vats.length := mudsV_len _ _
  apply GC_seq
  refine GC_mid (α := Unit) (fun s => [(23, .int .i64 ((bestL (forceK k F) k.boxes).2)), (24, .int .i64 0), (20, .int .i64 ((bestL k k.boxes).2)), (21, .int .i64 0), (17, rq), (18, .int .i64 0), (15, rp), (16, .int .i64 0), (13, rd), (14, .int .i64 0), (11, rc), (12, .int .i64 0), (9, rb), (10, .int .i64 0), (7, ra), (8, .int .i64 0), (5, pt p5), (6, pt p6), (2, pt p2), (1, .int .u8 x)]) (fun s => [(Gq, wq), (Gp, wp), (Gd, wd), (Gc, wc), (Gb, wb), (Ga, wa), ((fun _ => True), w)]) (fun s => [(p6, .cells (wkC a b c d e f (cakeK k C)).toArray 35), (p5, .cells (wkC a b c d e f (forceK k F)).toArray 35), (p2, .cells (wkC a b c d e f k).toArray 35)]) (fun s => True) ?_ ?_
  · repeat' (first | apply s_ | ((first | apply JO_ob | apply GD_ex | apply GL_ex); exact rfl; first | exact ob1 | exact Ob_call rfl (fun w5 hw5 => c26W (hw5.wk mem_ h))) | ((first | apply b_ | apply a_ | apply i_); exact z_; intro _) | ((first | apply p_ | apply JO_yes | apply GC_t); exact z_) | (apply n_; exact z_) | (apply GC_f; exact z_) | (apply GX_block_on; exact z_) | refine GC_drawB (id := 3) [] [0, 1] [2, 3, 4, 5] _ (by kernel_rfl) (List.Sublist.refl _) ?_ | refine GC_drawB (id := 4) [0, 1, 2, 3, 4, 5, 6, 15] [7, 8, 9, 10, 11, 12, 13, 14] [16, 17, 18] _ (by kernel_rfl) (List.Sublist.refl _) ?_ | refine GC_drawA (id := 18) [0, 1, 2, 3, 4, 5, 6, 7, 8, 9, 10, 11, 12, 13, 14, 15, 16, 17, 18, 19, 20, 21, 22, 23, 24, 25, 26, 27, 28, 29, 30, 31, 32, 33, 34, 35, 36, 37, 38, 39, 40, 41, 42, 43, 44, 45, 46, 47, 48, 49, 50, 51, 52, 53, 54, 55, 56, 57, 58, 59, 60] [] (by kernel_rfl) ?_ | ((first | apply GD_at | apply GL_at | apply GD_no | apply GL_no); exact rfl) | apply DFin_0 | (apply q1_; exact z_) | (apply q0_; exact z_) | (apply q2_; exact z_))
    all_goals exact GX_loop () ⟨rfl, rfl, rfl, rfl, rfl, rfl, rfl, rfl, rfl, rfl, rfl, rfl, rfl, rfl, rfl, rfl, rfl, rfl, rfl, rfl, trivial⟩ Nat.zero_lt_one trivial (fun w hw => hw.cut)
  intro _ _
  try simp only
  repeat' (first | apply s_ | ((first | apply JO_ob | apply GD_ex | apply GL_ex); exact rfl; first | exact ob1) | ((first | apply b_ | apply a_ | apply i_); exact z_; intro _) | ((first | apply p_ | apply JO_yes | apply GC_t); exact z_) | (apply n_; exact z_) | (apply GC_f; exact z_) | (apply GX_block_on; exact z_) | refine GC_drawB (id := 3) [] [0, 1] [2, 3, 4, 5] _ (by kernel_rfl) (List.Sublist.refl _) ?_ | refine GC_drawB (id := 4) [0, 1, 2, 3, 4, 5, 6, 15] [7, 8, 9, 10, 11, 12, 13, 14] [16, 17, 18] _ (by kernel_rfl) (List.Sublist.refl _) ?_ | refine GC_drawA (id := 18) [0, 1, 2, 3, 4, 5, 6, 7, 8, 9, 10, 11, 12, 13, 14, 15, 16, 17, 18, 19, 20, 21, 22, 23, 24, 25, 26, 27, 28, 29, 30, 31, 32, 33, 34, 35, 36, 37, 38, 39, 40, 41, 42, 43, 44, 45, 46, 47, 48, 49, 50, 51, 52, 53, 54, 55, 56, 57, 58, 59, 60] [] (by kernel_rfl) ?_ | ((first | apply GD_at | apply GL_at | apply GD_no | apply GL_no); exact rfl) | apply DFin_0 | (apply q1_; exact z_) | (apply q0_; exact z_) | (apply q2_; exact z_))
  refine GC_loop (α := Nat) (fun i => k.yard.vats.length - i) (fun i => [(25, .int .i64 (i : Int)), (23, .int .i64 ((bestL (forceK k F) k.boxes).2)), (24, .int .i64 0), (20, .int .i64 ((bestL k k.boxes).2)), (21, .int .i64 0), (17, rq), (18, .int .i64 0), (15, rp), (16, .int .i64 0), (13, rd), (14, .int .i64 0), (11, rc), (12, .int .i64 0), (9, rb), (10, .int .i64 0), (7, ra), (8, .int .i64 0), (5, pt p5), (6, pt p6), (2, pt p2), (1, .int .u8 x)]) (fun _ => [(Gq, wq), (Gp, wp), (Gd, wd), (Gc, wc), (Gb, wb), (Ga, wa), ((fun _ => True), w)]) (fun _ => [(p6, .cells (wkC a b c d e f (cakeK k C)).toArray 35), (p5, .cells (wkC a b c d e f (forceK k F)).toArray 35), (p2, .cells (wkC a b c d e f k).toArray 35)]) (fun i => i ≤ k.yard.vats.length) 0 ⟨rfl, rfl, rfl, rfl, rfl, rfl, rfl, rfl, rfl, rfl, rfl, rfl, rfl, rfl, rfl, rfl, rfl, rfl, rfl, rfl, rfl, trivial⟩ (Nat.zero_le _) (fun w hw => hw.cut) ?_
  intro i hi
  by_cases hlt : i < k.yard.vats.length
  · have xa : i < (mudsV k fun m => (hoursR k.force m : Int)).length := by omega
    have xb : i < (mudsV (forceK k F) fun m => (hoursR (forceK k F).force m : Int)).length := by omega
    have xc : i < (mudsV k fun m => m / k.cake).length := by omega
    have xd : i < (mudsV (cakeK k C) fun m => m / (cakeK k C).cake).length := by omega
    have xp : i < (mudsV k fun m => m).length := by omega
    have xq : i < (mudsV (forceK k F) fun m => m).length := by omega
    have f1 := force_hours hK hF hlt
    have f2 := cake_more hK hC hlt
    repeat' (first | apply s_ | ((first | apply JO_ob | apply GD_ex | apply GL_ex); exact rfl; first | exact ob1 | exact Ob_neR rfl rfl rfl rfl) | ((first | apply b_ | apply a_ | apply i_); exact z_; intro _) | ((first | apply p_ | apply JO_yes | apply GC_t); exact z_) | (apply n_; exact z_) | (apply GC_f; exact z_) | (apply GX_block_on; exact z_) | refine GC_drawB (id := 3) [] [0, 1] [2, 3, 4, 5] _ (by kernel_rfl) (List.Sublist.refl _) ?_ | refine GC_drawB (id := 4) [0, 1, 2, 3, 4, 5, 6, 15] [7, 8, 9, 10, 11, 12, 13, 14] [16, 17, 18] _ (by kernel_rfl) (List.Sublist.refl _) ?_ | refine GC_drawA (id := 18) [0, 1, 2, 3, 4, 5, 6, 7, 8, 9, 10, 11, 12, 13, 14, 15, 16, 17, 18, 19, 20, 21, 22, 23, 24, 25, 26, 27, 28, 29, 30, 31, 32, 33, 34, 35, 36, 37, 38, 39, 40, 41, 42, 43, 44, 45, 46, 47, 48, 49, 50, 51, 52, 53, 54, 55, 56, 57, 58, 59, 60] [] (by kernel_rfl) ?_ | ((first | apply GD_at | apply GL_at | apply GD_no | apply GL_no); exact rfl) | apply DFin_0 | (apply q1_; exact z_) | (apply q0_; exact z_) | (apply q2_; exact z_))
    exact GX_loop (i + 1) ⟨rfl, rfl, rfl, rfl, rfl, rfl, rfl, rfl, rfl, rfl, rfl, rfl, rfl, rfl, rfl, rfl, rfl, rfl, rfl, rfl, rfl, trivial⟩ (by omega) (by omega) (fun w hw => hw.cut)
  · repeat' (first | apply s_ | ((first | apply JO_ob | apply GD_ex | apply GL_ex); exact rfl; first | exact ob1 | exact Ob_call rfl (fun w5 _ => c21 w5)) | ((first | apply b_ | apply a_ | apply i_); exact z_; intro _) | ((first | apply p_ | apply JO_yes | apply GC_t); exact z_) | (apply n_; exact z_) | (apply GC_f; exact z_) | (apply GX_block_on; exact z_) | refine GC_drawB (id := 3) [] [0, 1] [2, 3, 4, 5] _ (by kernel_rfl) (List.Sublist.refl _) ?_ | refine GC_drawB (id := 4) [0, 1, 2, 3, 4, 5, 6, 15] [7, 8, 9, 10, 11, 12, 13, 14] [16, 17, 18] _ (by kernel_rfl) (List.Sublist.refl _) ?_ | refine GC_drawA (id := 18) [0, 1, 2, 3, 4, 5, 6, 7, 8, 9, 10, 11, 12, 13, 14, 15, 16, 17, 18, 19, 20, 21, 22, 23, 24, 25, 26, 27, 28, 29, 30, 31, 32, 33, 34, 35, 36, 37, 38, 39, 40, 41, 42, 43, 44, 45, 46, 47, 48, 49, 50, 51, 52, 53, 54, 55, 56, 57, 58, 59, 60] [] (by kernel_rfl) ?_ | ((first | apply GD_at | apply GL_at | apply GD_no | apply GL_no); exact rfl) | apply DFin_0 | (apply q1_; exact z_) | (apply q0_; exact z_) | (apply q2_; exact z_))
    exact GX_ex rfl rfl mem_ rfl
theorem law11 (h : WkA All w a b c hs d e f k) (x : Int) (hx : 0 ≤ x ∧ x ≤ 255) : Ex 11 [wkV a b c d e f k, .int .u8 x] w (.bool true) := by
  have i1 := h.yard.fields.v1
  have i2 := h.yard.vats.arr.v1
  have i3 := h.yard.smps.v1
  have i4 := h.beat.vats.v1
  have i5 := h.beat.smps.v1
  have i6 := h.ends.v1
  cases hr : readyW k
  · refine Rt_of Tryz.func11 rfl Tryz.ntmps11 rfl ?_
    repeat' (first | apply s_ | ((first | apply JO_ob | apply GD_ex | apply GL_ex); exact rfl; first | exact ob1 | exact Ob_call rfl (fun w5 hw5 => c48F (hw5.wk mem_ h) hr) | exact Ob_call rfl (fun w5 _ => c21 w5)) | ((first | apply b_ | apply a_ | apply i_); exact z_; intro _) | ((first | apply p_ | apply JO_yes | apply GC_t); exact z_) | (apply n_; exact z_) | (apply GC_f; exact z_) | (apply GX_block_on; exact z_) | refine GC_drawB (id := 3) [] [0, 1] [2, 3, 4, 5] _ (by kernel_rfl) (List.Sublist.refl _) ?_ | refine GC_drawB (id := 4) [0, 1, 2, 3, 4, 5, 6, 15] [7, 8, 9, 10, 11, 12, 13, 14] [16, 17, 18] _ (by kernel_rfl) (List.Sublist.refl _) ?_ | refine GC_drawA (id := 18) [0, 1, 2, 3, 4, 5, 6, 7, 8, 9, 10, 11, 12, 13, 14, 15, 16, 17, 18, 19, 20, 21, 22, 23, 24, 25, 26, 27, 28, 29, 30, 31, 32, 33, 34, 35, 36, 37, 38, 39, 40, 41, 42, 43, 44, 45, 46, 47, 48, 49, 50, 51, 52, 53, 54, 55, 56, 57, 58, 59, 60] [] (by kernel_rfl) ?_ | ((first | apply GD_at | apply GL_at | apply GD_no | apply GL_no); exact rfl) | apply DFin_0 | (apply q1_; exact z_) | (apply q0_; exact z_) | (apply q2_; exact z_))
    exact GX_ex rfl rfl mem_ rfl
  exact law11_good h x hx hr
end
end Go.Proofs.YtkbaaikidhbfmaaGreat
