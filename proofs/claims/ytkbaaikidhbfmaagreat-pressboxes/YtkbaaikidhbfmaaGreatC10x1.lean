/- The law PressBoxes of the chapter 09 returns true for every input, and each argument reads afterwards as it read before. No condition. -/
import Derived.Test.YtkbaaikidhbfmaaGreatB5
/- Plain mathematics: works with another number of boxes, another force, another last hour, other cakes; the best plans. No statement is proved here. -/
set_option linter.unusedVariables false
set_option linter.unusedSimpArgs false
namespace Go.Proofs.YtkbaaikidhbfmaaGreat
open Go.RowKit
theorem fault9_mk {k : Wk} (h : OkK k) (hm : many1 k.yard.fields * many3 k.beat ≤ 6000) : fault9 k = 0 := by
  have h1 : (truths1 k.yard).length ≠ 0 := fun e => h.t1 ((truths1_nil h.y.f h.m1).1 e)
  have h3 : (truths3 k.beat).length ≠ 0 := fun e => h.t3 ((truths3_nil h.b).1 e)
  have hn : isNum k = true := by simp only [isNum, Bool.and_eq_true, decide_eq_true_eq]; exact ⟨h.boxes, h.force, h.last, h.cake⟩
  unfold fault9
  rw [if_neg (fun e => e h.f1), if_neg h1, if_neg (fun e => e h.f3), if_neg h3, if_neg (fun e => e h.len), if_neg (by rw [h.ends]; decide), if_neg (by rw [hn]; decide), if_neg (by omega)]
theorem fault9_many {k : Wk} (h : fault9 k = 0) : many1 k.yard.fields * many3 k.beat ≤ 6000 := (fault9_0 h).2.2.2.2.2.2.2
def boxK (k : Wk) (b : Int) : Wk := { k with boxes := b }
theorem fault_box {k : Wk} (h : fault9 k = 0) {b : Int} (hb : 1 ≤ b ∧ b ≤ 3) : fault9 (boxK k b) = 0 := by
  have hK := okK_of h
  have hm := fault9_many h
  exact fault9_mk (k := boxK k b) ⟨hK.f1, hK.f3, hK.y, hK.b, hK.m1, hK.m3, hK.len, hK.ends, hK.t1, hK.t3, hb, hK.force, hK.last, hK.cake⟩ hm
theorem best_box (k : Wk) (b b' : Int) : bestL (boxK k b) b' = bestL k b' := rfl
theorem best_len {k : Wk} (h : OkK k) {b : Int} (hb : 1 ≤ b) : (bestL k b).1.length = k.yard.vats.length := (mem_plans.1 (bestL_ok h hb).mem).1
theorem best_bd {k : Wk} (h : OkK k) {b : Int} (hb : 1 ≤ b) : 0 ≤ (bestL k b).2 ∧ (bestL k b).2 ≤ 2703 := by
  rw [(bestL_ok h hb).val]; exact endV_bd h _
def zeros (k : Wk) : List Int := List.replicate k.yard.vats.length 0
theorem zeros_len (k : Wk) : (zeros k).length = k.yard.vats.length := by simp [zeros]
theorem zeros_nth {k : Wk} {i : Nat} (hi : i < k.yard.vats.length) : nth (zeros k) i = 0 := by simp [zeros, nth, hi]
theorem zeros_plan {k : Wk} (h : OkK k) : planP k (zeros k) = true := by
  rw [planP_eq h.boxes, isPlan_iff, mem_plans]
  have hb := h.boxes
  exact ⟨zeros_len k, fun x hx => by rw [List.eq_of_mem_replicate hx]; omega⟩
theorem zeros_end {k : Wk} (h : OkK k) (hn : 0 < k.yard.vats.length) : endV k (zeros k) = (nth (timesV k (zeros k)) (k.yard.vats.length - 1)).2 := by
  have h1 := endV_ge h (zeros k) (i := k.yard.vats.length - 1) (by omega)
  have h2 : endV k (zeros k) ≤ (nth (timesV k (zeros k)) (k.yard.vats.length - 1)).2 := by
    have h0 := (timesV_bd h (zeros k) (i := k.yard.vats.length - 1) (by omega))
    rw [endV_leP h]
    refine ⟨by omega, fun i hi p hp => ?_⟩
    have h3 := (times_in (zeros k) hp (i := k.yard.vats.length - 1) (by omega)).2
    have h4 := atN_grow (hr := hrP k p) (l := zeros k) (v := 0) (n := i + 1) (k.yard.vats.length - 1 - i) (fun j hj => (hrP_bd h hp (by omega)).1)
    rw [show i + 1 + (k.yard.vats.length - 1 - i) = k.yard.vats.length by omega] at h4
    rw [atP_eq, zeros_nth hi]
    rw [atP_eq, zeros_nth (by omega), show k.yard.vats.length - 1 + 1 = k.yard.vats.length by omega] at h3
    omega
  omega
theorem best_one {k : Wk} (h : OkK k) (hn : 0 < k.yard.vats.length) : (bestL k 1).2 = (nth (timesV k (zeros k)) (k.yard.vats.length - 1)).2 := by
  have h1 := bestL_ok h (b := 1) (by omega)
  obtain ⟨g1, g2⟩ := mem_plans.1 h1.mem
  have e : (bestL k 1).1 = zeros k := by
    rw [zeros, ← g1]
    exact List.eq_replicate_iff.2 ⟨rfl, fun x hx => by have := g2 x hx; omega⟩
  rw [h1.val, e, zeros_end h hn]
def mostT (k : Wk) (i : Nat) : Int := endR ((mudsV k fun m => (hoursR k.force m : Int)).take i)
theorem mostT_succ {k : Wk} {i : Nat} (hi : i < k.yard.vats.length) : mostT k (i + 1) = max (mostT k i) (nth (mudsV k fun m => (hoursR k.force m : Int)) i).2 := by
  simp only [mostT]
  rw [take_snoc (by rw [mudsV_len]; exact hi)]
  simp only [endR, List.foldl_append, List.foldl_cons, List.foldl_nil]
theorem mostT_all (k : Wk) : mostT k k.yard.vats.length = mostV k := by
  simp only [mostT, mostV]; rw [List.take_of_length_le (by rw [mudsV_len]; exact Nat.le_refl _)]
end Go.Proofs.YtkbaaikidhbfmaaGreat
/- The walk of the law PressBoxes. No statement is proved here. -/
set_option linter.unusedVariables false
set_option linter.unusedSimpArgs false
namespace Go.Proofs.YtkbaaikidhbfmaaGreat
open Go.RowKit
section
variable {w : World} {a b c d e f : Value} {hs : List Value} {k : Wk}
theorem SH.litZ {b0 : World} {R : Rgs} {H : Hp} {w : World} (hw : SH b0 R H w) (k : Wk) {b : Nat} {T : TypeId} (hH : (b, Obj.cells ((List.replicate k.yard.vats.length (0 : Int)).flatMap encI).toArray T) ∈ H) (hl : k.yard.vats.length ≤ 100 := by omega) : Arr All w 1 encI (.slice (some ⟨b, 0, none⟩) k.yard.vats.length k.yard.vats.length) (zeros k) :=
  ⟨fun _ => rfl, _, _, by rw [zeros_len], by rw [zeros_len]; exact Nat.le_refl _, by omega, .inr ⟨b, 0, rfl, trivial, fun j hj => by rw [cell_blk (hw.own _ hH), Nat.zero_add]; rfl⟩⟩
theorem Ob_subn {b0 : World} {R : Rgs} {H : Hp} {fr : Slots} {dst : Option Nat} {g : Option (Nat × Bool)} {ty : TypeId} {ps : String} {af : Array Edge} {t yt : TypeId} {x y : Operand} {a b : Int} {c : Nat} (hx : ev fr x = some (.int .i64 a)) (hy : ev fr y = some (.int .i64 b)) (h : a - b = (c : Int)) (hc : c ≤ 1000000 := by omega) :
    Ob b0 R H ⟨dst, .binOp .sub t x y yt, ty, ps, af, g⟩ fr (.int .i64 (c : Int)) := by
  have := Ob_sub (b0 := b0) (R := R) (H := H) (dst := dst) (g := g) (ty := ty) (ps := ps) (af := af) (t := t) (yt := yt) hx hy (by omega)
  rwa [h] at this
set_option maxRecDepth 100000 in
set_option maxHeartbeats 4000000 in
theorem law10_good (h : WkA All w a b c hs d e f k) (hr : readyW k = true) : Ex 10 [wkV a b c d e f k] w (.bool true) := by
  have i1 := h.yard.fields.v1
  have i2 := h.yard.vats.arr.v1
  have i3 := h.yard.smps.v1
  have i4 := h.beat.vats.v1
  have i5 := h.beat.smps.v1
  have i6 := h.ends.v1
  obtain ⟨ht, hf⟩ := ready_iff.1 hr
  have hK := okK_of hf
  refine Rt_of Tryz.func10 rfl Tryz.ntmps10 rfl ?_

  apply GC_seq
  refine GC_mid (α := Nat) (fun s => [(1, pt s)]) (fun s => [((fun _ => True), w)]) (fun s => [(s, .cells (wkC a b c d e f k).toArray 35)]) (fun s => True) ?_ ?_
  · repeat' (first | apply s_ | ((first | apply JO_ob | apply GD_ex | apply GL_ex); exact rfl; first | exact ob1) | ((first | apply b_ | apply a_ | apply i_); exact z_; intro _) | ((first | apply p_ | apply JO_yes | apply GC_t); exact z_) | (apply n_; exact z_) | (apply GC_f; exact z_) | (apply GX_block_on; exact z_) | refine GC_drawB (id := 6) [0] [2] [1, 3, 4, 5, 6, 7, 8, 9, 10] _ (by kernel_rfl) (List.Sublist.refl _) ?_ | ((first | apply GD_at | apply GL_at | apply GD_no | apply GL_no); exact rfl) | apply DFin_0 | (apply q1_; exact z_) | (apply q0_; exact z_) | (apply q2_; exact z_))
    all_goals exact GX_loop _ ⟨rfl, trivial⟩ Nat.zero_lt_one trivial (fun w hw => hw.cut)
  intro p1 _
  try simp only
  apply GC_seq
  refine GC_mid (α := Unit) (fun s => [(1, pt p1)]) (fun s => [((fun _ => True), w)]) (fun s => [(p1, .cells (wkC a b c d e f k).toArray 35)]) (fun s => True) ?_ ?_
  · repeat' (first | apply s_ | ((first | apply JO_ob | apply GD_ex | apply GL_ex); exact rfl; first | exact ob1 | exact Ob_call rfl (fun w5 hw5 => c48T (hw5.wk mem_ h) hr)) | ((first | apply b_ | apply a_ | apply i_); exact z_; intro _) | ((first | apply p_ | apply JO_yes | apply GC_t); exact z_) | (apply n_; exact z_) | (apply GC_f; exact z_) | (apply GX_block_on; exact z_) | refine GC_drawB (id := 6) [0] [2] [1, 3, 4, 5, 6, 7, 8, 9, 10] _ (by kernel_rfl) (List.Sublist.refl _) ?_ | ((first | apply GD_at | apply GL_at | apply GD_no | apply GL_no); exact rfl) | apply DFin_0 | (apply q1_; exact z_) | (apply q0_; exact z_) | (apply q2_; exact z_))
    all_goals exact GX_loop () ⟨rfl, trivial⟩ Nat.zero_lt_one trivial (fun w hw => hw.cut)
  intro _ _
  try simp only
  apply GC_seq
  refine GC_mid (α := VG) (fun s => [(3, s.1), (4, .int .i64 ((bestL k k.boxes).2)), (5, .int .i64 0), (1, pt p1)]) (fun s => [(s.2.1, s.2.2), ((fun _ => True), w)]) (fun s => [(p1, .cells (wkC a b c d e f k).toArray 35)]) (fun s => Arr s.2.1 s.2.2 1 encI s.1 ((bestL k k.boxes).1)) ?_ ?_
  · repeat' (first | apply s_ | ((first | apply JO_ob | apply GD_ex | apply GL_ex); exact rfl; first | exact ob1) | ((first | apply b_ | apply a_ | apply i_); exact z_; intro _) | ((first | apply p_ | apply JO_yes | apply GC_t); exact z_) | (apply n_; exact z_) | (apply GC_f; exact z_) | (apply GX_block_on; exact z_) | refine GC_drawB (id := 6) [0] [2] [1, 3, 4, 5, 6, 7, 8, 9, 10] _ (by kernel_rfl) (List.Sublist.refl _) ?_ | ((first | apply GD_at | apply GL_at | apply GD_no | apply GL_no); exact rfl) | apply DFin_0 | (apply q1_; exact z_) | (apply q0_; exact z_) | (apply q2_; exact z_))
    refine JO_call (S := TwoW k) rfl rfl (fun w5 hw5 => c23W (hw5.wk mem_ h) ht) ?_
    rintro _ ua0 ub0 ha0 hb0 hk0 ⟨a0, b0, c0, hs0, d0, e0, f0, rfl, hW0⟩
    have iw01 := hW0.yard.fields.v1
    have iw02 := hW0.yard.vats.arr.v1
    have iw03 := hW0.yard.smps.v1
    have iw04 := hW0.beat.vats.v1
    have iw05 := hW0.beat.smps.v1
    have iw06 := hW0.ends.v1
    repeat' (first | apply s_ | ((first | apply JO_ob | apply GD_ex | apply GL_ex); exact rfl; first | exact ob1) | ((first | apply b_ | apply a_ | apply i_); exact z_; intro _) | ((first | apply p_ | apply JO_yes | apply GC_t); exact z_) | (apply n_; exact z_) | (apply GC_f; exact z_) | (apply GX_block_on; exact z_) | refine GC_drawB (id := 6) [0] [2] [1, 3, 4, 5, 6, 7, 8, 9, 10] _ (by kernel_rfl) (List.Sublist.refl _) ?_ | ((first | apply GD_at | apply GL_at | apply GD_no | apply GL_no); exact rfl) | apply DFin_0 | (apply q1_; exact z_) | (apply q0_; exact z_) | (apply q2_; exact z_))
    refine JO_call (S := BestW ((bestL k k.boxes).1) ((bestL k k.boxes).2)) rfl rfl (fun w5 hw5 => c54F (upk hw5 (.head _) hW0) hf) ?_
    rintro _ uc0 ud0 hc0 hd0 hl0 ⟨r0, rfl, hr0⟩
    have ir0 := hr0.v1
    repeat' (first | apply s_ | ((first | apply JO_ob | apply GD_ex | apply GL_ex); exact rfl; first | exact ob1) | ((first | apply b_ | apply a_ | apply i_); exact z_; intro _) | ((first | apply p_ | apply JO_yes | apply GC_t); exact z_) | (apply n_; exact z_) | (apply GC_f; exact z_) | (apply GX_block_on; exact z_) | refine GC_drawB (id := 6) [0] [2] [1, 3, 4, 5, 6, 7, 8, 9, 10] _ (by kernel_rfl) (List.Sublist.refl _) ?_ | ((first | apply GD_at | apply GL_at | apply GD_no | apply GL_no); exact rfl) | apply DFin_0 | (apply q1_; exact z_) | (apply q0_; exact z_) | (apply q2_; exact z_))
    all_goals exact GX_loop (r0, (fun b => uc0.heap.size ≤ b), ud0) ⟨rfl, rfl, rfl, rfl, trivial⟩ Nat.zero_lt_one hr0 (fun w hw => hw.cut)
  rintro ⟨rl, Gl, wl⟩ hrl
  simp only at hrl ⊢
  have irl := hrl.v1
  have brl := hrl.bound
  apply GC_seq
  refine GC_mid (α := VG) (fun s => [(6, s.1), (7, .int .i64 0), (3, rl), (4, .int .i64 ((bestL k k.boxes).2)), (5, .int .i64 0), (1, pt p1)]) (fun s => [(s.2.1, s.2.2), (Gl, wl), ((fun _ => True), w)]) (fun s => [(p1, .cells (wkC a b c d e f k).toArray 35)]) (fun s => Arr s.2.1 s.2.2 2 encR s.1 (mudsV k fun m => (hoursR k.force m : Int))) ?_ ?_
  · repeat' (first | apply s_ | ((first | apply JO_ob | apply GD_ex | apply GL_ex); exact rfl; first | exact ob1) | ((first | apply b_ | apply a_ | apply i_); exact z_; intro _) | ((first | apply p_ | apply JO_yes | apply GC_t); exact z_) | (apply n_; exact z_) | (apply GC_f; exact z_) | (apply GX_block_on; exact z_) | refine GC_drawB (id := 6) [0] [2] [1, 3, 4, 5, 6, 7, 8, 9, 10] _ (by kernel_rfl) (List.Sublist.refl _) ?_ | ((first | apply GD_at | apply GL_at | apply GD_no | apply GL_no); exact rfl) | apply DFin_0 | (apply q1_; exact z_) | (apply q0_; exact z_) | (apply q2_; exact z_))
    refine JO_call (S := TwoW k) rfl rfl (fun w5 hw5 => c23W (hw5.wk mem_ h) ht) ?_
    rintro _ ua0 ub0 ha0 hb0 hk0 ⟨a0, b0, c0, hs0, d0, e0, f0, rfl, hW0⟩
    have iw01 := hW0.yard.fields.v1
    have iw02 := hW0.yard.vats.arr.v1
    have iw03 := hW0.yard.smps.v1
    have iw04 := hW0.beat.vats.v1
    have iw05 := hW0.beat.smps.v1
    have iw06 := hW0.ends.v1
    repeat' (first | apply s_ | ((first | apply JO_ob | apply GD_ex | apply GL_ex); exact rfl; first | exact ob1) | ((first | apply b_ | apply a_ | apply i_); exact z_; intro _) | ((first | apply p_ | apply JO_yes | apply GC_t); exact z_) | (apply n_; exact z_) | (apply GC_f; exact z_) | (apply GX_block_on; exact z_) | refine GC_drawB (id := 6) [0] [2] [1, 3, 4, 5, 6, 7, 8, 9, 10] _ (by kernel_rfl) (List.Sublist.refl _) ?_ | ((first | apply GD_at | apply GL_at | apply GD_no | apply GL_no); exact rfl) | apply DFin_0 | (apply q1_; exact z_) | (apply q0_; exact z_) | (apply q2_; exact z_))
    refine JO_call (S := RgsW (mudsV k fun m => (hoursR k.force m : Int))) rfl rfl (fun w5 hw5 => c29F (upk hw5 (.head _) hW0) hf) ?_
    rintro _ uc0 ud0 hc0 hd0 hl0 ⟨r0, rfl, hr0⟩
    have ir0 := hr0.v1
    have br0 := hr0.bound
    repeat' (first | apply s_ | ((first | apply JO_ob | apply GD_ex | apply GL_ex); exact rfl; first | exact ob1) | ((first | apply b_ | apply a_ | apply i_); exact z_; intro _) | ((first | apply p_ | apply JO_yes | apply GC_t); exact z_) | (apply n_; exact z_) | (apply GC_f; exact z_) | (apply GX_block_on; exact z_) | refine GC_drawB (id := 6) [0] [2] [1, 3, 4, 5, 6, 7, 8, 9, 10] _ (by kernel_rfl) (List.Sublist.refl _) ?_ | ((first | apply GD_at | apply GL_at | apply GD_no | apply GL_no); exact rfl) | apply DFin_0 | (apply q1_; exact z_) | (apply q0_; exact z_) | (apply q2_; exact z_))
    all_goals exact GX_loop (r0, (fun b => uc0.heap.size ≤ b), ud0) ⟨rfl, rfl, rfl, rfl, rfl, rfl, trivial⟩ Nat.zero_lt_one hr0 (fun w hw => hw.cut)
  rintro ⟨rh, Gh, wh⟩ hrh
  simp only at hrh ⊢
  have irh := hrh.v1
  have brh := hrh.bound
  apply GC_seq
  refine GC_mid (α := Unit) (fun s => [(8, .int .i64 (if k.boxes < 3 then (bestL k k.boxes).2 - (bestL k (k.boxes + 1)).2 else 0)), (9, .int .i64 (if k.boxes < 3 then 0 else 2)), (6, rh), (7, .int .i64 0), (3, rl), (4, .int .i64 ((bestL k k.boxes).2)), (5, .int .i64 0), (1, pt p1)]) (fun s => [(Gh, wh), (Gl, wl), ((fun _ => True), w)]) (fun s => [(p1, .cells (wkC a b c d e f k).toArray 35)]) (fun s => True) ?_ ?_
  · by_cases hb : k.boxes < 3
    · repeat' (first | apply s_ | ((first | apply JO_ob | apply GD_ex | apply GL_ex); exact rfl; first | exact ob1) | ((first | apply b_ | apply a_ | apply i_); exact z_; intro _) | ((first | apply p_ | apply JO_yes | apply GC_t); exact z_) | (apply n_; exact z_) | (apply GC_f; exact z_) | (apply GX_block_on; exact z_) | refine GC_drawB (id := 6) [0] [2] [1, 3, 4, 5, 6, 7, 8, 9, 10] _ (by kernel_rfl) (List.Sublist.refl _) ?_ | ((first | apply GD_at | apply GL_at | apply GD_no | apply GL_no); exact rfl) | apply DFin_0 | (apply q1_; exact z_) | (apply q0_; exact z_) | (apply q2_; exact z_))
      refine JO_call (S := TwoW k) rfl rfl (fun w5 hw5 => c23W (hw5.wk mem_ h) ht) ?_
      rintro _ ua0 ub0 ha0 hb0 hk0 ⟨a0, b0, c0, hs0, d0, e0, f0, rfl, hW0⟩
      have iw01 := hW0.yard.fields.v1
      have iw02 := hW0.yard.vats.arr.v1
      have iw03 := hW0.yard.smps.v1
      have iw04 := hW0.beat.vats.v1
      have iw05 := hW0.beat.smps.v1
      have iw06 := hW0.ends.v1
      rw [if_pos hb, if_pos hb]
      repeat' (first | apply s_ | ((first | apply JO_ob | apply GD_ex | apply GL_ex); exact rfl; first | exact ob1 | exact Ob_call rfl (fun w5 hw5 => c55F (upk hw5 (.head _) hW0) hf hb)) | ((first | apply b_ | apply a_ | apply i_); exact z_; intro _) | ((first | apply p_ | apply JO_yes | apply GC_t); exact z_) | (apply n_; exact z_) | (apply GC_f; exact z_) | (apply GX_block_on; exact z_) | refine GC_drawB (id := 6) [0] [2] [1, 3, 4, 5, 6, 7, 8, 9, 10] _ (by kernel_rfl) (List.Sublist.refl _) ?_ | ((first | apply GD_at | apply GL_at | apply GD_no | apply GL_no); exact rfl) | apply DFin_0 | (apply q1_; exact z_) | (apply q0_; exact z_) | (apply q2_; exact z_))
      all_goals exact GX_loop () ⟨rfl, rfl, rfl, rfl, rfl, rfl, rfl, rfl, trivial⟩ Nat.zero_lt_one trivial (fun w hw => hw.cut)
    repeat' (first | apply s_ | ((first | apply JO_ob | apply GD_ex | apply GL_ex); exact rfl; first | exact ob1) | ((first | apply b_ | apply a_ | apply i_); exact z_; intro _) | ((first | apply p_ | apply JO_yes | apply GC_t); exact z_) | (apply n_; exact z_) | (apply GC_f; exact z_) | (apply GX_block_on; exact z_) | refine GC_drawB (id := 6) [0] [2] [1, 3, 4, 5, 6, 7, 8, 9, 10] _ (by kernel_rfl) (List.Sublist.refl _) ?_ | ((first | apply GD_at | apply GL_at | apply GD_no | apply GL_no); exact rfl) | apply DFin_0 | (apply q1_; exact z_) | (apply q0_; exact z_) | (apply q2_; exact z_))
    refine JO_call (S := TwoW k) rfl rfl (fun w5 hw5 => c23W (hw5.wk mem_ h) ht) ?_
    rintro _ ua0 ub0 ha0 hb0 hk0 ⟨a0, b0, c0, hs0, d0, e0, f0, rfl, hW0⟩
    have iw01 := hW0.yard.fields.v1
    have iw02 := hW0.yard.vats.arr.v1
    have iw03 := hW0.yard.smps.v1
    have iw04 := hW0.beat.vats.v1
    have iw05 := hW0.beat.smps.v1
    have iw06 := hW0.ends.v1
    rw [if_neg hb, if_neg hb]
    repeat' (first | apply s_ | ((first | apply JO_ob | apply GD_ex | apply GL_ex); exact rfl; first | exact ob1 | exact Ob_call rfl (fun w5 hw5 => c55G (upk hw5 (.head _) hW0) hf hb)) | ((first | apply b_ | apply a_ | apply i_); exact z_; intro _) | ((first | apply p_ | apply JO_yes | apply GC_t); exact z_) | (apply n_; exact z_) | (apply GC_f; exact z_) | (apply GX_block_on; exact z_) | refine GC_drawB (id := 6) [0] [2] [1, 3, 4, 5, 6, 7, 8, 9, 10] _ (by kernel_rfl) (List.Sublist.refl _) ?_ | ((first | apply GD_at | apply GL_at | apply GD_no | apply GL_no); exact rfl) | apply DFin_0 | (apply q1_; exact z_) | (apply q0_; exact z_) | (apply q2_; exact z_))
    all_goals exact GX_loop () ⟨rfl, rfl, rfl, rfl, rfl, rfl, rfl, rfl, trivial⟩ Nat.zero_lt_one trivial (fun w hw => hw.cut)
  intro _ _
  try simp only
  have v3 := hK.v3
  apply GC_seq
  refine GC_mid (α := VG) (fun s => [(10, s.1), (11, .int .i64 0), (8, .int .i64 (if k.boxes < 3 then (bestL k k.boxes).2 - (bestL k (k.boxes + 1)).2 else 0)), (9, .int .i64 (if k.boxes < 3 then 0 else 2)), (6, rh), (7, .int .i64 0), (3, rl), (4, .int .i64 ((bestL k k.boxes).2)), (5, .int .i64 0), (1, pt p1)]) (fun s => [(s.2.1, s.2.2), (Gh, wh), (Gl, wl), ((fun _ => True), w)]) (fun s => [(p1, .cells (wkC a b c d e f k).toArray 35)]) (fun s => Arr s.2.1 s.2.2 2 encR s.1 (timesV k (zeros k))) ?_ ?_
  · repeat' (first | apply s_ | ((first | apply JO_ob | apply GD_ex | apply GL_ex); exact rfl; first | exact ob1 | exact Ob_call rfl (fun w5 hw5 => c26W (hw5.wk mem_ h))) | ((first | apply b_ | apply a_ | apply i_); exact z_; intro _) | ((first | apply p_ | apply JO_yes | apply GC_t); exact z_) | (apply n_; exact z_) | (apply GC_f; exact z_) | (apply GX_block_on; exact z_) | refine GC_drawB (id := 6) [0] [2] [1, 3, 4, 5, 6, 7, 8, 9, 10] _ (by kernel_rfl) (List.Sublist.refl _) ?_ | ((first | apply GD_at | apply GL_at | apply GD_no | apply GL_no); exact rfl) | apply DFin_0 | (apply q1_; exact z_) | (apply q0_; exact z_) | (apply q2_; exact z_))
    refine JO_call (S := TwoW k) rfl rfl (fun w5 hw5 => c23W (hw5.wk mem_ h) ht) ?_
    rintro _ ua0 ub0 ha0 hb0 hk0 ⟨a0, b0, c0, hs0, d0, e0, f0, rfl, hW0⟩
    have iw01 := hW0.yard.fields.v1
    have iw02 := hW0.yard.vats.arr.v1
    have iw03 := hW0.yard.smps.v1
    have iw04 := hW0.beat.vats.v1
    have iw05 := hW0.beat.smps.v1
    have iw06 := hW0.ends.v1
    repeat' (first | apply s_ | ((first | apply JO_ob | apply GD_ex | apply GL_ex); exact rfl; first | exact ob1 | exact Ob_call rfl (fun w5 hw5 => c26W (hw5.wk mem_ h))) | ((first | apply b_ | apply a_ | apply i_); exact z_; intro _) | ((first | apply p_ | apply JO_yes | apply GC_t); exact z_) | (apply n_; exact z_) | (apply GC_f; exact z_) | (apply GX_block_on; exact z_) | refine GC_drawB (id := 6) [0] [2] [1, 3, 4, 5, 6, 7, 8, 9, 10] _ (by kernel_rfl) (List.Sublist.refl _) ?_ | ((first | apply GD_at | apply GL_at | apply GD_no | apply GL_no); exact rfl) | apply DFin_0 | (apply q1_; exact z_) | (apply q0_; exact z_) | (apply q2_; exact z_))
    refine JO_make (m := k.yard.vats.length) (x0 := (0 : Int)) (enc := encI) rfl rfl rfl (fun _ => rfl) rfl (by decide) (by omega) (by omega) ?_
    intro b47 ho47
    repeat' (first | apply s_ | ((first | apply JO_ob | apply GD_ex | apply GL_ex); exact rfl; first | exact ob1) | ((first | apply b_ | apply a_ | apply i_); exact z_; intro _) | ((first | apply p_ | apply JO_yes | apply GC_t); exact z_) | (apply n_; exact z_) | (apply GC_f; exact z_) | (apply GX_block_on; exact z_) | refine GC_drawB (id := 6) [0] [2] [1, 3, 4, 5, 6, 7, 8, 9, 10] _ (by kernel_rfl) (List.Sublist.refl _) ?_ | ((first | apply GD_at | apply GL_at | apply GD_no | apply GL_no); exact rfl) | apply DFin_0 | (apply q1_; exact z_) | (apply q0_; exact z_) | (apply q2_; exact z_))
    refine JO_call (S := RgsW (timesV k (zeros k))) rfl rfl (fun w5 hw5 => c33F (upk hw5 mem_ hW0) hf (hw5.litZ k mem_) (zeros_plan hK)) ?_
    rintro _ uc0 ud0 hc0 hd0 hl0 ⟨r0, rfl, hr0⟩
    have ir0 := hr0.v1
    have br0 := hr0.bound
    repeat' (first | apply s_ | ((first | apply JO_ob | apply GD_ex | apply GL_ex); exact rfl; first | exact ob1) | ((first | apply b_ | apply a_ | apply i_); exact z_; intro _) | ((first | apply p_ | apply JO_yes | apply GC_t); exact z_) | (apply n_; exact z_) | (apply GC_f; exact z_) | (apply GX_block_on; exact z_) | refine GC_drawB (id := 6) [0] [2] [1, 3, 4, 5, 6, 7, 8, 9, 10] _ (by kernel_rfl) (List.Sublist.refl _) ?_ | ((first | apply GD_at | apply GL_at | apply GD_no | apply GL_no); exact rfl) | apply DFin_0 | (apply q1_; exact z_) | (apply q0_; exact z_) | (apply q2_; exact z_))
    all_goals exact GX_loop (r0, (fun b => uc0.heap.size ≤ b), ud0) ⟨rfl, rfl, rfl, rfl, rfl, rfl, rfl, rfl, rfl, rfl, trivial⟩ Nat.zero_lt_one hr0 (fun w hw => hw.cut)
  rintro ⟨rp, Gp, wp⟩ hrp
  simp only at hrp ⊢
  have irp := hrp.v1
  have brp := hrp.bound
  have ll := best_len hK (b := k.boxes) (by have := hK.boxes; omega)
  have lh := mudsV_len k fun m => (hoursR k.force m : Int)
  have lp := timesV_len k (zeros k)
  apply GC_seq
  refine GC_mid (α := Unit) (fun s => [(10, rp), (11, .int .i64 0), (8, .int .i64 (if k.boxes < 3 then (bestL k k.boxes).2 - (bestL k (k.boxes + 1)).2 else 0)), (9, .int .i64 (if k.boxes < 3 then 0 else 2)), (6, rh), (7, .int .i64 0), (3, rl), (4, .int .i64 ((bestL k k.boxes).2)), (5, .int .i64 0), (1, pt p1)]) (fun s => [(Gp, wp), (Gh, wh), (Gl, wl), ((fun _ => True), w)]) (fun s => [(p1, .cells (wkC a b c d e f k).toArray 35)]) (fun s => True) ?_ ?_
  · repeat' (first | apply s_ | ((first | apply JO_ob | apply GD_ex | apply GL_ex); exact rfl; first | exact ob1 | exact Ob_call rfl (fun w5 hw5 => c26W (hw5.wk mem_ h))) | ((first | apply b_ | apply a_ | apply i_); exact z_; intro _) | ((first | apply p_ | apply JO_yes | apply GC_t); exact z_) | (apply n_; exact z_) | (apply GC_f; exact z_) | (apply GX_block_on; exact z_) | refine GC_drawB (id := 6) [0] [2] [1, 3, 4, 5, 6, 7, 8, 9, 10] _ (by kernel_rfl) (List.Sublist.refl _) ?_ | ((first | apply GD_at | apply GL_at | apply GD_no | apply GL_no); exact rfl) | apply DFin_0 | (apply q1_; exact z_) | (apply q0_; exact z_) | (apply q2_; exact z_))
    all_goals exact GX_loop () ⟨rfl, rfl, rfl, rfl, rfl, rfl, rfl, rfl, rfl, rfl, trivial⟩ Nat.zero_lt_one trivial (fun w hw => hw.cut)
  intro _ _
  try simp only
  apply GC_seq
  refine GC_mid (α := Unit) (fun s => [(12, .int .i64 0), (10, rp), (11, .int .i64 0), (8, .int .i64 (if k.boxes < 3 then (bestL k k.boxes).2 - (bestL k (k.boxes + 1)).2 else 0)), (9, .int .i64 (if k.boxes < 3 then 0 else 2)), (6, rh), (7, .int .i64 0), (3, rl), (4, .int .i64 ((bestL k k.boxes).2)), (5, .int .i64 0), (1, pt p1)]) (fun s => [(Gp, wp), (Gh, wh), (Gl, wl), ((fun _ => True), w)]) (fun s => [(p1, .cells (wkC a b c d e f k).toArray 35)]) (fun s => True) ?_ ?_
  · repeat' (first | apply s_ | ((first | apply JO_ob | apply GD_ex | apply GL_ex); exact rfl; first | exact ob1) | ((first | apply b_ | apply a_ | apply i_); exact z_; intro _) | ((first | apply p_ | apply JO_yes | apply GC_t); exact z_) | (apply n_; exact z_) | (apply GC_f; exact z_) | (apply GX_block_on; exact z_) | refine GC_drawB (id := 6) [0] [2] [1, 3, 4, 5, 6, 7, 8, 9, 10] _ (by kernel_rfl) (List.Sublist.refl _) ?_ | ((first | apply GD_at | apply GL_at | apply GD_no | apply GL_no); exact rfl) | apply DFin_0 | (apply q1_; exact z_) | (apply q0_; exact z_) | (apply q2_; exact z_))
    all_goals exact GX_loop () ⟨rfl, rfl, rfl, rfl, rfl, rfl, rfl, rfl, rfl, rfl, rfl, trivial⟩ Nat.zero_lt_one trivial (fun w hw => hw.cut)
  intro _ _
  try simp only
  apply GC_seq
  refine GC_mid (α := Unit) (fun s => [(12, .int .i64 (mostV k)), (10, rp), (11, .int .i64 0), (8, .int .i64 (if k.boxes < 3 then (bestL k k.boxes).2 - (bestL k (k.boxes + 1)).2 else 0)), (9, .int .i64 (if k.boxes < 3 then 0 else 2)), (6, rh), (7, .int .i64 0), (3, rl), (4, .int .i64 ((bestL k k.boxes).2)), (5, .int .i64 0), (1, pt p1)]) (fun s => [(Gp, wp), (Gh, wh), (Gl, wl), ((fun _ => True), w)]) (fun s => [(p1, .cells (wkC a b c d e f k).toArray 35)]) (fun s => True) ?_ ?_
  · repeat' (first | apply s_ | ((first | apply JO_ob | apply GD_ex | apply GL_ex); exact rfl; first | exact ob1) | ((first | apply b_ | apply a_ | apply i_); exact z_; intro _) | ((first | apply p_ | apply JO_yes | apply GC_t); exact z_) | (apply n_; exact z_) | (apply GC_f; exact z_) | (apply GX_block_on; exact z_) | refine GC_drawB (id := 6) [0] [2] [1, 3, 4, 5, 6, 7, 8, 9, 10] _ (by kernel_rfl) (List.Sublist.refl _) ?_ | ((first | apply GD_at | apply GL_at | apply GD_no | apply GL_no); exact rfl) | apply DFin_0 | (apply q1_; exact z_) | (apply q0_; exact z_) | (apply q2_; exact z_))
    refine GC_loop (α := Nat) (fun i => k.yard.vats.length - i) (fun i => [(12, .int .i64 (mostT k i)), (13, .int .i64 (i : Int)), (10, rp), (11, .int .i64 0), (8, .int .i64 (if k.boxes < 3 then (bestL k k.boxes).2 - (bestL k (k.boxes + 1)).2 else 0)), (9, .int .i64 (if k.boxes < 3 then 0 else 2)), (6, rh), (7, .int .i64 0), (3, rl), (4, .int .i64 ((bestL k k.boxes).2)), (5, .int .i64 0), (1, pt p1)]) (fun _ => [(Gp, wp), (Gh, wh), (Gl, wl), ((fun _ => True), w)]) (fun _ => [(p1, .cells (wkC a b c d e f k).toArray 35)]) (fun i => i ≤ k.yard.vats.length) 0 ⟨rfl, rfl, rfl, rfl, rfl, rfl, rfl, rfl, rfl, rfl, rfl, rfl, trivial⟩ (Nat.zero_le _) (fun w hw => hw.cut) ?_
    intro i hi
    by_cases hlt : i < k.yard.vats.length
    · have hli : i < (mudsV k fun m => (hoursR k.force m : Int)).length := by omega
      repeat' (first | apply s_ | ((first | apply JO_ob | apply GD_ex | apply GL_ex); exact rfl; first | exact ob1) | ((first | apply b_ | apply a_ | apply i_); exact z_; intro _) | ((first | apply p_ | apply JO_yes | apply GC_t); exact z_) | (apply n_; exact z_) | (apply GC_f; exact z_) | (apply GX_block_on; exact z_) | refine GC_drawB (id := 6) [0] [2] [1, 3, 4, 5, 6, 7, 8, 9, 10] _ (by kernel_rfl) (List.Sublist.refl _) ?_ | ((first | apply GD_at | apply GL_at | apply GD_no | apply GL_no); exact rfl) | apply DFin_0 | (apply q1_; exact z_) | (apply q0_; exact z_) | (apply q2_; exact z_))
      refine GX_loop (i + 1) ⟨?_, rfl, rfl, rfl, rfl, rfl, rfl, rfl, rfl, rfl, rfl, rfl, trivial⟩ (by omega) (by omega) (fun w hw => hw.cut)
      rw [mostT_succ hlt]; rfl
    · have e9 : mostT k i = mostV k := by rw [show i = k.yard.vats.length by omega]; exact mostT_all k
      rw [e9]
      repeat' (first | apply s_ | ((first | apply JO_ob | apply GD_ex | apply GL_ex); exact rfl; first | exact ob1) | ((first | apply b_ | apply a_ | apply i_); exact z_; intro _) | ((first | apply p_ | apply JO_yes | apply GC_t); exact z_) | (apply n_; exact z_) | (apply GC_f; exact z_) | (apply GX_block_on; exact z_) | refine GC_drawB (id := 6) [0] [2] [1, 3, 4, 5, 6, 7, 8, 9, 10] _ (by kernel_rfl) (List.Sublist.refl _) ?_ | ((first | apply GD_at | apply GL_at | apply GD_no | apply GL_no); exact rfl) | apply DFin_0 | (apply q1_; exact z_) | (apply q0_; exact z_) | (apply q2_; exact z_))
      exact GX_loop () ⟨rfl, rfl, rfl, rfl, rfl, rfl, rfl, rfl, rfl, rfl, rfl, trivial⟩ Nat.zero_lt_one trivial (fun w hw => hw.cut)
  intro _ _
  try simp only
  have hbx := hK.boxes
  have f1 := best_most hK hbx.1
  have f2 : k.yard.vats.length ≤ k.boxes → (bestL k k.boxes).2 = mostV k := fun hle => best_own hK hbx.1 hle
  have f3 : k.boxes = 1 → 0 < k.yard.vats.length → (bestL k k.boxes).2 = (nth (timesV k (zeros k)) (k.yard.vats.length - 1)).2 := fun h1 h2 => by rw [h1]; exact best_one hK h2
  have f4 := best_more hK (b := k.boxes) (b' := k.boxes + 1) hbx.1 (by omega)
  have f5 : k.yard.vats.length ≤ k.boxes → (bestL k (k.boxes + 1)).2 = mostV k := fun hle => best_own hK (by omega) (by omega)
  have f6 := best_bd hK (b := k.boxes) hbx.1
  have f7 := best_bd hK (b := k.boxes + 1) (by omega)
  apply GC_seq
  refine GC_mid (α := Unit) (fun s => [(12, .int .i64 (mostV k)), (10, rp), (11, .int .i64 0), (8, .int .i64 (if k.boxes < 3 then (bestL k k.boxes).2 - (bestL k (k.boxes + 1)).2 else 0)), (9, .int .i64 (if k.boxes < 3 then 0 else 2)), (6, rh), (7, .int .i64 0), (3, rl), (4, .int .i64 ((bestL k k.boxes).2)), (5, .int .i64 0), (1, pt p1)]) (fun s => [(Gp, wp), (Gh, wh), (Gl, wl), ((fun _ => True), w)]) (fun s => [(p1, .cells (wkC a b c d e f k).toArray 35)]) (fun s => True) ?_ ?_
  · by_cases hle : (k.yard.vats.length : Int) ≤ k.boxes
    · have f8 := f2 hle
      repeat' (first | apply s_ | ((first | apply JO_ob | apply GD_ex | apply GL_ex); exact rfl; first | exact ob1) | ((first | apply b_ | apply a_ | apply i_); exact z_; intro _) | ((first | apply p_ | apply JO_yes | apply GC_t); exact z_) | (apply n_; exact z_) | (apply GC_f; exact z_) | (apply GX_block_on; exact z_) | refine GC_drawB (id := 6) [0] [2] [1, 3, 4, 5, 6, 7, 8, 9, 10] _ (by kernel_rfl) (List.Sublist.refl _) ?_ | ((first | apply GD_at | apply GL_at | apply GD_no | apply GL_no); exact rfl) | apply DFin_0 | (apply q1_; exact z_) | (apply q0_; exact z_) | (apply q2_; exact z_))
      all_goals exact GX_loop () ⟨rfl, rfl, rfl, rfl, rfl, rfl, rfl, rfl, rfl, rfl, rfl, trivial⟩ Nat.zero_lt_one trivial (fun w hw => hw.cut)
    repeat' (first | apply s_ | ((first | apply JO_ob | apply GD_ex | apply GL_ex); exact rfl; first | exact ob1) | ((first | apply b_ | apply a_ | apply i_); exact z_; intro _) | ((first | apply p_ | apply JO_yes | apply GC_t); exact z_) | (apply n_; exact z_) | (apply GC_f; exact z_) | (apply GX_block_on; exact z_) | refine GC_drawB (id := 6) [0] [2] [1, 3, 4, 5, 6, 7, 8, 9, 10] _ (by kernel_rfl) (List.Sublist.refl _) ?_ | ((first | apply GD_at | apply GL_at | apply GD_no | apply GL_no); exact rfl) | apply DFin_0 | (apply q1_; exact z_) | (apply q0_; exact z_) | (apply q2_; exact z_))
    all_goals exact GX_loop () ⟨rfl, rfl, rfl, rfl, rfl, rfl, rfl, rfl, rfl, rfl, rfl, trivial⟩ Nat.zero_lt_one trivial (fun w hw => hw.cut)
  intro _ _
  try simp only
  by_cases hb : k.boxes < 3
  · rw [if_pos hb, if_pos hb]
    apply GC_seq
    refine GC_mid (α := Unit) (fun s => [(12, .int .i64 (mostV k)), (10, rp), (11, .int .i64 0), (8, .int .i64 ((bestL k k.boxes).2 - (bestL k (k.boxes + 1)).2)), (9, .int .i64 0), (6, rh), (7, .int .i64 0), (3, rl), (4, .int .i64 ((bestL k k.boxes).2)), (5, .int .i64 0), (1, pt p1)]) (fun s => [(Gp, wp), (Gh, wh), (Gl, wl), ((fun _ => True), w)]) (fun s => [(p1, .cells (wkC a b c d e f k).toArray 35)]) (fun s => True) ?_ ?_
    · by_cases hcc : k.boxes = 1 ∧ 0 < k.yard.vats.length
      · have f9 := f3 hcc.1 hcc.2
        have hli : k.yard.vats.length - 1 < (timesV k (zeros k)).length := by omega
        have hi2 : ((((timesV k (zeros k)).length : Nat) : Int) - 1).toNat = k.yard.vats.length - 1 := by omega
        rw [← hi2] at f9
        repeat' (first | apply s_ | ((first | apply JO_ob | apply GD_ex | apply GL_ex); exact rfl; first | exact ob1) | ((first | apply b_ | apply a_ | apply i_); exact z_; intro _) | ((first | apply p_ | apply JO_yes | apply GC_t); exact z_) | (apply n_; exact z_) | (apply GC_f; exact z_) | (apply GX_block_on; exact z_) | refine GC_drawB (id := 6) [0] [2] [1, 3, 4, 5, 6, 7, 8, 9, 10] _ (by kernel_rfl) (List.Sublist.refl _) ?_ | ((first | apply GD_at | apply GL_at | apply GD_no | apply GL_no); exact rfl) | apply DFin_0 | (apply q1_; exact z_) | (apply q0_; exact z_) | (apply q2_; exact z_))
        all_goals exact GX_loop () ⟨rfl, rfl, rfl, rfl, rfl, rfl, rfl, rfl, rfl, rfl, rfl, trivial⟩ Nat.zero_lt_one trivial (fun w hw => hw.cut)
      by_cases hc1 : k.boxes = 1
      · have hn0 : k.yard.vats.length = 0 := by omega
        repeat' (first | apply s_ | ((first | apply JO_ob | apply GD_ex | apply GL_ex); exact rfl; first | exact ob1) | ((first | apply b_ | apply a_ | apply i_); exact z_; intro _) | ((first | apply p_ | apply JO_yes | apply GC_t); exact z_) | (apply n_; exact z_) | (apply GC_f; exact z_) | (apply GX_block_on; exact z_) | refine GC_drawB (id := 6) [0] [2] [1, 3, 4, 5, 6, 7, 8, 9, 10] _ (by kernel_rfl) (List.Sublist.refl _) ?_ | ((first | apply GD_at | apply GL_at | apply GD_no | apply GL_no); exact rfl) | apply DFin_0 | (apply q1_; exact z_) | (apply q0_; exact z_) | (apply q2_; exact z_))
        all_goals exact GX_loop () ⟨rfl, rfl, rfl, rfl, rfl, rfl, rfl, rfl, rfl, rfl, rfl, trivial⟩ Nat.zero_lt_one trivial (fun w hw => hw.cut)
      repeat' (first | apply s_ | ((first | apply JO_ob | apply GD_ex | apply GL_ex); exact rfl; first | exact ob1) | ((first | apply b_ | apply a_ | apply i_); exact z_; intro _) | ((first | apply p_ | apply JO_yes | apply GC_t); exact z_) | (apply n_; exact z_) | (apply GC_f; exact z_) | (apply GX_block_on; exact z_) | refine GC_drawB (id := 6) [0] [2] [1, 3, 4, 5, 6, 7, 8, 9, 10] _ (by kernel_rfl) (List.Sublist.refl _) ?_ | ((first | apply GD_at | apply GL_at | apply GD_no | apply GL_no); exact rfl) | apply DFin_0 | (apply q1_; exact z_) | (apply q0_; exact z_) | (apply q2_; exact z_))
      all_goals exact GX_loop () ⟨rfl, rfl, rfl, rfl, rfl, rfl, rfl, rfl, rfl, rfl, rfl, trivial⟩ Nat.zero_lt_one trivial (fun w hw => hw.cut)
    intro _ _
    try simp only
    apply GC_seq
    refine GC_mid (α := Unit) (fun s => [(12, .int .i64 (mostV k)), (10, rp), (11, .int .i64 0), (8, .int .i64 ((bestL k k.boxes).2 - (bestL k (k.boxes + 1)).2)), (9, .int .i64 0), (6, rh), (7, .int .i64 0), (3, rl), (4, .int .i64 ((bestL k k.boxes).2)), (5, .int .i64 0), (1, pt p1)]) (fun s => [(Gp, wp), (Gh, wh), (Gl, wl), ((fun _ => True), w)]) (fun s => [(p1, .cells (wkC a b c d e f k).toArray 35)]) (fun s => True) ?_ ?_
    · repeat' (first | apply s_ | ((first | apply JO_ob | apply GD_ex | apply GL_ex); exact rfl; first | exact ob1) | ((first | apply b_ | apply a_ | apply i_); exact z_; intro _) | ((first | apply p_ | apply JO_yes | apply GC_t); exact z_) | (apply n_; exact z_) | (apply GC_f; exact z_) | (apply GX_block_on; exact z_) | refine GC_drawB (id := 6) [0] [2] [1, 3, 4, 5, 6, 7, 8, 9, 10] _ (by kernel_rfl) (List.Sublist.refl _) ?_ | ((first | apply GD_at | apply GL_at | apply GD_no | apply GL_no); exact rfl) | apply DFin_0 | (apply q1_; exact z_) | (apply q0_; exact z_) | (apply q2_; exact z_))
      all_goals exact GX_loop () ⟨rfl, rfl, rfl, rfl, rfl, rfl, rfl, rfl, rfl, rfl, rfl, trivial⟩ Nat.zero_lt_one trivial (fun w hw => hw.cut)
    intro _ _
    try simp only
    apply GC_seq
    refine GC_mid (α := Nat × Value × Value × Value × List Value × Value × Value × Value × (Nat → Prop) × World) (fun s => [(15, pt s.1), (12, .int .i64 (mostV k)), (10, rp), (11, .int .i64 0), (8, .int .i64 ((bestL k k.boxes).2 - (bestL k (k.boxes + 1)).2)), (9, .int .i64 0), (6, rh), (7, .int .i64 0), (3, rl), (4, .int .i64 ((bestL k k.boxes).2)), (5, .int .i64 0), (1, pt p1)]) (fun s => [(s.2.2.2.2.2.2.2.2.1, s.2.2.2.2.2.2.2.2.2), (Gp, wp), (Gh, wh), (Gl, wl), ((fun _ => True), w)]) (fun s => [(s.1, .cells (wkC s.2.1 s.2.2.1 s.2.2.2.1 s.2.2.2.2.2.1 s.2.2.2.2.2.2.1 s.2.2.2.2.2.2.2.1 k).toArray 52), (p1, .cells (wkC a b c d e f k).toArray 35)]) (fun s => WkA s.2.2.2.2.2.2.2.2.1 s.2.2.2.2.2.2.2.2.2 s.2.1 s.2.2.1 s.2.2.2.1 s.2.2.2.2.1 s.2.2.2.2.2.1 s.2.2.2.2.2.2.1 s.2.2.2.2.2.2.2.1 k) ?_ ?_
    · repeat' (first | apply s_ | ((first | apply JO_ob | apply GD_ex | apply GL_ex); exact rfl; first | exact ob1) | ((first | apply b_ | apply a_ | apply i_); exact z_; intro _) | ((first | apply p_ | apply JO_yes | apply GC_t); exact z_) | (apply n_; exact z_) | (apply GC_f; exact z_) | (apply GX_block_on; exact z_) | refine GC_drawB (id := 6) [0] [2] [1, 3, 4, 5, 6, 7, 8, 9, 10] _ (by kernel_rfl) (List.Sublist.refl _) ?_ | ((first | apply GD_at | apply GL_at | apply GD_no | apply GL_no); exact rfl) | apply DFin_0 | (apply q1_; exact z_) | (apply q0_; exact z_) | (apply q2_; exact z_))
      refine JO_call (S := TwoW k) rfl rfl (fun w5 hw5 => c23W (hw5.wk mem_ h) ht) ?_
      rintro _ ua0 ub0 ha0 hb0 hk0 ⟨a0, b0, c0, hs0, d0, e0, f0, rfl, hW0⟩
      have iw01 := hW0.yard.fields.v1
      have iw02 := hW0.yard.vats.arr.v1
      have iw03 := hW0.yard.smps.v1
      have iw04 := hW0.beat.vats.v1
      have iw05 := hW0.beat.smps.v1
      have iw06 := hW0.ends.v1
      repeat' (first | apply s_ | ((first | apply JO_ob | apply GD_ex | apply GL_ex); exact rfl; first | exact ob1) | ((first | apply b_ | apply a_ | apply i_); exact z_; intro _) | ((first | apply p_ | apply JO_yes | apply GC_t); exact z_) | (apply n_; exact z_) | (apply GC_f; exact z_) | (apply GX_block_on; exact z_) | refine GC_drawB (id := 6) [0] [2] [1, 3, 4, 5, 6, 7, 8, 9, 10] _ (by kernel_rfl) (List.Sublist.refl _) ?_ | ((first | apply GD_at | apply GL_at | apply GD_no | apply GL_no); exact rfl) | apply DFin_0 | (apply q1_; exact z_) | (apply q0_; exact z_) | (apply q2_; exact z_))
      exact GX_loop (_, a0, b0, c0, hs0, d0, e0, f0, (fun b => ua0.heap.size ≤ b), ub0) ⟨rfl, rfl, rfl, rfl, rfl, rfl, rfl, rfl, rfl, rfl, rfl, rfl, trivial⟩ Nat.zero_lt_one hW0 (fun w hw => hw.cut)
    rintro ⟨p15, a1, b1, c1, hs1, d1, e1, f1, Gx, wx⟩ hWx
    simp only at hWx ⊢
    have ix0 := hWx.yard.fields.v1
    have ix1 := hWx.yard.vats.arr.v1
    have ix2 := hWx.yard.smps.v1
    have ix3 := hWx.beat.vats.v1
    have ix4 := hWx.beat.smps.v1
    have ix5 := hWx.ends.v1
    apply GC_seq
    refine GC_mid (α := Unit) (fun s => [(15, pt p15), (12, .int .i64 (mostV k)), (10, rp), (11, .int .i64 0), (8, .int .i64 ((bestL k k.boxes).2 - (bestL k (k.boxes + 1)).2)), (9, .int .i64 0), (6, rh), (7, .int .i64 0), (3, rl), (4, .int .i64 ((bestL k k.boxes).2)), (5, .int .i64 0), (1, pt p1)]) (fun s => [(Gx, wx), (Gp, wp), (Gh, wh), (Gl, wl), ((fun _ => True), w)]) (fun s => [(p15, .cells (wkC a1 b1 c1 d1 e1 f1 (boxK k (k.boxes + 1))).toArray 52), (p1, .cells (wkC a b c d e f k).toArray 35)]) (fun s => True) ?_ ?_
    · repeat' (first | apply s_ | ((first | apply JO_ob | apply GD_ex | apply GL_ex); exact rfl; first | exact ob1) | ((first | apply b_ | apply a_ | apply i_); exact z_; intro _) | ((first | apply p_ | apply JO_yes | apply GC_t); exact z_) | (apply n_; exact z_) | (apply GC_f; exact z_) | (apply GX_block_on; exact z_) | refine GC_drawB (id := 6) [0] [2] [1, 3, 4, 5, 6, 7, 8, 9, 10] _ (by kernel_rfl) (List.Sublist.refl _) ?_ | ((first | apply GD_at | apply GL_at | apply GD_no | apply GL_no); exact rfl) | apply DFin_0 | (apply q1_; exact z_) | (apply q0_; exact z_) | (apply q2_; exact z_))
      all_goals exact GX_loop () ⟨rfl, rfl, rfl, rfl, rfl, rfl, rfl, rfl, rfl, rfl, rfl, rfl, trivial⟩ Nat.zero_lt_one trivial (fun w hw => hw.cut)
    intro _ _
    try simp only
    have hfx : fault9 (boxK k (k.boxes + 1)) = 0 := fault_box hf (by omega)
    have hWy : WkA Gx wx a1 b1 c1 hs1 d1 e1 f1 (boxK k (k.boxes + 1)) := ⟨hWx.yard, hWx.beat, hWx.ends⟩
    apply GC_seq
    refine GC_mid (α := VG) (fun s => [(17, .int .i64 (bestL k (k.boxes + 1)).2), (18, .int .i64 0), (15, pt p15), (12, .int .i64 (mostV k)), (10, rp), (11, .int .i64 0), (8, .int .i64 ((bestL k k.boxes).2 - (bestL k (k.boxes + 1)).2)), (9, .int .i64 0), (6, rh), (7, .int .i64 0), (3, rl), (4, .int .i64 ((bestL k k.boxes).2)), (5, .int .i64 0), (1, pt p1)]) (fun s => [(s.2.1, s.2.2), (Gx, wx), (Gp, wp), (Gh, wh), (Gl, wl), ((fun _ => True), w)]) (fun s => [(p15, .cells (wkC a1 b1 c1 d1 e1 f1 (boxK k (k.boxes + 1))).toArray 52), (p1, .cells (wkC a b c d e f k).toArray 35)]) (fun s => Arr s.2.1 s.2.2 1 encI s.1 (bestL k (k.boxes + 1)).1) ?_ ?_
    · repeat' (first | apply s_ | ((first | apply JO_ob | apply GD_ex | apply GL_ex); exact rfl; first | exact ob1) | ((first | apply b_ | apply a_ | apply i_); exact z_; intro _) | ((first | apply p_ | apply JO_yes | apply GC_t); exact z_) | (apply n_; exact z_) | (apply GC_f; exact z_) | (apply GX_block_on; exact z_) | refine GC_drawB (id := 6) [0] [2] [1, 3, 4, 5, 6, 7, 8, 9, 10] _ (by kernel_rfl) (List.Sublist.refl _) ?_ | ((first | apply GD_at | apply GL_at | apply GD_no | apply GL_no); exact rfl) | apply DFin_0 | (apply q1_; exact z_) | (apply q0_; exact z_) | (apply q2_; exact z_))
      refine JO_call (S := BestW (bestL k (k.boxes + 1)).1 (bestL k (k.boxes + 1)).2) rfl rfl (fun w5 hw5 => c54F (k := boxK k (k.boxes + 1)) (upk hw5 mem_ hWy) hfx) ?_
      rintro _ uc0 ud0 hc0 hd0 hl0 ⟨r0, rfl, hr0⟩
      have ir0 := hr0.v1
      repeat' (first | apply s_ | ((first | apply JO_ob | apply GD_ex | apply GL_ex); exact rfl; first | exact ob1) | ((first | apply b_ | apply a_ | apply i_); exact z_; intro _) | ((first | apply p_ | apply JO_yes | apply GC_t); exact z_) | (apply n_; exact z_) | (apply GC_f; exact z_) | (apply GX_block_on; exact z_) | refine GC_drawB (id := 6) [0] [2] [1, 3, 4, 5, 6, 7, 8, 9, 10] _ (by kernel_rfl) (List.Sublist.refl _) ?_ | ((first | apply GD_at | apply GL_at | apply GD_no | apply GL_no); exact rfl) | apply DFin_0 | (apply q1_; exact z_) | (apply q0_; exact z_) | (apply q2_; exact z_))
      all_goals exact GX_loop (r0, (fun b => uc0.heap.size ≤ b), ud0) ⟨rfl, rfl, rfl, rfl, rfl, rfl, rfl, rfl, rfl, rfl, rfl, rfl, rfl, rfl, trivial⟩ Nat.zero_lt_one hr0 (fun w hw => hw.cut)
    rintro ⟨rm, Gm, wm⟩ hrm
    simp only at hrm ⊢
    have irm := hrm.v1
    have brm := hrm.bound
    by_cases hle : (k.yard.vats.length : Int) ≤ k.boxes
    · have f8 := f2 hle
      have f9 := f5 hle
      repeat' (first | apply s_ | ((first | apply JO_ob | apply GD_ex | apply GL_ex); exact rfl; first | exact ob1 | exact Ob_call rfl (fun w5 _ => c21 w5)) | ((first | apply b_ | apply a_ | apply i_); exact z_; intro _) | ((first | apply p_ | apply JO_yes | apply GC_t); exact z_) | (apply n_; exact z_) | (apply GC_f; exact z_) | (apply GX_block_on; exact z_) | refine GC_drawB (id := 6) [0] [2] [1, 3, 4, 5, 6, 7, 8, 9, 10] _ (by kernel_rfl) (List.Sublist.refl _) ?_ | ((first | apply GD_at | apply GL_at | apply GD_no | apply GL_no); exact rfl) | apply DFin_0 | (apply q1_; exact z_) | (apply q0_; exact z_) | (apply q2_; exact z_))
      exact GX_ex rfl rfl mem_ rfl
    · repeat' (first | apply s_ | ((first | apply JO_ob | apply GD_ex | apply GL_ex); exact rfl; first | exact ob1 | exact Ob_call rfl (fun w5 _ => c21 w5)) | ((first | apply b_ | apply a_ | apply i_); exact z_; intro _) | ((first | apply p_ | apply JO_yes | apply GC_t); exact z_) | (apply n_; exact z_) | (apply GC_f; exact z_) | (apply GX_block_on; exact z_) | refine GC_drawB (id := 6) [0] [2] [1, 3, 4, 5, 6, 7, 8, 9, 10] _ (by kernel_rfl) (List.Sublist.refl _) ?_ | ((first | apply GD_at | apply GL_at | apply GD_no | apply GL_no); exact rfl) | apply DFin_0 | (apply q1_; exact z_) | (apply q0_; exact z_) | (apply q2_; exact z_))
      exact GX_ex rfl rfl mem_ rfl
  rw [if_neg hb, if_neg hb]
  apply GC_seq
  refine GC_mid (α := Unit) (fun s => [(12, .int .i64 (mostV k)), (10, rp), (11, .int .i64 0), (8, .int .i64 0), (9, .int .i64 2), (6, rh), (7, .int .i64 0), (3, rl), (4, .int .i64 ((bestL k k.boxes).2)), (5, .int .i64 0), (1, pt p1)]) (fun s => [(Gp, wp), (Gh, wh), (Gl, wl), ((fun _ => True), w)]) (fun s => [(p1, .cells (wkC a b c d e f k).toArray 35)]) (fun s => True) ?_ ?_
  · repeat' (first | apply s_ | ((first | apply JO_ob | apply GD_ex | apply GL_ex); exact rfl; first | exact ob1) | ((first | apply b_ | apply a_ | apply i_); exact z_; intro _) | ((first | apply p_ | apply JO_yes | apply GC_t); exact z_) | (apply n_; exact z_) | (apply GC_f; exact z_) | (apply GX_block_on; exact z_) | refine GC_drawB (id := 6) [0] [2] [1, 3, 4, 5, 6, 7, 8, 9, 10] _ (by kernel_rfl) (List.Sublist.refl _) ?_ | ((first | apply GD_at | apply GL_at | apply GD_no | apply GL_no); exact rfl) | apply DFin_0 | (apply q1_; exact z_) | (apply q0_; exact z_) | (apply q2_; exact z_))
    all_goals exact GX_loop () ⟨rfl, rfl, rfl, rfl, rfl, rfl, rfl, rfl, rfl, rfl, rfl, trivial⟩ Nat.zero_lt_one trivial (fun w hw => hw.cut)
  intro _ _
  try simp only
  repeat' (first | apply s_ | ((first | apply JO_ob | apply GD_ex | apply GL_ex); exact rfl; first | exact ob1 | exact Ob_call rfl (fun w5 _ => c21 w5)) | ((first | apply b_ | apply a_ | apply i_); exact z_; intro _) | ((first | apply p_ | apply JO_yes | apply GC_t); exact z_) | (apply n_; exact z_) | (apply GC_f; exact z_) | (apply GX_block_on; exact z_) | refine GC_drawB (id := 6) [0] [2] [1, 3, 4, 5, 6, 7, 8, 9, 10] _ (by kernel_rfl) (List.Sublist.refl _) ?_ | ((first | apply GD_at | apply GL_at | apply GD_no | apply GL_no); exact rfl) | apply DFin_0 | (apply q1_; exact z_) | (apply q0_; exact z_) | (apply q2_; exact z_))
  exact GX_ex rfl rfl mem_ rfl
theorem law10 (h : WkA All w a b c hs d e f k) : Ex 10 [wkV a b c d e f k] w (.bool true) := by
  have i1 := h.yard.fields.v1
  have i2 := h.yard.vats.arr.v1
  have i3 := h.yard.smps.v1
  have i4 := h.beat.vats.v1
  have i5 := h.beat.smps.v1
  have i6 := h.ends.v1
  cases hr : readyW k
  · refine Rt_of Tryz.func10 rfl Tryz.ntmps10 rfl ?_
    repeat' (first | apply s_ | ((first | apply JO_ob | apply GD_ex | apply GL_ex); exact rfl; first | exact ob1 | exact Ob_call rfl (fun w5 hw5 => c48F (hw5.wk mem_ h) hr) | exact Ob_call rfl (fun w5 _ => c21 w5)) | ((first | apply b_ | apply a_ | apply i_); exact z_; intro _) | ((first | apply p_ | apply JO_yes | apply GC_t); exact z_) | (apply n_; exact z_) | (apply GC_f; exact z_) | (apply GX_block_on; exact z_) | refine GC_drawB (id := 6) [0] [2] [1, 3, 4, 5, 6, 7, 8, 9, 10] _ (by kernel_rfl) (List.Sublist.refl _) ?_ | ((first | apply GD_at | apply GL_at | apply GD_no | apply GL_no); exact rfl) | apply DFin_0 | (apply q1_; exact z_) | (apply q0_; exact z_) | (apply q2_; exact z_))
    exact GX_ex rfl rfl mem_ rfl
  exact law10_good h hr
end
end Go.Proofs.YtkbaaikidhbfmaaGreat
