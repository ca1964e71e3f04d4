/- The law PressPlays of the chapter 09 returns true for every input, and each argument reads afterwards as it read before. No condition. -/
import Derived.Test.YtkbaaikidhbfmaaGreatB5
/- The walk of the law PressPlays. No statement is proved here. -/
set_option linter.unusedVariables false
set_option linter.unusedSimpArgs false
namespace Go.Proofs.YtkbaaikidhbfmaaGreat
open Go.RowKit
section
variable {w : World} {a b c d e f pv : Value} {hs : List Value} {k : Wk} {l : List Int}
set_option maxHeartbeats 2000000 in
theorem law5_good (h : WkA All w a b c hs d e f k) (hl : Arr All w 1 encI pv l) (ht : thinW k = true) (h30 : l.length ≤ 30) (hf : fault9 k = 0) (hp : planP k l = true) : Ex 5 [wkV a b c d e f k, pv] w (.bool true) := by
  have i1 := h.yard.fields.v1
  have i2 := h.yard.vats.arr.v1
  have i3 := h.yard.smps.v1
  have i4 := h.beat.vats.v1
  have i5 := h.beat.smps.v1
  have i6 := h.ends.v1
  have i7 := hl.v1
  have bl := hl.bound
  have hK := okK_of hf
  have v3 := hK.v3
  have hll := planP_len hp
  refine Rt_of Tryz.func5 rfl Tryz.ntmps5 rfl ?_
  apply GC_seq
  refine GC_mid (α := Nat) (fun s => [(2, pt s), (1, pv)]) (fun s => [((fun _ => True), w)]) (fun s => [(s, .cells (wkC a b c d e f k).toArray 35)]) (fun s => True) ?_ ?_
  · repeat' (first | apply s_ | ((first | apply JO_ob | apply GD_ex | apply GL_ex); exact rfl; first | exact ob1) | ((first | apply b_ | apply a_ | apply i_); exact z_; intro _) | ((first | apply p_ | apply JO_yes | apply GC_t); exact z_) | (apply n_; exact z_) | (apply GC_f; exact z_) | (apply GX_block_on; exact z_) | refine GC_drawA (id := 5) [0, 1, 2, 3] [4, 5, 6, 7, 8, 9] (by kernel_rfl) ?_ | refine GC_drawA (id := 13) [0, 1, 2, 3, 4, 5, 6, 7, 8, 9, 10] [] (by kernel_rfl) ?_ | ((first | apply GD_at | apply GL_at | apply GD_no | apply GL_no); exact rfl) | apply DFin_0 | (apply q1_; exact z_) | (apply q0_; exact z_) | (apply q2_; exact z_))
    all_goals exact GX_loop _ ⟨rfl, rfl, trivial⟩ Nat.zero_lt_one trivial (fun w hw => hw.cut)
  intro p2 _
  try simp only
  apply GC_seq
  refine GC_mid (α := Unit) (fun s => [(2, pt p2), (1, pv)]) (fun s => [((fun _ => True), w)]) (fun s => [(p2, .cells (wkC a b c d e f k).toArray 35)]) (fun s => True) ?_ ?_
  · repeat' (first | apply s_ | ((first | apply JO_ob | apply GD_ex | apply GL_ex); exact rfl; first | exact ob1 | exact Ob_call rfl (fun w5 hw5 => c20T (hw5.wk mem_ h) ht)) | ((first | apply b_ | apply a_ | apply i_); exact z_; intro _) | ((first | apply p_ | apply JO_yes | apply GC_t); exact z_) | (apply n_; exact z_) | (apply GC_f; exact z_) | (apply GX_block_on; exact z_) | refine GC_drawA (id := 5) [0, 1, 2, 3] [4, 5, 6, 7, 8, 9] (by kernel_rfl) ?_ | refine GC_drawA (id := 13) [0, 1, 2, 3, 4, 5, 6, 7, 8, 9, 10] [] (by kernel_rfl) ?_ | ((first | apply GD_at | apply GL_at | apply GD_no | apply GL_no); exact rfl) | apply DFin_0 | (apply q1_; exact z_) | (apply q0_; exact z_) | (apply q2_; exact z_))
    all_goals exact GX_loop () ⟨rfl, rfl, trivial⟩ Nat.zero_lt_one trivial (fun w hw => hw.cut)
  intro _ _
  try simp only
  apply GC_seq
  refine GC_mid (α := VG) (fun s => [(5, s.1), (6, .int .i64 0), (2, pt p2), (1, pv)]) (fun s => [(s.2.1, s.2.2), ((fun _ => True), w)]) (fun s => [(p2, .cells (wkC a b c d e f k).toArray 35)]) (fun s => Arr s.2.1 s.2.2 2 encR s.1 (timesV k l)) ?_ ?_
  · repeat' (first | apply s_ | ((first | apply JO_ob | apply GD_ex | apply GL_ex); exact rfl; first | exact ob1) | ((first | apply b_ | apply a_ | apply i_); exact z_; intro _) | ((first | apply p_ | apply JO_yes | apply GC_t); exact z_) | (apply n_; exact z_) | (apply GC_f; exact z_) | (apply GX_block_on; exact z_) | refine GC_drawA (id := 5) [0, 1, 2, 3] [4, 5, 6, 7, 8, 9] (by kernel_rfl) ?_ | refine GC_drawA (id := 13) [0, 1, 2, 3, 4, 5, 6, 7, 8, 9, 10] [] (by kernel_rfl) ?_ | ((first | apply GD_at | apply GL_at | apply GD_no | apply GL_no); exact rfl) | apply DFin_0 | (apply q1_; exact z_) | (apply q0_; exact z_) | (apply q2_; exact z_))
    refine JO_call (S := TwoW k) rfl rfl (fun w5 hw5 => c23W (hw5.wk mem_ h) ht) ?_
    rintro _ ua0 ub0 ha0 hb0 hk0 ⟨a0, b0, c0, hs0, d0, e0, f0, rfl, hW0⟩
    have iw01 := hW0.yard.fields.v1
    have iw02 := hW0.yard.vats.arr.v1
    have iw03 := hW0.yard.smps.v1
    have iw04 := hW0.beat.vats.v1
    have iw05 := hW0.beat.smps.v1
    have iw06 := hW0.ends.v1
    repeat' (first | apply s_ | ((first | apply JO_ob | apply GD_ex | apply GL_ex); exact rfl; first | exact ob1) | ((first | apply b_ | apply a_ | apply i_); exact z_; intro _) | ((first | apply p_ | apply JO_yes | apply GC_t); exact z_) | (apply n_; exact z_) | (apply GC_f; exact z_) | (apply GX_block_on; exact z_) | refine GC_drawA (id := 5) [0, 1, 2, 3] [4, 5, 6, 7, 8, 9] (by kernel_rfl) ?_ | refine GC_drawA (id := 13) [0, 1, 2, 3, 4, 5, 6, 7, 8, 9, 10] [] (by kernel_rfl) ?_ | ((first | apply GD_at | apply GL_at | apply GD_no | apply GL_no); exact rfl) | apply DFin_0 | (apply q1_; exact z_) | (apply q0_; exact z_) | (apply q2_; exact z_))
    refine JO_call (S := ListW l) rfl rfl (fun w5 hw5 => c34 _ l w5 (hw5.arr mem_ hl) (by omega)) ?_
    rintro _ uc1 ud1 hc1 hd1 hl1 hq1
    have iq1 := hq1.v1
    repeat' (first | apply s_ | ((first | apply JO_ob | apply GD_ex | apply GL_ex); exact rfl; first | exact ob1) | ((first | apply b_ | apply a_ | apply i_); exact z_; intro _) | ((first | apply p_ | apply JO_yes | apply GC_t); exact z_) | (apply n_; exact z_) | (apply GC_f; exact z_) | (apply GX_block_on; exact z_) | refine GC_drawA (id := 5) [0, 1, 2, 3] [4, 5, 6, 7, 8, 9] (by kernel_rfl) ?_ | refine GC_drawA (id := 13) [0, 1, 2, 3, 4, 5, 6, 7, 8, 9, 10] [] (by kernel_rfl) ?_ | ((first | apply GD_at | apply GL_at | apply GD_no | apply GL_no); exact rfl) | apply DFin_0 | (apply q1_; exact z_) | (apply q0_; exact z_) | (apply q2_; exact z_))
    refine JO_call (S := RgsW (timesV k l)) rfl rfl (fun w5 hw5 => c33F (upk hw5 mem_ hW0) hf (up hw5 (.head _) hq1) hp) ?_
    rintro _ uc0 ud0 hc0 hd0 hl0 ⟨r0, rfl, hr0⟩
    have ir0 := hr0.v1
    have br0 := hr0.bound
    repeat' (first | apply s_ | ((first | apply JO_ob | apply GD_ex | apply GL_ex); exact rfl; first | exact ob1) | ((first | apply b_ | apply a_ | apply i_); exact z_; intro _) | ((first | apply p_ | apply JO_yes | apply GC_t); exact z_) | (apply n_; exact z_) | (apply GC_f; exact z_) | (apply GX_block_on; exact z_) | refine GC_drawA (id := 5) [0, 1, 2, 3] [4, 5, 6, 7, 8, 9] (by kernel_rfl) ?_ | refine GC_drawA (id := 13) [0, 1, 2, 3, 4, 5, 6, 7, 8, 9, 10] [] (by kernel_rfl) ?_ | ((first | apply GD_at | apply GL_at | apply GD_no | apply GL_no); exact rfl) | apply DFin_0 | (apply q1_; exact z_) | (apply q0_; exact z_) | (apply q2_; exact z_))
    all_goals exact GX_loop (r0, (fun b => uc0.heap.size ≤ b), ud0) ⟨rfl, rfl, rfl, rfl, trivial⟩ Nat.zero_lt_one hr0 (fun w hw => hw.cut)
  rintro ⟨rp, Gp, wp⟩ hrp
  simp only at hrp ⊢
  have irp := hrp.v1
  have brp := hrp.bound
  apply GC_seq
  refine GC_mid (α := Unit) (fun s => [(7, .int .i64 (lateR k l).1), (8, .int .i64 (lateR k l).2), (5, rp), (6, .int .i64 0), (2, pt p2), (1, pv)]) (fun s => [(Gp, wp), ((fun _ => True), w)]) (fun s => [(p2, .cells (wkC a b c d e f k).toArray 35)]) (fun s => True) ?_ ?_
  · repeat' (first | apply s_ | ((first | apply JO_ob | apply GD_ex | apply GL_ex); exact rfl; first | exact ob1) | ((first | apply b_ | apply a_ | apply i_); exact z_; intro _) | ((first | apply p_ | apply JO_yes | apply GC_t); exact z_) | (apply n_; exact z_) | (apply GC_f; exact z_) | (apply GX_block_on; exact z_) | refine GC_drawA (id := 5) [0, 1, 2, 3] [4, 5, 6, 7, 8, 9] (by kernel_rfl) ?_ | refine GC_drawA (id := 13) [0, 1, 2, 3, 4, 5, 6, 7, 8, 9, 10] [] (by kernel_rfl) ?_ | ((first | apply GD_at | apply GL_at | apply GD_no | apply GL_no); exact rfl) | apply DFin_0 | (apply q1_; exact z_) | (apply q0_; exact z_) | (apply q2_; exact z_))
    refine JO_call (S := TwoW k) rfl rfl (fun w5 hw5 => c23W (hw5.wk mem_ h) ht) ?_
    rintro _ ua0 ub0 ha0 hb0 hk0 ⟨a0, b0, c0, hs0, d0, e0, f0, rfl, hW0⟩
    have iw01 := hW0.yard.fields.v1
    have iw02 := hW0.yard.vats.arr.v1
    have iw03 := hW0.yard.smps.v1
    have iw04 := hW0.beat.vats.v1
    have iw05 := hW0.beat.smps.v1
    have iw06 := hW0.ends.v1
    repeat' (first | apply s_ | ((first | apply JO_ob | apply GD_ex | apply GL_ex); exact rfl; first | exact ob1) | ((first | apply b_ | apply a_ | apply i_); exact z_; intro _) | ((first | apply p_ | apply JO_yes | apply GC_t); exact z_) | (apply n_; exact z_) | (apply GC_f; exact z_) | (apply GX_block_on; exact z_) | refine GC_drawA (id := 5) [0, 1, 2, 3] [4, 5, 6, 7, 8, 9] (by kernel_rfl) ?_ | refine GC_drawA (id := 13) [0, 1, 2, 3, 4, 5, 6, 7, 8, 9, 10] [] (by kernel_rfl) ?_ | ((first | apply GD_at | apply GL_at | apply GD_no | apply GL_no); exact rfl) | apply DFin_0 | (apply q1_; exact z_) | (apply q0_; exact z_) | (apply q2_; exact z_))
    refine JO_call (S := ListW l) rfl rfl (fun w5 hw5 => c34 _ l w5 (hw5.arr mem_ hl) (by omega)) ?_
    rintro _ uc1 ud1 hc1 hd1 hl1 hq1
    have iq1 := hq1.v1
    repeat' (first | apply s_ | ((first | apply JO_ob | apply GD_ex | apply GL_ex); exact rfl; first | exact ob1 | exact Ob_call rfl (fun w5 hw5 => c35F (upk hw5 mem_ hW0) hf (up hw5 mem_ hq1) hp)) | ((first | apply b_ | apply a_ | apply i_); exact z_; intro _) | ((first | apply p_ | apply JO_yes | apply GC_t); exact z_) | (apply n_; exact z_) | (apply GC_f; exact z_) | (apply GX_block_on; exact z_) | refine GC_drawA (id := 5) [0, 1, 2, 3] [4, 5, 6, 7, 8, 9] (by kernel_rfl) ?_ | refine GC_drawA (id := 13) [0, 1, 2, 3, 4, 5, 6, 7, 8, 9, 10] [] (by kernel_rfl) ?_ | ((first | apply GD_at | apply GL_at | apply GD_no | apply GL_no); exact rfl) | apply DFin_0 | (apply q1_; exact z_) | (apply q0_; exact z_) | (apply q2_; exact z_))
    all_goals exact GX_loop () ⟨rfl, rfl, rfl, rfl, rfl, rfl, trivial⟩ Nat.zero_lt_one trivial (fun w hw => hw.cut)
  intro _ _
  try simp only
  apply GC_seq
  refine GC_mid (α := VG) (fun s => [(9, s.1), (10, .int .i64 0), (7, .int .i64 (lateR k l).1), (8, .int .i64 (lateR k l).2), (5, rp), (6, .int .i64 0), (2, pt p2), (1, pv)]) (fun s => [(s.2.1, s.2.2), (Gp, wp), ((fun _ => True), w)]) (fun s => [(p2, .cells (wkC a b c d e f k).toArray 35)]) (fun s => ∃ es, PNest s.2.1 s.2.2 s.1 es (pairs k)) ?_ ?_
  · repeat' (first | apply s_ | ((first | apply JO_ob | apply GD_ex | apply GL_ex); exact rfl; first | exact ob1 | exact Ob_call rfl (fun w5 hw5 => c36T (hw5.wk mem_ h) (hw5.arr mem_ hl) hp)) | ((first | apply b_ | apply a_ | apply i_); exact z_; intro _) | ((first | apply p_ | apply JO_yes | apply GC_t); exact z_) | (apply n_; exact z_) | (apply GC_f; exact z_) | (apply GX_block_on; exact z_) | refine GC_drawA (id := 5) [0, 1, 2, 3] [4, 5, 6, 7, 8, 9] (by kernel_rfl) ?_ | refine GC_drawA (id := 13) [0, 1, 2, 3, 4, 5, 6, 7, 8, 9, 10] [] (by kernel_rfl) ?_ | ((first | apply GD_at | apply GL_at | apply GD_no | apply GL_no); exact rfl) | apply DFin_0 | (apply q1_; exact z_) | (apply q0_; exact z_) | (apply q2_; exact z_))
    refine JO_call (S := fun w0 v w1 => ∃ u es, v = .tuple #[u, .int .i64 0] ∧ PNest (New w0) w1 u es (pairs k)) rfl rfl (fun w5 hw5 => (c24 (hw5.wk mem_ h) true).mono fun v w6 ⟨kp, g⟩ => ⟨kp, ?_⟩) ?_
    · rcases g with g | g | g
      · exact absurd hf g.1
      · cases g.2.1
      · exact g.2.2
    rintro _ uc0 ud0 hu6 hu7 hk3 ⟨r0, es, rfl, hr0⟩
    have iav := hr0.arr.v1
    repeat' (first | apply s_ | ((first | apply JO_ob | apply GD_ex | apply GL_ex); exact rfl; first | exact ob1) | ((first | apply b_ | apply a_ | apply i_); exact z_; intro _) | ((first | apply p_ | apply JO_yes | apply GC_t); exact z_) | (apply n_; exact z_) | (apply GC_f; exact z_) | (apply GX_block_on; exact z_) | refine GC_drawA (id := 5) [0, 1, 2, 3] [4, 5, 6, 7, 8, 9] (by kernel_rfl) ?_ | refine GC_drawA (id := 13) [0, 1, 2, 3, 4, 5, 6, 7, 8, 9, 10] [] (by kernel_rfl) ?_ | ((first | apply GD_at | apply GL_at | apply GD_no | apply GL_no); exact rfl) | apply DFin_0 | (apply q1_; exact z_) | (apply q0_; exact z_) | (apply q2_; exact z_))
    all_goals exact GX_loop (r0, (fun b => uc0.heap.size ≤ b), ud0) ⟨rfl, rfl, rfl, rfl, rfl, rfl, rfl, rfl, trivial⟩ Nat.zero_lt_one ⟨es, hr0⟩ (fun w hw => hw.cut)
  rintro ⟨av, Ga, wa⟩ ⟨es, hP⟩
  simp only at hP ⊢
  have iav := hP.arr.v1
  have lp := timesV_len k l
  apply GC_seq
  refine GC_mid (α := Unit) (fun s => [(9, av), (10, .int .i64 0), (7, .int .i64 (lateR k l).1), (8, .int .i64 (lateR k l).2), (5, rp), (6, .int .i64 0), (2, pt p2), (1, pv)]) (fun s => [(Ga, wa), (Gp, wp), ((fun _ => True), w)]) (fun s => [(p2, .cells (wkC a b c d e f k).toArray 35)]) (fun s => True) ?_ ?_
  · repeat' (first | apply s_ | ((first | apply JO_ob | apply GD_ex | apply GL_ex); exact rfl; first | exact ob1) | ((first | apply b_ | apply a_ | apply i_); exact z_; intro _) | ((first | apply p_ | apply JO_yes | apply GC_t); exact z_) | (apply n_; exact z_) | (apply GC_f; exact z_) | (apply GX_block_on; exact z_) | refine GC_drawA (id := 5) [0, 1, 2, 3] [4, 5, 6, 7, 8, 9] (by kernel_rfl) ?_ | refine GC_drawA (id := 13) [0, 1, 2, 3, 4, 5, 6, 7, 8, 9, 10] [] (by kernel_rfl) ?_ | ((first | apply GD_at | apply GL_at | apply GD_no | apply GL_no); exact rfl) | apply DFin_0 | (apply q1_; exact z_) | (apply q0_; exact z_) | (apply q2_; exact z_))
    all_goals exact GX_loop () ⟨rfl, rfl, rfl, rfl, rfl, rfl, rfl, rfl, trivial⟩ Nat.zero_lt_one trivial (fun w hw => hw.cut)
  intro _ _
  try simp only
  apply GC_seq
  refine GC_mid (α := Unit) (fun s => [(9, av), (10, .int .i64 0), (7, .int .i64 (lateR k l).1), (8, .int .i64 (lateR k l).2), (5, rp), (6, .int .i64 0), (2, pt p2), (1, pv)]) (fun s => [(Ga, wa), (Gp, wp), ((fun _ => True), w)]) (fun s => [(p2, .cells (wkC a b c d e f k).toArray 35)]) (fun s => True) ?_ ?_
  · repeat' (first | apply s_ | ((first | apply JO_ob | apply GD_ex | apply GL_ex); exact rfl; first | exact ob1) | ((first | apply b_ | apply a_ | apply i_); exact z_; intro _) | ((first | apply p_ | apply JO_yes | apply GC_t); exact z_) | (apply n_; exact z_) | (apply GC_f; exact z_) | (apply GX_block_on; exact z_) | refine GC_drawA (id := 5) [0, 1, 2, 3] [4, 5, 6, 7, 8, 9] (by kernel_rfl) ?_ | refine GC_drawA (id := 13) [0, 1, 2, 3, 4, 5, 6, 7, 8, 9, 10] [] (by kernel_rfl) ?_ | ((first | apply GD_at | apply GL_at | apply GD_no | apply GL_no); exact rfl) | apply DFin_0 | (apply q1_; exact z_) | (apply q0_; exact z_) | (apply q2_; exact z_))
    all_goals exact GX_loop () ⟨rfl, rfl, rfl, rfl, rfl, rfl, rfl, rfl, trivial⟩ Nat.zero_lt_one trivial (fun w hw => hw.cut)
  intro _ _
  try simp only
  apply GC_seq
  refine GC_mid (α := Unit) (fun s => [(9, av), (10, .int .i64 0), (7, .int .i64 (lateR k l).1), (8, .int .i64 (lateR k l).2), (5, rp), (6, .int .i64 0), (2, pt p2), (1, pv)]) (fun s => [(Ga, wa), (Gp, wp), ((fun _ => True), w)]) (fun s => [(p2, .cells (wkC a b c d e f k).toArray 35)]) (fun s => True) ?_ ?_
  · repeat' (first | apply s_ | ((first | apply JO_ob | apply GD_ex | apply GL_ex); exact rfl; first | exact ob1) | ((first | apply b_ | apply a_ | apply i_); exact z_; intro _) | ((first | apply p_ | apply JO_yes | apply GC_t); exact z_) | (apply n_; exact z_) | (apply GC_f; exact z_) | (apply GX_block_on; exact z_) | refine GC_drawA (id := 5) [0, 1, 2, 3] [4, 5, 6, 7, 8, 9] (by kernel_rfl) ?_ | refine GC_drawA (id := 13) [0, 1, 2, 3, 4, 5, 6, 7, 8, 9, 10] [] (by kernel_rfl) ?_ | ((first | apply GD_at | apply GL_at | apply GD_no | apply GL_no); exact rfl) | apply DFin_0 | (apply q1_; exact z_) | (apply q0_; exact z_) | (apply q2_; exact z_))
    refine GC_loop (α := Nat) (fun i => k.yard.vats.length - i) (fun i => [(9, av), (10, .int .i64 0), (7, .int .i64 (lateR k l).1), (8, .int .i64 (lateR k l).2), (5, rp), (6, .int .i64 0), (2, pt p2), (1, pv), (11, .int .i64 (i : Int))]) (fun _ => [(Ga, wa), (Gp, wp), ((fun _ => True), w)]) (fun i => [(p2, .cells (wkC a b c d e f k).toArray 35)]) (fun i => i ≤ k.yard.vats.length) 0 ⟨rfl, rfl, rfl, rfl, rfl, rfl, rfl, rfl, rfl, trivial⟩ (Nat.zero_le _) (fun w hw => hw.cut) ?_
    intro i hi
    by_cases hlt : i < k.yard.vats.length
    · have hlr : i < (timesV k l).length := by omega
      repeat' (first | apply s_ | ((first | apply JO_ob | apply GD_ex | apply GL_ex); exact rfl; first | exact ob1 | exact Ob_call rfl (fun w5 hw5 => c37V (hw5.wk mem_ h) hK (pn_up hw5 mem_ hP) (hw5.arr mem_ hl) hll hlt) | exact Ob_call rfl (fun w5 _ => c27 _ _ w5) | exact Ob_neR rfl rfl rfl rfl) | ((first | apply b_ | apply a_ | apply i_); exact z_; intro _) | ((first | apply p_ | apply JO_yes | apply GC_t); exact z_) | (apply n_; exact z_) | (apply GC_f; exact z_) | (apply GX_block_on; exact z_) | refine GC_drawA (id := 5) [0, 1, 2, 3] [4, 5, 6, 7, 8, 9] (by kernel_rfl) ?_ | refine GC_drawA (id := 13) [0, 1, 2, 3, 4, 5, 6, 7, 8, 9, 10] [] (by kernel_rfl) ?_ | ((first | apply GD_at | apply GL_at | apply GD_no | apply GL_no); exact rfl) | apply DFin_0 | (apply q1_; exact z_) | (apply q0_; exact z_) | (apply q2_; exact z_))
      exact GX_loop (i + 1) ⟨rfl, rfl, rfl, rfl, rfl, rfl, rfl, rfl, rfl, trivial⟩ (by omega) (by omega) (fun w hw => hw)
    · repeat' (first | apply s_ | ((first | apply JO_ob | apply GD_ex | apply GL_ex); exact rfl; first | exact ob1) | ((first | apply b_ | apply a_ | apply i_); exact z_; intro _) | ((first | apply p_ | apply JO_yes | apply GC_t); exact z_) | (apply n_; exact z_) | (apply GC_f; exact z_) | (apply GX_block_on; exact z_) | refine GC_drawA (id := 5) [0, 1, 2, 3] [4, 5, 6, 7, 8, 9] (by kernel_rfl) ?_ | refine GC_drawA (id := 13) [0, 1, 2, 3, 4, 5, 6, 7, 8, 9, 10] [] (by kernel_rfl) ?_ | ((first | apply GD_at | apply GL_at | apply GD_no | apply GL_no); exact rfl) | apply DFin_0 | (apply q1_; exact z_) | (apply q0_; exact z_) | (apply q2_; exact z_))
      exact GX_loop () ⟨rfl, rfl, rfl, rfl, rfl, rfl, rfl, rfl, trivial⟩ Nat.zero_lt_one trivial (fun w hw => hw.cut)
  intro _ _
  try simp only
  by_cases hk : 0 ≤ lateI k l
  · have e1 := late_yes hk
    simp only [e1]
    repeat' (first | apply s_ | ((first | apply JO_ob | apply GD_ex | apply GL_ex); exact rfl; first | exact ob1 | exact Ob_call rfl (fun w5 hw5 => c38 (hw5.wk mem_ h) hK (pn_up hw5 mem_ hP) (hw5.arr mem_ hl) hll) | exact Ob_call rfl (fun w5 _ => c21 w5)) | ((first | apply b_ | apply a_ | apply i_); exact z_; intro _) | ((first | apply p_ | apply JO_yes | apply GC_t); exact z_) | (apply n_; exact z_) | (apply GC_f; exact z_) | (apply GX_block_on; exact z_) | refine GC_drawA (id := 5) [0, 1, 2, 3] [4, 5, 6, 7, 8, 9] (by kernel_rfl) ?_ | refine GC_drawA (id := 13) [0, 1, 2, 3, 4, 5, 6, 7, 8, 9, 10] [] (by kernel_rfl) ?_ | ((first | apply GD_at | apply GL_at | apply GD_no | apply GL_no); exact rfl) | apply DFin_0 | (apply q1_; exact z_) | (apply q0_; exact z_) | (apply q2_; exact z_))
    exact GX_ex rfl rfl mem_ rfl
  · have e1 := late_no hk
    simp only [e1]
    repeat' (first | apply s_ | ((first | apply JO_ob | apply GD_ex | apply GL_ex); exact rfl; first | exact ob1 | exact Ob_call rfl (fun w5 hw5 => c38 (hw5.wk mem_ h) hK (pn_up hw5 mem_ hP) (hw5.arr mem_ hl) hll) | exact Ob_call rfl (fun w5 _ => c21 w5)) | ((first | apply b_ | apply a_ | apply i_); exact z_; intro _) | ((first | apply p_ | apply JO_yes | apply GC_t); exact z_) | (apply n_; exact z_) | (apply GC_f; exact z_) | (apply GX_block_on; exact z_) | refine GC_drawA (id := 5) [0, 1, 2, 3] [4, 5, 6, 7, 8, 9] (by kernel_rfl) ?_ | refine GC_drawA (id := 13) [0, 1, 2, 3, 4, 5, 6, 7, 8, 9, 10] [] (by kernel_rfl) ?_ | ((first | apply GD_at | apply GL_at | apply GD_no | apply GL_no); exact rfl) | apply DFin_0 | (apply q1_; exact z_) | (apply q0_; exact z_) | (apply q2_; exact z_))
    exact GX_ex rfl rfl mem_ rfl
set_option maxHeartbeats 2000000 in
theorem law5 (h : WkA All w a b c hs d e f k) (hl : Arr All w 1 encI pv l) : Ex 5 [wkV a b c d e f k, pv] w (.bool true) := by
  have i1 := h.yard.fields.v1
  have i2 := h.yard.vats.arr.v1
  have i3 := h.yard.smps.v1
  have i4 := h.beat.vats.v1
  have i5 := h.beat.smps.v1
  have i6 := h.ends.v1
  have i7 := hl.v1
  have bl := hl.bound
  cases ht : thinW k
  · refine Rt_of Tryz.func5 rfl Tryz.ntmps5 rfl ?_
    repeat' (first | apply s_ | ((first | apply JO_ob | apply GD_ex | apply GL_ex); exact rfl; first | exact ob1 | exact Ob_call rfl (fun w5 hw5 => c20F (hw5.wk mem_ h) ht) | exact Ob_call rfl (fun w5 _ => c21 w5)) | ((first | apply b_ | apply a_ | apply i_); exact z_; intro _) | ((first | apply p_ | apply JO_yes | apply GC_t); exact z_) | (apply n_; exact z_) | (apply GC_f; exact z_) | (apply GX_block_on; exact z_) | refine GC_drawA (id := 5) [0, 1, 2, 3] [4, 5, 6, 7, 8, 9] (by kernel_rfl) ?_ | refine GC_drawA (id := 13) [0, 1, 2, 3, 4, 5, 6, 7, 8, 9, 10] [] (by kernel_rfl) ?_ | ((first | apply GD_at | apply GL_at | apply GD_no | apply GL_no); exact rfl) | apply DFin_0 | (apply q1_; exact z_) | (apply q0_; exact z_) | (apply q2_; exact z_))
    exact GX_ex rfl rfl mem_ rfl
  by_cases h30 : 30 < l.length
  · refine Rt_of Tryz.func5 rfl Tryz.ntmps5 rfl ?_
    repeat' (first | apply s_ | ((first | apply JO_ob | apply GD_ex | apply GL_ex); exact rfl; first | exact ob1 | exact Ob_call rfl (fun w5 hw5 => c20T (hw5.wk mem_ h) ht) | exact Ob_call rfl (fun w5 _ => c21 w5)) | ((first | apply b_ | apply a_ | apply i_); exact z_; intro _) | ((first | apply p_ | apply JO_yes | apply GC_t); exact z_) | (apply n_; exact z_) | (apply GC_f; exact z_) | (apply GX_block_on; exact z_) | refine GC_drawA (id := 5) [0, 1, 2, 3] [4, 5, 6, 7, 8, 9] (by kernel_rfl) ?_ | refine GC_drawA (id := 13) [0, 1, 2, 3, 4, 5, 6, 7, 8, 9, 10] [] (by kernel_rfl) ?_ | ((first | apply GD_at | apply GL_at | apply GD_no | apply GL_no); exact rfl) | apply DFin_0 | (apply q1_; exact z_) | (apply q0_; exact z_) | (apply q2_; exact z_))
    exact GX_ex rfl rfl mem_ rfl
  by_cases hg : fault9 k = 0 ∧ planP k l = true
  · exact law5_good h hl ht (by omega) hg.1 hg.2
  obtain ⟨er, her, hcase⟩ : ∃ er : Int, er ≠ 0 ∧ ((fault9 k ≠ 0 ∧ er = fault9 k) ∨ (fault9 k = 0 ∧ planP k l = false ∧ er = 2)) := by
    by_cases hf : fault9 k = 0
    · cases hp : planP k l
      · exact ⟨2, by decide, .inr ⟨hf, rfl, rfl⟩⟩
      · exact absurd ⟨hf, hp⟩ hg
    · exact ⟨_, hf, .inl ⟨hf, rfl⟩⟩
  refine Rt_of Tryz.func5 rfl Tryz.ntmps5 rfl ?_
  repeat' (first | apply s_ | ((first | apply JO_ob | apply GD_ex | apply GL_ex); exact rfl; first | exact ob1 | exact Ob_call rfl (fun w5 hw5 => c20T (hw5.wk mem_ h) ht)) | ((first | apply b_ | apply a_ | apply i_); exact z_; intro _) | ((first | apply p_ | apply JO_yes | apply GC_t); exact z_) | (apply n_; exact z_) | (apply GC_f; exact z_) | (apply GX_block_on; exact z_) | refine GC_drawA (id := 5) [0, 1, 2, 3] [4, 5, 6, 7, 8, 9] (by kernel_rfl) ?_ | refine GC_drawA (id := 13) [0, 1, 2, 3, 4, 5, 6, 7, 8, 9, 10] [] (by kernel_rfl) ?_ | ((first | apply GD_at | apply GL_at | apply GD_no | apply GL_no); exact rfl) | apply DFin_0 | (apply q1_; exact z_) | (apply q0_; exact z_) | (apply q2_; exact z_))
  refine JO_call (S := TwoW k) rfl rfl (fun w5 hw5 => c23W (hw5.wk mem_ h) ht) ?_
  rintro _ ua0 ub0 ha0 hb0 hk0 ⟨a0, b0, c0, hs0, d0, e0, f0, rfl, hW0⟩
  have iw01 := hW0.yard.fields.v1
  have iw02 := hW0.yard.vats.arr.v1
  have iw03 := hW0.yard.smps.v1
  have iw04 := hW0.beat.vats.v1
  have iw05 := hW0.beat.smps.v1
  have iw06 := hW0.ends.v1
  repeat' (first | apply s_ | ((first | apply JO_ob | apply GD_ex | apply GL_ex); exact rfl; first | exact ob1) | ((first | apply b_ | apply a_ | apply i_); exact z_; intro _) | ((first | apply p_ | apply JO_yes | apply GC_t); exact z_) | (apply n_; exact z_) | (apply GC_f; exact z_) | (apply GX_block_on; exact z_) | refine GC_drawA (id := 5) [0, 1, 2, 3] [4, 5, 6, 7, 8, 9] (by kernel_rfl) ?_ | refine GC_drawA (id := 13) [0, 1, 2, 3, 4, 5, 6, 7, 8, 9, 10] [] (by kernel_rfl) ?_ | ((first | apply GD_at | apply GL_at | apply GD_no | apply GL_no); exact rfl) | apply DFin_0 | (apply q1_; exact z_) | (apply q0_; exact z_) | (apply q2_; exact z_))
  refine JO_call (S := ListW l) rfl rfl (fun w5 hw5 => c34 _ l w5 (hw5.arr mem_ hl) (by omega)) ?_
  rintro _ uc1 ud1 hc1 hd1 hl1 hq1
  have iq1 := hq1.v1
  repeat' (first | apply s_ | ((first | apply JO_ob | apply GD_ex | apply GL_ex); exact rfl; first | exact ob1) | ((first | apply b_ | apply a_ | apply i_); exact z_; intro _) | ((first | apply p_ | apply JO_yes | apply GC_t); exact z_) | (apply n_; exact z_) | (apply GC_f; exact z_) | (apply GX_block_on; exact z_) | refine GC_drawA (id := 5) [0, 1, 2, 3] [4, 5, 6, 7, 8, 9] (by kernel_rfl) ?_ | refine GC_drawA (id := 13) [0, 1, 2, 3, 4, 5, 6, 7, 8, 9, 10] [] (by kernel_rfl) ?_ | ((first | apply GD_at | apply GL_at | apply GD_no | apply GL_no); exact rfl) | apply DFin_0 | (apply q1_; exact z_) | (apply q0_; exact z_) | (apply q2_; exact z_))
  refine JO_call (S := fun w0 v w1 => v = .tuple #[.slice none 0 0, .int .i64 er]) rfl rfl (fun w5 hw5 => (c33 (upk hw5 mem_ hW0) (up hw5 (.head _) hq1)).mono fun v w6 ⟨kp, g⟩ => ⟨kp, ?_⟩) ?_
  · rcases hcase with ⟨q1, rfl⟩ | ⟨q1, q2, rfl⟩
    · rcases g with g | g | g
      · exact g.2
      · exact absurd g.1 q1
      · exact absurd g.1 q1
    · rcases g with g | g | g
      · exact absurd q1 g.1
      · exact g.2.2
      · rw [q2] at g; exact absurd g.2.1 (by decide)
  rintro _ u2 u3 hu2 hu3 hk1 rfl
  repeat' (first | apply s_ | ((first | apply JO_ob | apply GD_ex | apply GL_ex); exact rfl; first | exact ob1) | ((first | apply b_ | apply a_ | apply i_); exact z_; intro _) | ((first | apply p_ | apply JO_yes | apply GC_t); exact z_) | (apply n_; exact z_) | (apply GC_f; exact z_) | (apply GX_block_on; exact z_) | refine GC_drawA (id := 5) [0, 1, 2, 3] [4, 5, 6, 7, 8, 9] (by kernel_rfl) ?_ | refine GC_drawA (id := 13) [0, 1, 2, 3, 4, 5, 6, 7, 8, 9, 10] [] (by kernel_rfl) ?_ | ((first | apply GD_at | apply GL_at | apply GD_no | apply GL_no); exact rfl) | apply DFin_0 | (apply q1_; exact z_) | (apply q0_; exact z_) | (apply q2_; exact z_))
  refine JO_call (S := TwoW k) rfl rfl (fun w5 hw5 => c23W (hw5.wk mem_ h) ht) ?_
  rintro _ ua1 ub1 ha1 hb1 hk1 ⟨a1, b1, c1, hs1, d1, e1, f1, rfl, hW1⟩
  have iw11 := hW1.yard.fields.v1
  have iw12 := hW1.yard.vats.arr.v1
  have iw13 := hW1.yard.smps.v1
  have iw14 := hW1.beat.vats.v1
  have iw15 := hW1.beat.smps.v1
  have iw16 := hW1.ends.v1
  repeat' (first | apply s_ | ((first | apply JO_ob | apply GD_ex | apply GL_ex); exact rfl; first | exact ob1) | ((first | apply b_ | apply a_ | apply i_); exact z_; intro _) | ((first | apply p_ | apply JO_yes | apply GC_t); exact z_) | (apply n_; exact z_) | (apply GC_f; exact z_) | (apply GX_block_on; exact z_) | refine GC_drawA (id := 5) [0, 1, 2, 3] [4, 5, 6, 7, 8, 9] (by kernel_rfl) ?_ | refine GC_drawA (id := 13) [0, 1, 2, 3, 4, 5, 6, 7, 8, 9, 10] [] (by kernel_rfl) ?_ | ((first | apply GD_at | apply GL_at | apply GD_no | apply GL_no); exact rfl) | apply DFin_0 | (apply q1_; exact z_) | (apply q0_; exact z_) | (apply q2_; exact z_))
  refine JO_call (S := ListW l) rfl rfl (fun w5 hw5 => c34 _ l w5 (hw5.arr mem_ hl) (by omega)) ?_
  rintro _ uc2 ud2 hc2 hd2 hl2 hq2
  have iq2 := hq2.v1
  repeat' (first | apply s_ | ((first | apply JO_ob | apply GD_ex | apply GL_ex); exact rfl; first | exact ob1) | ((first | apply b_ | apply a_ | apply i_); exact z_; intro _) | ((first | apply p_ | apply JO_yes | apply GC_t); exact z_) | (apply n_; exact z_) | (apply GC_f; exact z_) | (apply GX_block_on; exact z_) | refine GC_drawA (id := 5) [0, 1, 2, 3] [4, 5, 6, 7, 8, 9] (by kernel_rfl) ?_ | refine GC_drawA (id := 13) [0, 1, 2, 3, 4, 5, 6, 7, 8, 9, 10] [] (by kernel_rfl) ?_ | ((first | apply GD_at | apply GL_at | apply GD_no | apply GL_no); exact rfl) | apply DFin_0 | (apply q1_; exact z_) | (apply q0_; exact z_) | (apply q2_; exact z_))
  refine JO_call (S := fun w0 v w1 => v = .tuple #[.int .i64 0, .int .i64 er]) rfl rfl (fun w5 hw5 => (c35 (upk hw5 mem_ hW1) (up hw5 (.head _) hq2)).mono fun v w6 ⟨kp, g⟩ => ⟨kp, ?_⟩) ?_
  · rcases hcase with ⟨q1, rfl⟩ | ⟨q1, q2, rfl⟩
    · rw [if_pos q1, if_pos q1] at g; exact g
    · rw [q1, q2] at g; simpa using g
  rintro _ u4 u5 hu4 hu5 hk2 rfl
  repeat' (first | apply s_ | ((first | apply JO_ob | apply GD_ex | apply GL_ex); exact rfl; first | exact ob1 | exact Ob_call rfl (fun w5 hw5 => c36P (hw5.wk mem_ h) (hw5.arr mem_ hl))) | ((first | apply b_ | apply a_ | apply i_); exact z_; intro _) | ((first | apply p_ | apply JO_yes | apply GC_t); exact z_) | (apply n_; exact z_) | (apply GC_f; exact z_) | (apply GX_block_on; exact z_) | refine GC_drawA (id := 5) [0, 1, 2, 3] [4, 5, 6, 7, 8, 9] (by kernel_rfl) ?_ | refine GC_drawA (id := 13) [0, 1, 2, 3, 4, 5, 6, 7, 8, 9, 10] [] (by kernel_rfl) ?_ | ((first | apply GD_at | apply GL_at | apply GD_no | apply GL_no); exact rfl) | apply DFin_0 | (apply q1_; exact z_) | (apply q0_; exact z_) | (apply q2_; exact z_))
  all_goals
    refine JO_call (S := fun w0 v w1 => v = .tuple #[.slice none 0 0, .int .i64 er]) rfl rfl (fun w5 hw5 => (c24 (hw5.wk mem_ h) _).mono fun v w6 ⟨kp, g⟩ => ⟨kp, ?_⟩) ?_
    · rcases hcase with ⟨q1, rfl⟩ | ⟨q1, q2, rfl⟩
      · rcases g with g | g | g
        · exact g.2
        · exact absurd g.1 q1
        · exact absurd g.1 q1
      · rcases g with g | g | g
        · exact absurd q1 g.1
        · exact g.2.2
        · rw [q2] at g; exact absurd g.2.1 (by decide)
    rintro _ u6 u7 hu6 hu7 hk3 rfl
    repeat' (first | apply s_ | ((first | apply JO_ob | apply GD_ex | apply GL_ex); exact rfl; first | exact ob1 | exact Ob_call rfl (fun w5 _ => c21 w5)) | ((first | apply b_ | apply a_ | apply i_); exact z_; intro _) | ((first | apply p_ | apply JO_yes | apply GC_t); exact z_) | (apply n_; exact z_) | (apply GC_f; exact z_) | (apply GX_block_on; exact z_) | refine GC_drawA (id := 5) [0, 1, 2, 3] [4, 5, 6, 7, 8, 9] (by kernel_rfl) ?_ | refine GC_drawA (id := 13) [0, 1, 2, 3, 4, 5, 6, 7, 8, 9, 10] [] (by kernel_rfl) ?_ | ((first | apply GD_at | apply GL_at | apply GD_no | apply GL_no); exact rfl) | apply DFin_0 | (apply q1_; exact z_) | (apply q0_; exact z_) | (apply q2_; exact z_))
    all_goals exact GX_ex rfl rfl mem_ rfl
end
end Go.Proofs.YtkbaaikidhbfmaaGreat
