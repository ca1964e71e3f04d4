/- The law PressBest of the chapter 09 returns true for every input, and each argument reads afterwards as it read before. No condition. -/
import Derived.Test.YtkbaaikidhbfmaaGreatB5
/- The walk of the law PressBest. No statement is proved here. -/
set_option linter.unusedVariables false
set_option linter.unusedSimpArgs false
namespace Go.Proofs.YtkbaaikidhbfmaaGreat
open Go.RowKit
section
variable {w : World} {a b c d e f pv v : Value} {hs : List Value} {k : Wk} {l : List Int} {es : List (Value × Int × Value)}
theorem c61B (h : WkA All w a b c hs d e f k) (hf : fault9 k = 0) (hl : Arr All w 1 encI pv l) (x : Int) : Ex 61 [wkV a b c d e f k, pv, .int .i64 x] w (.bool (planP k l && decide (endV k l ≤ x))) := by
  have := c61 h hl x
  rwa [hf, decide_eq_true rfl, Bool.true_and] at this
def BstW (l : List Int) (x : Int) (w : World) (v : Value) (w' : World) : Prop := ∃ u, v = .tuple #[u, .int .i64 x] ∧ Arr (New w) w' 1 encI u l
theorem c62B (h : WkA All w a b c hs d e f k) (hK : OkK k) (hP : PNest All w v es (pairs k)) (bx : Int) (hb : 1 ≤ bx ∧ bx ≤ 4) : Rt 62 [wkV a b c d e f k, v, .int .i64 bx] w fun r w' => Keep w w' ∧ BstW (bestL k bx).1 (bestL k bx).2 w r w' := by
  rw [best_eq hK hb.1]; exact c62 h hK hP bx hb
theorem c61N (h : WkA All w a b c hs d e f k) (hf : fault9 k ≠ 0) (hl : Arr All w 1 encI pv l) (x : Int) : Ex 61 [wkV a b c d e f k, pv, .int .i64 x] w (.bool false) := by
  have := c61 h hl x
  rwa [decide_eq_false hf, Bool.false_and] at this

set_option maxHeartbeats 2000000 in
theorem law17_lt (h : WkA All w a b c hs d e f k) (hl : Arr All w 1 encI pv l) (x : Int) (hx : -9223372036854775808 ≤ x ∧ x ≤ 9223372036854775807) (ht : thinW k = true) (h30 : l.length ≤ 30) (hf : fault9 k = 0) (hb : k.boxes < 3) : Ex 17 [wkV a b c d e f k, pv, .int .i64 x] w (.bool true) := by
  have i1 := h.yard.fields.v1
  have i2 := h.yard.vats.arr.v1
  have i3 := h.yard.smps.v1
  have i4 := h.beat.vats.v1
  have i5 := h.beat.smps.v1
  have i6 := h.ends.v1
  have i7 := hl.v1
  have bl := hl.bound
  have hK := okK_of hf
  have v3 := hK.v3
  have hbx := hK.boxes
  have be1 := bestF_bd hK (lex (List.replicate k.yard.vats.length (0, k.boxes - 1))) ([], -1) (by simp)
  have be2 := bestF_bd hK (lex (List.replicate k.yard.vats.length (0, k.boxes + 1 - 1))) ([], -1) (by simp)
  have be3 : -1 ≤ (bestL k k.boxes).2 ∧ (bestL k k.boxes).2 ≤ 2703 := be1
  have be4 : -1 ≤ (bestL k (k.boxes + 1)).2 ∧ (bestL k (k.boxes + 1)).2 ≤ 2703 := be2
  clear be1 be2
  refine Rt_of Tryz.func17 rfl Tryz.ntmps17 rfl ?_
  apply GC_seq
  refine GC_mid (α := Nat) (fun s => [(3, pt s), (1, pv), (2, .int .i64 x)]) (fun s => [((fun _ => True), w)]) (fun s => [(s, .cells (wkC a b c d e f k).toArray 35)]) (fun s => True) ?_ ?_
  · repeat' (first | apply s_ | (apply JO_ob; exact rfl; first | exact ob1) | ((first | apply b_ | apply a_ | apply i_); exact z_; intro _) | ((first | apply p_ | apply JO_yes | apply GC_t); exact z_) | (apply n_; exact z_) | (apply GC_f; exact z_) | (apply GX_block_on; exact z_))
    all_goals exact GX_loop _ ⟨rfl, rfl, rfl, trivial⟩ Nat.zero_lt_one trivial (fun w hw => hw.cut)
  intro p3 _
  try simp only
  apply GC_seq
  refine GC_mid (α := Unit) (fun s => [(3, pt p3), (1, pv), (2, .int .i64 x)]) (fun s => [((fun _ => True), w)]) (fun s => [(p3, .cells (wkC a b c d e f k).toArray 35)]) (fun s => True) ?_ ?_
  · repeat' (first | apply s_ | (apply JO_ob; exact rfl; first | exact ob1 | exact Ob_call rfl (fun w5 hw5 => c20T (hw5.wk mem_ h) ht)) | ((first | apply b_ | apply a_ | apply i_); exact z_; intro _) | ((first | apply p_ | apply JO_yes | apply GC_t); exact z_) | (apply n_; exact z_) | (apply GC_f; exact z_) | (apply GX_block_on; exact z_))
    all_goals exact GX_loop () ⟨rfl, rfl, rfl, trivial⟩ Nat.zero_lt_one trivial (fun w hw => hw.cut)
  intro _ _
  try simp only
  apply GC_seq
  refine GC_mid (α := VG) (fun s => [(7, s.1), (8, .int .i64 ((bestL k k.boxes).2)), (9, .int .i64 0), (3, pt p3), (1, pv), (2, .int .i64 x)]) (fun s => [(s.2.1, s.2.2), ((fun _ => True), w)]) (fun s => [(p3, .cells (wkC a b c d e f k).toArray 35)]) (fun s => Arr s.2.1 s.2.2 1 encI s.1 ((bestL k k.boxes).1)) ?_ ?_
  · repeat' (first | apply s_ | (apply JO_ob; exact rfl; first | exact ob1) | ((first | apply b_ | apply a_ | apply i_); exact z_; intro _) | ((first | apply p_ | apply JO_yes | apply GC_t); exact z_) | (apply n_; exact z_) | (apply GC_f; exact z_) | (apply GX_block_on; exact z_))
    refine JO_call (S := TwoW k) rfl rfl (fun w5 hw5 => c23W (hw5.wk mem_ h) ht) ?_
    rintro _ ua0 ub0 ha0 hb0 hk0 ⟨a0, b0, c0, hs0, d0, e0, f0, rfl, hW0⟩
    have iw01 := hW0.yard.fields.v1
    have iw02 := hW0.yard.vats.arr.v1
    have iw03 := hW0.yard.smps.v1
    have iw04 := hW0.beat.vats.v1
    have iw05 := hW0.beat.smps.v1
    have iw06 := hW0.ends.v1
    repeat' (first | apply s_ | (apply JO_ob; exact rfl; first | exact ob1) | ((first | apply b_ | apply a_ | apply i_); exact z_; intro _) | ((first | apply p_ | apply JO_yes | apply GC_t); exact z_) | (apply n_; exact z_) | (apply GC_f; exact z_) | (apply GX_block_on; exact z_))
    refine JO_call (S := BestW ((bestL k k.boxes).1) ((bestL k k.boxes).2)) rfl rfl (fun w5 hw5 => c54F (upk hw5 (.head _) hW0) hf) ?_
    rintro _ uc0 ud0 hc0 hd0 hl0 ⟨r0, rfl, hr0⟩
    have ir0 := hr0.v1
    repeat' (first | apply s_ | (apply JO_ob; exact rfl; first | exact ob1) | ((first | apply b_ | apply a_ | apply i_); exact z_; intro _) | ((first | apply p_ | apply JO_yes | apply GC_t); exact z_) | (apply n_; exact z_) | (apply GC_f; exact z_) | (apply GX_block_on; exact z_))
    all_goals exact GX_loop (r0, (fun b => uc0.heap.size ≤ b), ud0) ⟨rfl, rfl, rfl, rfl, rfl, rfl, trivial⟩ Nat.zero_lt_one hr0 (fun w hw => hw.cut)
  rintro ⟨rl, Gl, wl⟩ hrl
  simp only at hrl ⊢
  have irl := hrl.v1
  have brl := hrl.bound
  apply GC_seq
  refine GC_mid (α := Unit) (fun s => [(10, .int .i64 ((bestL k k.boxes).2 - (bestL k (k.boxes + 1)).2)), (11, .int .i64 0), (7, rl), (8, .int .i64 ((bestL k k.boxes).2)), (9, .int .i64 0), (3, pt p3), (1, pv), (2, .int .i64 x)]) (fun s => [(Gl, wl), ((fun _ => True), w)]) (fun s => [(p3, .cells (wkC a b c d e f k).toArray 35)]) (fun s => True) ?_ ?_
  · repeat' (first | apply s_ | (apply JO_ob; exact rfl; first | exact ob1) | ((first | apply b_ | apply a_ | apply i_); exact z_; intro _) | ((first | apply p_ | apply JO_yes | apply GC_t); exact z_) | (apply n_; exact z_) | (apply GC_f; exact z_) | (apply GX_block_on; exact z_))
    refine JO_call (S := TwoW k) rfl rfl (fun w5 hw5 => c23W (hw5.wk mem_ h) ht) ?_
    rintro _ ua0 ub0 ha0 hb0 hk0 ⟨a0, b0, c0, hs0, d0, e0, f0, rfl, hW0⟩
    have iw01 := hW0.yard.fields.v1
    have iw02 := hW0.yard.vats.arr.v1
    have iw03 := hW0.yard.smps.v1
    have iw04 := hW0.beat.vats.v1
    have iw05 := hW0.beat.smps.v1
    have iw06 := hW0.ends.v1
    repeat' (first | apply s_ | (apply JO_ob; exact rfl; first | exact ob1 | exact Ob_call rfl (fun w5 hw5 => c55F (upk hw5 (.head _) hW0) hf hb)) | ((first | apply b_ | apply a_ | apply i_); exact z_; intro _) | ((first | apply p_ | apply JO_yes | apply GC_t); exact z_) | (apply n_; exact z_) | (apply GC_f; exact z_) | (apply GX_block_on; exact z_))
    all_goals exact GX_loop () ⟨rfl, rfl, rfl, rfl, rfl, rfl, rfl, rfl, trivial⟩ Nat.zero_lt_one trivial (fun w hw => hw.cut)
  intro _ _
  try simp only
  apply GC_seq
  refine GC_mid (α := Unit) (fun s => [(12, .bool (planP k l && decide (endV k l ≤ x))), (10, .int .i64 ((bestL k k.boxes).2 - (bestL k (k.boxes + 1)).2)), (11, .int .i64 0), (7, rl), (8, .int .i64 ((bestL k k.boxes).2)), (9, .int .i64 0), (3, pt p3), (1, pv), (2, .int .i64 x)]) (fun s => [(Gl, wl), ((fun _ => True), w)]) (fun s => [(p3, .cells (wkC a b c d e f k).toArray 35)]) (fun s => True) ?_ ?_
  · repeat' (first | apply s_ | (apply JO_ob; exact rfl; first | exact ob1) | ((first | apply b_ | apply a_ | apply i_); exact z_; intro _) | ((first | apply p_ | apply JO_yes | apply GC_t); exact z_) | (apply n_; exact z_) | (apply GC_f; exact z_) | (apply GX_block_on; exact z_))
    refine JO_call (S := TwoW k) rfl rfl (fun w5 hw5 => c23W (hw5.wk mem_ h) ht) ?_
    rintro _ ua0 ub0 ha0 hb0 hk0 ⟨a0, b0, c0, hs0, d0, e0, f0, rfl, hW0⟩
    have iw01 := hW0.yard.fields.v1
    have iw02 := hW0.yard.vats.arr.v1
    have iw03 := hW0.yard.smps.v1
    have iw04 := hW0.beat.vats.v1
    have iw05 := hW0.beat.smps.v1
    have iw06 := hW0.ends.v1
    repeat' (first | apply s_ | (apply JO_ob; exact rfl; first | exact ob1) | ((first | apply b_ | apply a_ | apply i_); exact z_; intro _) | ((first | apply p_ | apply JO_yes | apply GC_t); exact z_) | (apply n_; exact z_) | (apply GC_f; exact z_) | (apply GX_block_on; exact z_))
    refine JO_call (S := ListW l) rfl rfl (fun w5 hw5 => c34 _ l w5 (hw5.arr mem_ hl) (by omega)) ?_
    rintro _ uc1 ud1 hc1 hd1 hl1 hq1
    have iq1 := hq1.v1
    repeat' (first | apply s_ | (apply JO_ob; exact rfl; first | exact ob1 | exact Ob_call rfl (fun w5 hw5 => c61B (upk hw5 mem_ hW0) hf (up hw5 mem_ hq1) x)) | ((first | apply b_ | apply a_ | apply i_); exact z_; intro _) | ((first | apply p_ | apply JO_yes | apply GC_t); exact z_) | (apply n_; exact z_) | (apply GC_f; exact z_) | (apply GX_block_on; exact z_))
    all_goals exact GX_loop () ⟨rfl, rfl, rfl, rfl, rfl, rfl, rfl, rfl, rfl, trivial⟩ Nat.zero_lt_one trivial (fun w hw => hw.cut)
  intro _ _
  try simp only
  apply GC_seq
  refine GC_mid (α := VG) (fun s => [(13, s.1), (14, .int .i64 0), (12, .bool (planP k l && decide (endV k l ≤ x))), (10, .int .i64 ((bestL k k.boxes).2 - (bestL k (k.boxes + 1)).2)), (11, .int .i64 0), (7, rl), (8, .int .i64 ((bestL k k.boxes).2)), (9, .int .i64 0), (3, pt p3), (1, pv), (2, .int .i64 x)]) (fun s => [(s.2.1, s.2.2), (Gl, wl), ((fun _ => True), w)]) (fun s => [(p3, .cells (wkC a b c d e f k).toArray 35)]) (fun s => ∃ es, PNest s.2.1 s.2.2 s.1 es (pairs k)) ?_ ?_
  · repeat' (first | apply s_ | (apply JO_ob; exact rfl; first | exact ob1) | ((first | apply b_ | apply a_ | apply i_); exact z_; intro _) | ((first | apply p_ | apply JO_yes | apply GC_t); exact z_) | (apply n_; exact z_) | (apply GC_f; exact z_) | (apply GX_block_on; exact z_))
    refine JO_call (S := fun w0 v w1 => ∃ u es, v = .tuple #[u, .int .i64 0] ∧ PNest (New w0) w1 u es (pairs k)) rfl rfl (fun w5 hw5 => (c24 (hw5.wk mem_ h) true).mono fun v w6 ⟨kp, g⟩ => ⟨kp, ?_⟩) ?_
    · rcases g with g | g | g
      · exact absurd hf g.1
      · cases g.2.1
      · exact g.2.2
    rintro _ uc0 ud0 hu6 hu7 hk3 ⟨r0, es, rfl, hr0⟩
    have iav := hr0.arr.v1
    repeat' (first | apply s_ | (apply JO_ob; exact rfl; first | exact ob1) | ((first | apply b_ | apply a_ | apply i_); exact z_; intro _) | ((first | apply p_ | apply JO_yes | apply GC_t); exact z_) | (apply n_; exact z_) | (apply GC_f; exact z_) | (apply GX_block_on; exact z_))
    all_goals exact GX_loop (r0, (fun b => uc0.heap.size ≤ b), ud0) ⟨rfl, rfl, rfl, rfl, rfl, rfl, rfl, rfl, rfl, rfl, rfl, trivial⟩ Nat.zero_lt_one ⟨es, hr0⟩ (fun w hw => hw.cut)
  rintro ⟨av, Ga, wa⟩ ⟨es, hP⟩
  simp only at hP ⊢
  have iav := hP.arr.v1
  apply GC_seq
  refine GC_mid (α := Unit) (fun s => [(13, av), (14, .int .i64 0), (12, .bool (planP k l && decide (endV k l ≤ x))), (10, .int .i64 ((bestL k k.boxes).2 - (bestL k (k.boxes + 1)).2)), (11, .int .i64 0), (7, rl), (8, .int .i64 ((bestL k k.boxes).2)), (9, .int .i64 0), (3, pt p3), (1, pv), (2, .int .i64 x)]) (fun s => [(Ga, wa), (Gl, wl), ((fun _ => True), w)]) (fun s => [(p3, .cells (wkC a b c d e f k).toArray 35)]) (fun s => True) ?_ ?_
  · repeat' (first | apply s_ | (apply JO_ob; exact rfl; first | exact ob1) | ((first | apply b_ | apply a_ | apply i_); exact z_; intro _) | ((first | apply p_ | apply JO_yes | apply GC_t); exact z_) | (apply n_; exact z_) | (apply GC_f; exact z_) | (apply GX_block_on; exact z_))
    all_goals exact GX_loop () ⟨rfl, rfl, rfl, rfl, rfl, rfl, rfl, rfl, rfl, rfl, rfl, trivial⟩ Nat.zero_lt_one trivial (fun w hw => hw.cut)
  intro _ _
  try simp only
  apply GC_seq
  refine GC_mid (α := VG) (fun s => [(15, s.1), (16, .int .i64 (bestL k (k.boxes)).2), (13, av), (14, .int .i64 0), (12, .bool (planP k l && decide (endV k l ≤ x))), (10, .int .i64 ((bestL k k.boxes).2 - (bestL k (k.boxes + 1)).2)), (11, .int .i64 0), (7, rl), (8, .int .i64 ((bestL k k.boxes).2)), (9, .int .i64 0), (3, pt p3), (1, pv), (2, .int .i64 x)]) (fun s => [(s.2.1, s.2.2), (Ga, wa), (Gl, wl), ((fun _ => True), w)]) (fun s => [(p3, .cells (wkC a b c d e f k).toArray 35)]) (fun s => Arr s.2.1 s.2.2 1 encI s.1 (bestL k (k.boxes)).1) ?_ ?_
  · repeat' (first | apply s_ | (apply JO_ob; exact rfl; first | exact ob1) | ((first | apply b_ | apply a_ | apply i_); exact z_; intro _) | ((first | apply p_ | apply JO_yes | apply GC_t); exact z_) | (apply n_; exact z_) | (apply GC_f; exact z_) | (apply GX_block_on; exact z_))
    refine JO_call (S := BstW (bestL k (k.boxes)).1 (bestL k (k.boxes)).2) rfl rfl (fun w5 hw5 => c62B (hw5.wk mem_ h) hK (pn_up hw5 mem_ hP) (k.boxes) (by omega)) ?_
    rintro _ uc0 ud0 hc0 hd0 hl0 ⟨r0, rfl, hr0⟩
    have ir0 := hr0.v1
    repeat' (first | apply s_ | (apply JO_ob; exact rfl; first | exact ob1) | ((first | apply b_ | apply a_ | apply i_); exact z_; intro _) | ((first | apply p_ | apply JO_yes | apply GC_t); exact z_) | (apply n_; exact z_) | (apply GC_f; exact z_) | (apply GX_block_on; exact z_))
    all_goals exact GX_loop (r0, (fun b => uc0.heap.size ≤ b), ud0) ⟨rfl, rfl, rfl, rfl, rfl, rfl, rfl, rfl, rfl, rfl, rfl, rfl, rfl, trivial⟩ Nat.zero_lt_one hr0 (fun w hw => hw.cut)
  rintro ⟨rb, Gb, wb⟩ hrb
  simp only at hrb ⊢
  have irb := hrb.v1
  have brb := hrb.bound
  apply GC_seq
  refine GC_mid (α := Unit) (fun s => [(15, rb), (16, .int .i64 (bestL k (k.boxes)).2), (13, av), (14, .int .i64 0), (10, .int .i64 ((bestL k k.boxes).2 - (bestL k (k.boxes + 1)).2)), (11, .int .i64 0), (7, rl), (8, .int .i64 ((bestL k k.boxes).2)), (9, .int .i64 0), (3, pt p3), (1, pv), (2, .int .i64 x)]) (fun s => [(Gb, wb), (Ga, wa), (Gl, wl), ((fun _ => True), w)]) (fun s => [(p3, .cells (wkC a b c d e f k).toArray 35)]) (fun s => True) ?_ ?_
  · cases hp : planP k l
    · repeat' (first | apply s_ | (apply JO_ob; exact rfl; first | exact ob1 | exact Ob_call rfl (fun w5 hw5 => c36F (hw5.wk mem_ h) (hw5.arr mem_ hl) hp) | exact Ob_neb rfl rfl | exact Ob_call rfl (fun w5 hw5 => c40T w5 _ _ _ (up hw5 mem_ hrl) (up hw5 mem_ hrb))) | ((first | apply b_ | apply a_ | apply i_); exact z_; intro _) | ((first | apply p_ | apply JO_yes | apply GC_t); exact z_) | (apply n_; exact z_) | (apply GC_f; exact z_) | (apply GX_block_on; exact z_))
      all_goals exact GX_loop () ⟨rfl, rfl, rfl, rfl, rfl, rfl, rfl, rfl, rfl, rfl, rfl, rfl, trivial⟩ Nat.zero_lt_one trivial (fun w hw => hw.cut)
    by_cases he : endV k l ≤ x
    · rw [decide_eq_true he]
      repeat' (first | apply s_ | (apply JO_ob; exact rfl; first | exact ob1 | exact Ob_call rfl (fun w5 hw5 => c36T (hw5.wk mem_ h) (hw5.arr mem_ hl) hp) | exact Ob_call rfl (fun w5 hw5 => c63 (hw5.wk mem_ h) hK (pn_up hw5 mem_ hP) (hw5.arr mem_ hl) (planP_len hp)) | exact Ob_neb rfl rfl | exact Ob_call rfl (fun w5 hw5 => c40T w5 _ _ _ (up hw5 mem_ hrl) (up hw5 mem_ hrb))) | ((first | apply b_ | apply a_ | apply i_); exact z_; intro _) | ((first | apply p_ | apply JO_yes | apply GC_t); exact z_) | (apply n_; exact z_) | (apply GC_f; exact z_) | (apply GX_block_on; exact z_))
      all_goals exact GX_loop () ⟨rfl, rfl, rfl, rfl, rfl, rfl, rfl, rfl, rfl, rfl, rfl, rfl, trivial⟩ Nat.zero_lt_one trivial (fun w hw => hw.cut)
    rw [decide_eq_false he]
    repeat' (first | apply s_ | (apply JO_ob; exact rfl; first | exact ob1 | exact Ob_call rfl (fun w5 hw5 => c36T (hw5.wk mem_ h) (hw5.arr mem_ hl) hp) | exact Ob_call rfl (fun w5 hw5 => c63 (hw5.wk mem_ h) hK (pn_up hw5 mem_ hP) (hw5.arr mem_ hl) (planP_len hp)) | exact Ob_neb rfl rfl | exact Ob_call rfl (fun w5 hw5 => c40T w5 _ _ _ (up hw5 mem_ hrl) (up hw5 mem_ hrb))) | ((first | apply b_ | apply a_ | apply i_); exact z_; intro _) | ((first | apply p_ | apply JO_yes | apply GC_t); exact z_) | (apply n_; exact z_) | (apply GC_f; exact z_) | (apply GX_block_on; exact z_))
    all_goals exact GX_loop () ⟨rfl, rfl, rfl, rfl, rfl, rfl, rfl, rfl, rfl, rfl, rfl, rfl, trivial⟩ Nat.zero_lt_one trivial (fun w hw => hw.cut)
  intro _ _
  try simp only
  apply GC_seq
  refine GC_mid (α := Unit) (fun s => [(15, rb), (16, .int .i64 (bestL k (k.boxes)).2), (13, av), (14, .int .i64 0), (10, .int .i64 ((bestL k k.boxes).2 - (bestL k (k.boxes + 1)).2)), (11, .int .i64 0), (7, rl), (8, .int .i64 ((bestL k k.boxes).2)), (9, .int .i64 0), (3, pt p3), (1, pv), (2, .int .i64 x)]) (fun s => [(Gb, wb), (Ga, wa), (Gl, wl), ((fun _ => True), w)]) (fun s => [(p3, .cells (wkC a b c d e f k).toArray 35)]) (fun s => True) ?_ ?_
  · repeat' (first | apply s_ | (apply JO_ob; exact rfl; first | exact ob1) | ((first | apply b_ | apply a_ | apply i_); exact z_; intro _) | ((first | apply p_ | apply JO_yes | apply GC_t); exact z_) | (apply n_; exact z_) | (apply GC_f; exact z_) | (apply GX_block_on; exact z_))
    all_goals exact GX_loop () ⟨rfl, rfl, rfl, rfl, rfl, rfl, rfl, rfl, rfl, rfl, rfl, rfl, trivial⟩ Nat.zero_lt_one trivial (fun w hw => hw.cut)
  intro _ _
  try simp only
  apply GC_seq
  refine GC_mid (α := VG) (fun s => [(17, s.1), (18, .int .i64 (bestL k (k.boxes + 1)).2), (15, rb), (16, .int .i64 (bestL k (k.boxes)).2), (13, av), (14, .int .i64 0), (10, .int .i64 ((bestL k k.boxes).2 - (bestL k (k.boxes + 1)).2)), (11, .int .i64 0), (7, rl), (8, .int .i64 ((bestL k k.boxes).2)), (9, .int .i64 0), (3, pt p3), (1, pv), (2, .int .i64 x)]) (fun s => [(s.2.1, s.2.2), (Gb, wb), (Ga, wa), (Gl, wl), ((fun _ => True), w)]) (fun s => [(p3, .cells (wkC a b c d e f k).toArray 35)]) (fun s => Arr s.2.1 s.2.2 1 encI s.1 (bestL k (k.boxes + 1)).1) ?_ ?_
  · repeat' (first | apply s_ | (apply JO_ob; exact rfl; first | exact ob1) | ((first | apply b_ | apply a_ | apply i_); exact z_; intro _) | ((first | apply p_ | apply JO_yes | apply GC_t); exact z_) | (apply n_; exact z_) | (apply GC_f; exact z_) | (apply GX_block_on; exact z_))
    refine JO_call (S := BstW (bestL k (k.boxes + 1)).1 (bestL k (k.boxes + 1)).2) rfl rfl (fun w5 hw5 => c62B (hw5.wk mem_ h) hK (pn_up hw5 mem_ hP) (k.boxes + 1) (by omega)) ?_
    rintro _ uc0 ud0 hc0 hd0 hl0 ⟨r0, rfl, hr0⟩
    have ir0 := hr0.v1
    repeat' (first | apply s_ | (apply JO_ob; exact rfl; first | exact ob1) | ((first | apply b_ | apply a_ | apply i_); exact z_; intro _) | ((first | apply p_ | apply JO_yes | apply GC_t); exact z_) | (apply n_; exact z_) | (apply GC_f; exact z_) | (apply GX_block_on; exact z_))
    all_goals exact GX_loop (r0, (fun b => uc0.heap.size ≤ b), ud0) ⟨rfl, rfl, rfl, rfl, rfl, rfl, rfl, rfl, rfl, rfl, rfl, rfl, rfl, rfl, trivial⟩ Nat.zero_lt_one hr0 (fun w hw => hw.cut)
  rintro ⟨rm, Gm, wm⟩ hrm
  simp only at hrm ⊢
  have irm := hrm.v1
  have brm := hrm.bound
  repeat' (first | apply s_ | (apply JO_ob; exact rfl; first | exact ob1 | exact Ob_call rfl (fun w5 _ => c21 w5)) | ((first | apply b_ | apply a_ | apply i_); exact z_; intro _) | ((first | apply p_ | apply JO_yes | apply GC_t); exact z_) | (apply n_; exact z_) | (apply GC_f; exact z_) | (apply GX_block_on; exact z_))
  exact GX_ex rfl rfl mem_ rfl
set_option maxHeartbeats 2000000 in
theorem law17_ge (h : WkA All w a b c hs d e f k) (hl : Arr All w 1 encI pv l) (x : Int) (hx : -9223372036854775808 ≤ x ∧ x ≤ 9223372036854775807) (ht : thinW k = true) (h30 : l.length ≤ 30) (hf : fault9 k = 0) (hb : ¬ k.boxes < 3) : Ex 17 [wkV a b c d e f k, pv, .int .i64 x] w (.bool true) := by
  have i1 := h.yard.fields.v1
  have i2 := h.yard.vats.arr.v1
  have i3 := h.yard.smps.v1
  have i4 := h.beat.vats.v1
  have i5 := h.beat.smps.v1
  have i6 := h.ends.v1
  have i7 := hl.v1
  have bl := hl.bound
  have hK := okK_of hf
  have v3 := hK.v3
  have hbx := hK.boxes
  have be1 := bestF_bd hK (lex (List.replicate k.yard.vats.length (0, k.boxes - 1))) ([], -1) (by simp)
  have be2 := bestF_bd hK (lex (List.replicate k.yard.vats.length (0, k.boxes + 1 - 1))) ([], -1) (by simp)
  have be3 : -1 ≤ (bestL k k.boxes).2 ∧ (bestL k k.boxes).2 ≤ 2703 := be1
  have be4 : -1 ≤ (bestL k (k.boxes + 1)).2 ∧ (bestL k (k.boxes + 1)).2 ≤ 2703 := be2
  clear be1 be2
  refine Rt_of Tryz.func17 rfl Tryz.ntmps17 rfl ?_
  apply GC_seq
  refine GC_mid (α := Nat) (fun s => [(3, pt s), (1, pv), (2, .int .i64 x)]) (fun s => [((fun _ => True), w)]) (fun s => [(s, .cells (wkC a b c d e f k).toArray 35)]) (fun s => True) ?_ ?_
  · repeat' (first | apply s_ | (apply JO_ob; exact rfl; first | exact ob1) | ((first | apply b_ | apply a_ | apply i_); exact z_; intro _) | ((first | apply p_ | apply JO_yes | apply GC_t); exact z_) | (apply n_; exact z_) | (apply GC_f; exact z_) | (apply GX_block_on; exact z_))
    all_goals exact GX_loop _ ⟨rfl, rfl, rfl, trivial⟩ Nat.zero_lt_one trivial (fun w hw => hw.cut)
  intro p3 _
  try simp only
  apply GC_seq
  refine GC_mid (α := Unit) (fun s => [(3, pt p3), (1, pv), (2, .int .i64 x)]) (fun s => [((fun _ => True), w)]) (fun s => [(p3, .cells (wkC a b c d e f k).toArray 35)]) (fun s => True) ?_ ?_
  · repeat' (first | apply s_ | (apply JO_ob; exact rfl; first | exact ob1 | exact Ob_call rfl (fun w5 hw5 => c20T (hw5.wk mem_ h) ht)) | ((first | apply b_ | apply a_ | apply i_); exact z_; intro _) | ((first | apply p_ | apply JO_yes | apply GC_t); exact z_) | (apply n_; exact z_) | (apply GC_f; exact z_) | (apply GX_block_on; exact z_))
    all_goals exact GX_loop () ⟨rfl, rfl, rfl, trivial⟩ Nat.zero_lt_one trivial (fun w hw => hw.cut)
  intro _ _
  try simp only
  apply GC_seq
  refine GC_mid (α := VG) (fun s => [(7, s.1), (8, .int .i64 ((bestL k k.boxes).2)), (9, .int .i64 0), (3, pt p3), (1, pv), (2, .int .i64 x)]) (fun s => [(s.2.1, s.2.2), ((fun _ => True), w)]) (fun s => [(p3, .cells (wkC a b c d e f k).toArray 35)]) (fun s => Arr s.2.1 s.2.2 1 encI s.1 ((bestL k k.boxes).1)) ?_ ?_
  · repeat' (first | apply s_ | (apply JO_ob; exact rfl; first | exact ob1) | ((first | apply b_ | apply a_ | apply i_); exact z_; intro _) | ((first | apply p_ | apply JO_yes | apply GC_t); exact z_) | (apply n_; exact z_) | (apply GC_f; exact z_) | (apply GX_block_on; exact z_))
    refine JO_call (S := TwoW k) rfl rfl (fun w5 hw5 => c23W (hw5.wk mem_ h) ht) ?_
    rintro _ ua0 ub0 ha0 hb0 hk0 ⟨a0, b0, c0, hs0, d0, e0, f0, rfl, hW0⟩
    have iw01 := hW0.yard.fields.v1
    have iw02 := hW0.yard.vats.arr.v1
    have iw03 := hW0.yard.smps.v1
    have iw04 := hW0.beat.vats.v1
    have iw05 := hW0.beat.smps.v1
    have iw06 := hW0.ends.v1
    repeat' (first | apply s_ | (apply JO_ob; exact rfl; first | exact ob1) | ((first | apply b_ | apply a_ | apply i_); exact z_; intro _) | ((first | apply p_ | apply JO_yes | apply GC_t); exact z_) | (apply n_; exact z_) | (apply GC_f; exact z_) | (apply GX_block_on; exact z_))
    refine JO_call (S := BestW ((bestL k k.boxes).1) ((bestL k k.boxes).2)) rfl rfl (fun w5 hw5 => c54F (upk hw5 (.head _) hW0) hf) ?_
    rintro _ uc0 ud0 hc0 hd0 hl0 ⟨r0, rfl, hr0⟩
    have ir0 := hr0.v1
    repeat' (first | apply s_ | (apply JO_ob; exact rfl; first | exact ob1) | ((first | apply b_ | apply a_ | apply i_); exact z_; intro _) | ((first | apply p_ | apply JO_yes | apply GC_t); exact z_) | (apply n_; exact z_) | (apply GC_f; exact z_) | (apply GX_block_on; exact z_))
    all_goals exact GX_loop (r0, (fun b => uc0.heap.size ≤ b), ud0) ⟨rfl, rfl, rfl, rfl, rfl, rfl, trivial⟩ Nat.zero_lt_one hr0 (fun w hw => hw.cut)
  rintro ⟨rl, Gl, wl⟩ hrl
  simp only at hrl ⊢
  have irl := hrl.v1
  have brl := hrl.bound
  apply GC_seq
  refine GC_mid (α := Unit) (fun s => [(10, .int .i64 0), (11, .int .i64 2), (7, rl), (8, .int .i64 ((bestL k k.boxes).2)), (9, .int .i64 0), (3, pt p3), (1, pv), (2, .int .i64 x)]) (fun s => [(Gl, wl), ((fun _ => True), w)]) (fun s => [(p3, .cells (wkC a b c d e f k).toArray 35)]) (fun s => True) ?_ ?_
  · repeat' (first | apply s_ | (apply JO_ob; exact rfl; first | exact ob1) | ((first | apply b_ | apply a_ | apply i_); exact z_; intro _) | ((first | apply p_ | apply JO_yes | apply GC_t); exact z_) | (apply n_; exact z_) | (apply GC_f; exact z_) | (apply GX_block_on; exact z_))
    refine JO_call (S := TwoW k) rfl rfl (fun w5 hw5 => c23W (hw5.wk mem_ h) ht) ?_
    rintro _ ua0 ub0 ha0 hb0 hk0 ⟨a0, b0, c0, hs0, d0, e0, f0, rfl, hW0⟩
    have iw01 := hW0.yard.fields.v1
    have iw02 := hW0.yard.vats.arr.v1
    have iw03 := hW0.yard.smps.v1
    have iw04 := hW0.beat.vats.v1
    have iw05 := hW0.beat.smps.v1
    have iw06 := hW0.ends.v1
    repeat' (first | apply s_ | (apply JO_ob; exact rfl; first | exact ob1 | exact Ob_call rfl (fun w5 hw5 => c55G (upk hw5 (.head _) hW0) hf hb)) | ((first | apply b_ | apply a_ | apply i_); exact z_; intro _) | ((first | apply p_ | apply JO_yes | apply GC_t); exact z_) | (apply n_; exact z_) | (apply GC_f; exact z_) | (apply GX_block_on; exact z_))
    all_goals exact GX_loop () ⟨rfl, rfl, rfl, rfl, rfl, rfl, rfl, rfl, trivial⟩ Nat.zero_lt_one trivial (fun w hw => hw.cut)
  intro _ _
  try simp only
  apply GC_seq
  refine GC_mid (α := Unit) (fun s => [(12, .bool (planP k l && decide (endV k l ≤ x))), (10, .int .i64 0), (11, .int .i64 2), (7, rl), (8, .int .i64 ((bestL k k.boxes).2)), (9, .int .i64 0), (3, pt p3), (1, pv), (2, .int .i64 x)]) (fun s => [(Gl, wl), ((fun _ => True), w)]) (fun s => [(p3, .cells (wkC a b c d e f k).toArray 35)]) (fun s => True) ?_ ?_
  · repeat' (first | apply s_ | (apply JO_ob; exact rfl; first | exact ob1) | ((first | apply b_ | apply a_ | apply i_); exact z_; intro _) | ((first | apply p_ | apply JO_yes | apply GC_t); exact z_) | (apply n_; exact z_) | (apply GC_f; exact z_) | (apply GX_block_on; exact z_))
    refine JO_call (S := TwoW k) rfl rfl (fun w5 hw5 => c23W (hw5.wk mem_ h) ht) ?_
    rintro _ ua0 ub0 ha0 hb0 hk0 ⟨a0, b0, c0, hs0, d0, e0, f0, rfl, hW0⟩
    have iw01 := hW0.yard.fields.v1
    have iw02 := hW0.yard.vats.arr.v1
    have iw03 := hW0.yard.smps.v1
    have iw04 := hW0.beat.vats.v1
    have iw05 := hW0.beat.smps.v1
    have iw06 := hW0.ends.v1
    repeat' (first | apply s_ | (apply JO_ob; exact rfl; first | exact ob1) | ((first | apply b_ | apply a_ | apply i_); exact z_; intro _) | ((first | apply p_ | apply JO_yes | apply GC_t); exact z_) | (apply n_; exact z_) | (apply GC_f; exact z_) | (apply GX_block_on; exact z_))
    refine JO_call (S := ListW l) rfl rfl (fun w5 hw5 => c34 _ l w5 (hw5.arr mem_ hl) (by omega)) ?_
    rintro _ uc1 ud1 hc1 hd1 hl1 hq1
    have iq1 := hq1.v1
    repeat' (first | apply s_ | (apply JO_ob; exact rfl; first | exact ob1 | exact Ob_call rfl (fun w5 hw5 => c61B (upk hw5 mem_ hW0) hf (up hw5 mem_ hq1) x)) | ((first | apply b_ | apply a_ | apply i_); exact z_; intro _) | ((first | apply p_ | apply JO_yes | apply GC_t); exact z_) | (apply n_; exact z_) | (apply GC_f; exact z_) | (apply GX_block_on; exact z_))
    all_goals exact GX_loop () ⟨rfl, rfl, rfl, rfl, rfl, rfl, rfl, rfl, rfl, trivial⟩ Nat.zero_lt_one trivial (fun w hw => hw.cut)
  intro _ _
  try simp only
  apply GC_seq
  refine GC_mid (α := VG) (fun s => [(13, s.1), (14, .int .i64 0), (12, .bool (planP k l && decide (endV k l ≤ x))), (10, .int .i64 0), (11, .int .i64 2), (7, rl), (8, .int .i64 ((bestL k k.boxes).2)), (9, .int .i64 0), (3, pt p3), (1, pv), (2, .int .i64 x)]) (fun s => [(s.2.1, s.2.2), (Gl, wl), ((fun _ => True), w)]) (fun s => [(p3, .cells (wkC a b c d e f k).toArray 35)]) (fun s => ∃ es, PNest s.2.1 s.2.2 s.1 es (pairs k)) ?_ ?_
  · repeat' (first | apply s_ | (apply JO_ob; exact rfl; first | exact ob1) | ((first | apply b_ | apply a_ | apply i_); exact z_; intro _) | ((first | apply p_ | apply JO_yes | apply GC_t); exact z_) | (apply n_; exact z_) | (apply GC_f; exact z_) | (apply GX_block_on; exact z_))
    refine JO_call (S := fun w0 v w1 => ∃ u es, v = .tuple #[u, .int .i64 0] ∧ PNest (New w0) w1 u es (pairs k)) rfl rfl (fun w5 hw5 => (c24 (hw5.wk mem_ h) true).mono fun v w6 ⟨kp, g⟩ => ⟨kp, ?_⟩) ?_
    · rcases g with g | g | g
      · exact absurd hf g.1
      · cases g.2.1
      · exact g.2.2
    rintro _ uc0 ud0 hu6 hu7 hk3 ⟨r0, es, rfl, hr0⟩
    have iav := hr0.arr.v1
    repeat' (first | apply s_ | (apply JO_ob; exact rfl; first | exact ob1) | ((first | apply b_ | apply a_ | apply i_); exact z_; intro _) | ((first | apply p_ | apply JO_yes | apply GC_t); exact z_) | (apply n_; exact z_) | (apply GC_f; exact z_) | (apply GX_block_on; exact z_))
    all_goals exact GX_loop (r0, (fun b => uc0.heap.size ≤ b), ud0) ⟨rfl, rfl, rfl, rfl, rfl, rfl, rfl, rfl, rfl, rfl, rfl, trivial⟩ Nat.zero_lt_one ⟨es, hr0⟩ (fun w hw => hw.cut)
  rintro ⟨av, Ga, wa⟩ ⟨es, hP⟩
  simp only at hP ⊢
  have iav := hP.arr.v1
  apply GC_seq
  refine GC_mid (α := Unit) (fun s => [(13, av), (14, .int .i64 0), (12, .bool (planP k l && decide (endV k l ≤ x))), (10, .int .i64 0), (11, .int .i64 2), (7, rl), (8, .int .i64 ((bestL k k.boxes).2)), (9, .int .i64 0), (3, pt p3), (1, pv), (2, .int .i64 x)]) (fun s => [(Ga, wa), (Gl, wl), ((fun _ => True), w)]) (fun s => [(p3, .cells (wkC a b c d e f k).toArray 35)]) (fun s => True) ?_ ?_
  · repeat' (first | apply s_ | (apply JO_ob; exact rfl; first | exact ob1) | ((first | apply b_ | apply a_ | apply i_); exact z_; intro _) | ((first | apply p_ | apply JO_yes | apply GC_t); exact z_) | (apply n_; exact z_) | (apply GC_f; exact z_) | (apply GX_block_on; exact z_))
    all_goals exact GX_loop () ⟨rfl, rfl, rfl, rfl, rfl, rfl, rfl, rfl, rfl, rfl, rfl, trivial⟩ Nat.zero_lt_one trivial (fun w hw => hw.cut)
  intro _ _
  try simp only
  apply GC_seq
  refine GC_mid (α := VG) (fun s => [(15, s.1), (16, .int .i64 (bestL k (k.boxes)).2), (13, av), (14, .int .i64 0), (12, .bool (planP k l && decide (endV k l ≤ x))), (10, .int .i64 0), (11, .int .i64 2), (7, rl), (8, .int .i64 ((bestL k k.boxes).2)), (9, .int .i64 0), (3, pt p3), (1, pv), (2, .int .i64 x)]) (fun s => [(s.2.1, s.2.2), (Ga, wa), (Gl, wl), ((fun _ => True), w)]) (fun s => [(p3, .cells (wkC a b c d e f k).toArray 35)]) (fun s => Arr s.2.1 s.2.2 1 encI s.1 (bestL k (k.boxes)).1) ?_ ?_
  · repeat' (first | apply s_ | (apply JO_ob; exact rfl; first | exact ob1) | ((first | apply b_ | apply a_ | apply i_); exact z_; intro _) | ((first | apply p_ | apply JO_yes | apply GC_t); exact z_) | (apply n_; exact z_) | (apply GC_f; exact z_) | (apply GX_block_on; exact z_))
    refine JO_call (S := BstW (bestL k (k.boxes)).1 (bestL k (k.boxes)).2) rfl rfl (fun w5 hw5 => c62B (hw5.wk mem_ h) hK (pn_up hw5 mem_ hP) (k.boxes) (by omega)) ?_
    rintro _ uc0 ud0 hc0 hd0 hl0 ⟨r0, rfl, hr0⟩
    have ir0 := hr0.v1
    repeat' (first | apply s_ | (apply JO_ob; exact rfl; first | exact ob1) | ((first | apply b_ | apply a_ | apply i_); exact z_; intro _) | ((first | apply p_ | apply JO_yes | apply GC_t); exact z_) | (apply n_; exact z_) | (apply GC_f; exact z_) | (apply GX_block_on; exact z_))
    all_goals exact GX_loop (r0, (fun b => uc0.heap.size ≤ b), ud0) ⟨rfl, rfl, rfl, rfl, rfl, rfl, rfl, rfl, rfl, rfl, rfl, rfl, rfl, trivial⟩ Nat.zero_lt_one hr0 (fun w hw => hw.cut)
  rintro ⟨rb, Gb, wb⟩ hrb
  simp only at hrb ⊢
  have irb := hrb.v1
  have brb := hrb.bound
  apply GC_seq
  refine GC_mid (α := Unit) (fun s => [(15, rb), (16, .int .i64 (bestL k (k.boxes)).2), (13, av), (14, .int .i64 0), (10, .int .i64 0), (11, .int .i64 2), (7, rl), (8, .int .i64 ((bestL k k.boxes).2)), (9, .int .i64 0), (3, pt p3), (1, pv), (2, .int .i64 x)]) (fun s => [(Gb, wb), (Ga, wa), (Gl, wl), ((fun _ => True), w)]) (fun s => [(p3, .cells (wkC a b c d e f k).toArray 35)]) (fun s => True) ?_ ?_
  · cases hp : planP k l
    · repeat' (first | apply s_ | (apply JO_ob; exact rfl; first | exact ob1 | exact Ob_call rfl (fun w5 hw5 => c36F (hw5.wk mem_ h) (hw5.arr mem_ hl) hp) | exact Ob_neb rfl rfl | exact Ob_call rfl (fun w5 hw5 => c40T w5 _ _ _ (up hw5 mem_ hrl) (up hw5 mem_ hrb))) | ((first | apply b_ | apply a_ | apply i_); exact z_; intro _) | ((first | apply p_ | apply JO_yes | apply GC_t); exact z_) | (apply n_; exact z_) | (apply GC_f; exact z_) | (apply GX_block_on; exact z_))
      all_goals exact GX_loop () ⟨rfl, rfl, rfl, rfl, rfl, rfl, rfl, rfl, rfl, rfl, rfl, rfl, trivial⟩ Nat.zero_lt_one trivial (fun w hw => hw.cut)
    by_cases he : endV k l ≤ x
    · rw [decide_eq_true he]
      repeat' (first | apply s_ | (apply JO_ob; exact rfl; first | exact ob1 | exact Ob_call rfl (fun w5 hw5 => c36T (hw5.wk mem_ h) (hw5.arr mem_ hl) hp) | exact Ob_call rfl (fun w5 hw5 => c63 (hw5.wk mem_ h) hK (pn_up hw5 mem_ hP) (hw5.arr mem_ hl) (planP_len hp)) | exact Ob_neb rfl rfl | exact Ob_call rfl (fun w5 hw5 => c40T w5 _ _ _ (up hw5 mem_ hrl) (up hw5 mem_ hrb))) | ((first | apply b_ | apply a_ | apply i_); exact z_; intro _) | ((first | apply p_ | apply JO_yes | apply GC_t); exact z_) | (apply n_; exact z_) | (apply GC_f; exact z_) | (apply GX_block_on; exact z_))
      all_goals exact GX_loop () ⟨rfl, rfl, rfl, rfl, rfl, rfl, rfl, rfl, rfl, rfl, rfl, rfl, trivial⟩ Nat.zero_lt_one trivial (fun w hw => hw.cut)
    rw [decide_eq_false he]
    repeat' (first | apply s_ | (apply JO_ob; exact rfl; first | exact ob1 | exact Ob_call rfl (fun w5 hw5 => c36T (hw5.wk mem_ h) (hw5.arr mem_ hl) hp) | exact Ob_call rfl (fun w5 hw5 => c63 (hw5.wk mem_ h) hK (pn_up hw5 mem_ hP) (hw5.arr mem_ hl) (planP_len hp)) | exact Ob_neb rfl rfl | exact Ob_call rfl (fun w5 hw5 => c40T w5 _ _ _ (up hw5 mem_ hrl) (up hw5 mem_ hrb))) | ((first | apply b_ | apply a_ | apply i_); exact z_; intro _) | ((first | apply p_ | apply JO_yes | apply GC_t); exact z_) | (apply n_; exact z_) | (apply GC_f; exact z_) | (apply GX_block_on; exact z_))
    all_goals exact GX_loop () ⟨rfl, rfl, rfl, rfl, rfl, rfl, rfl, rfl, rfl, rfl, rfl, rfl, trivial⟩ Nat.zero_lt_one trivial (fun w hw => hw.cut)
  intro _ _
  try simp only
  repeat' (first | apply s_ | (apply JO_ob; exact rfl; first | exact ob1 | exact Ob_call rfl (fun w5 _ => c21 w5)) | ((first | apply b_ | apply a_ | apply i_); exact z_; intro _) | ((first | apply p_ | apply JO_yes | apply GC_t); exact z_) | (apply n_; exact z_) | (apply GC_f; exact z_) | (apply GX_block_on; exact z_))
  exact GX_ex rfl rfl mem_ rfl

set_option maxHeartbeats 2000000 in
theorem law17 (h : WkA All w a b c hs d e f k) (x : Int) (hx : -9223372036854775808 ≤ x ∧ x ≤ 9223372036854775807) (hl : Arr All w 1 encI pv l) : Ex 17 [wkV a b c d e f k, pv, .int .i64 x] w (.bool true) := by
  have i1 := h.yard.fields.v1
  have i2 := h.yard.vats.arr.v1
  have i3 := h.yard.smps.v1
  have i4 := h.beat.vats.v1
  have i5 := h.beat.smps.v1
  have i6 := h.ends.v1
  have i7 := hl.v1
  have bl := hl.bound
  cases ht : thinW k
  · refine Rt_of Tryz.func17 rfl Tryz.ntmps17 rfl ?_
    repeat' (first | apply s_ | (apply JO_ob; exact rfl; first | exact ob1 | exact Ob_call rfl (fun w5 hw5 => c20F (hw5.wk mem_ h) ht) | exact Ob_call rfl (fun w5 _ => c21 w5)) | ((first | apply b_ | apply a_ | apply i_); exact z_; intro _) | ((first | apply p_ | apply JO_yes | apply GC_t); exact z_) | (apply n_; exact z_) | (apply GC_f; exact z_) | (apply GX_block_on; exact z_))
    exact GX_ex rfl rfl mem_ rfl
  by_cases h30 : 30 < l.length
  · refine Rt_of Tryz.func17 rfl Tryz.ntmps17 rfl ?_
    repeat' (first | apply s_ | (apply JO_ob; exact rfl; first | exact ob1 | exact Ob_call rfl (fun w5 hw5 => c20T (hw5.wk mem_ h) ht) | exact Ob_call rfl (fun w5 _ => c21 w5)) | ((first | apply b_ | apply a_ | apply i_); exact z_; intro _) | ((first | apply p_ | apply JO_yes | apply GC_t); exact z_) | (apply n_; exact z_) | (apply GC_f; exact z_) | (apply GX_block_on; exact z_))
    exact GX_ex rfl rfl mem_ rfl
  by_cases hf : fault9 k = 0
  · by_cases hb : k.boxes < 3
    · exact law17_lt h hl x hx ht (by omega) hf hb
    · exact law17_ge h hl x hx ht (by omega) hf hb
  refine Rt_of Tryz.func17 rfl Tryz.ntmps17 rfl ?_
  repeat' (first | apply s_ | (apply JO_ob; exact rfl; first | exact ob1 | exact Ob_call rfl (fun w5 hw5 => c20T (hw5.wk mem_ h) ht)) | ((first | apply b_ | apply a_ | apply i_); exact z_; intro _) | ((first | apply p_ | apply JO_yes | apply GC_t); exact z_) | (apply n_; exact z_) | (apply GC_f; exact z_) | (apply GX_block_on; exact z_))
  refine JO_call (S := TwoW k) rfl rfl (fun w5 hw5 => c23W (hw5.wk mem_ h) ht) ?_
  rintro _ ua0 ub0 ha0 hb0 hk0 ⟨a0, b0, c0, hs0, d0, e0, f0, rfl, hW0⟩
  have iw01 := hW0.yard.fields.v1
  have iw02 := hW0.yard.vats.arr.v1
  have iw03 := hW0.yard.smps.v1
  have iw04 := hW0.beat.vats.v1
  have iw05 := hW0.beat.smps.v1
  have iw06 := hW0.ends.v1
  repeat' (first | apply s_ | (apply JO_ob; exact rfl; first | exact ob1) | ((first | apply b_ | apply a_ | apply i_); exact z_; intro _) | ((first | apply p_ | apply JO_yes | apply GC_t); exact z_) | (apply n_; exact z_) | (apply GC_f; exact z_) | (apply GX_block_on; exact z_))
  refine JO_call (S := fun w0 v w1 => ∃ u l0, v = .tuple #[u, .int .i64 0, .int .i64 (fault9 k)] ∧ l0.length = 0 ∧ Arr (New w0) w1 1 encI u l0) rfl rfl (fun w5 hw5 => (c54 (upk hw5 (.head _) hW0)).mono fun v w6 ⟨kp, g⟩ => ⟨kp, ?_⟩) ?_
  · have e : bestV k = ([], 0) := by rw [bestV, if_pos hf]
    rw [e] at g; obtain ⟨u, e, g⟩ := g; exact ⟨u, [], e, rfl, g⟩
  rintro _ u2 u3 hu2 hu3 hk1 ⟨r0, l0, rfl, hl0, hr0⟩
  have ir0 := hr0.v1
  have em : moreV k = (0, fault9 k) := by rw [moreV, if_pos hf]
  repeat' (first | apply s_ | (apply JO_ob; exact rfl; first | exact ob1) | ((first | apply b_ | apply a_ | apply i_); exact z_; intro _) | ((first | apply p_ | apply JO_yes | apply GC_t); exact z_) | (apply n_; exact z_) | (apply GC_f; exact z_) | (apply GX_block_on; exact z_))
  refine JO_call (S := TwoW k) rfl rfl (fun w5 hw5 => c23W (hw5.wk mem_ h) ht) ?_
  rintro _ ua1 ub1 ha1 hb1 hk1 ⟨a1, b1, c1, hs1, d1, e1, f1, rfl, hW1⟩
  have iw11 := hW1.yard.fields.v1
  have iw12 := hW1.yard.vats.arr.v1
  have iw13 := hW1.yard.smps.v1
  have iw14 := hW1.beat.vats.v1
  have iw15 := hW1.beat.smps.v1
  have iw16 := hW1.ends.v1
  repeat' (first | apply s_ | (apply JO_ob; exact rfl; first | exact ob1 | exact Ob_call rfl (fun w5 hw5 => em ▸ c55 (upk hw5 (.head _) hW1))) | ((first | apply b_ | apply a_ | apply i_); exact z_; intro _) | ((first | apply p_ | apply JO_yes | apply GC_t); exact z_) | (apply n_; exact z_) | (apply GC_f; exact z_) | (apply GX_block_on; exact z_))
  refine JO_call (S := TwoW k) rfl rfl (fun w5 hw5 => c23W (hw5.wk mem_ h) ht) ?_
  rintro _ ua2 ub2 ha2 hb2 hk2 ⟨a2, b2, c2, hs2, d2, e2, f2, rfl, hW2⟩
  have iw21 := hW2.yard.fields.v1
  have iw22 := hW2.yard.vats.arr.v1
  have iw23 := hW2.yard.smps.v1
  have iw24 := hW2.beat.vats.v1
  have iw25 := hW2.beat.smps.v1
  have iw26 := hW2.ends.v1
  repeat' (first | apply s_ | (apply JO_ob; exact rfl; first | exact ob1) | ((first | apply b_ | apply a_ | apply i_); exact z_; intro _) | ((first | apply p_ | apply JO_yes | apply GC_t); exact z_) | (apply n_; exact z_) | (apply GC_f; exact z_) | (apply GX_block_on; exact z_))
  refine JO_call (S := ListW l) rfl rfl (fun w5 hw5 => c34 _ l w5 (hw5.arr mem_ hl) (by omega)) ?_
  rintro _ uc1 ud1 hc1 hd1 hl1 hq1
  have iq1 := hq1.v1
  repeat' (first | apply s_ | (apply JO_ob; exact rfl; first | exact ob1 | exact Ob_call rfl (fun w5 hw5 => c61N (upk hw5 mem_ hW2) hf (up hw5 mem_ hq1) x)) | ((first | apply b_ | apply a_ | apply i_); exact z_; intro _) | ((first | apply p_ | apply JO_yes | apply GC_t); exact z_) | (apply n_; exact z_) | (apply GC_f; exact z_) | (apply GX_block_on; exact z_))
  refine JO_call (S := fun w0 v w1 => v = .tuple #[.slice none 0 0, .int .i64 (fault9 k)]) rfl rfl (fun w5 hw5 => (c24 (hw5.wk mem_ h) true).mono fun v w6 ⟨kp, g⟩ => ⟨kp, ?_⟩) ?_
  · rcases g with g | g | g
    · exact g.2
    · exact absurd g.1 hf
    · exact absurd g.1 hf
  rintro _ u6 u7 hu6 hu7 hk3 rfl
  repeat' (first | apply s_ | (apply JO_ob; exact rfl; first | exact ob1 | exact Ob_call rfl (fun w5 _ => c21 w5)) | ((first | apply b_ | apply a_ | apply i_); exact z_; intro _) | ((first | apply p_ | apply JO_yes | apply GC_t); exact z_) | (apply n_; exact z_) | (apply GC_f; exact z_) | (apply GX_block_on; exact z_))
  exact GX_ex rfl rfl mem_ rfl
end
end Go.Proofs.YtkbaaikidhbfmaaGreat
