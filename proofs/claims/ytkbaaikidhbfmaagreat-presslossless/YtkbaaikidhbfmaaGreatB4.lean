/- The walks of the functions that the laws of the chapter 09 reach, and what they compute, part 4. No statement is proved here; no condition. -/
import Derived.Test.YtkbaaikidhbfmaaGreatB3
/- Contracts: the program's error of works. No statement is proved here. -/
set_option linter.unusedVariables false
set_option linter.unusedSimpArgs false
namespace Go.Proofs.YtkbaaikidhbfmaaGreat
open Go.RowKit
theorem truths1_nil {y : Yd} (h : OkF y.fields) (hm : many1 y.fields ≤ 2000) : (truths1 y).length = 0 ↔ truthsX y = [] := by
  rw [List.length_eq_zero_iff, List.eq_nil_iff_forall_not_mem, List.eq_nil_iff_forall_not_mem]
  exact forall_congr' fun l => not_congr (mem_truths1 h hm)
theorem truths3_nil {y : Bt} (h : OkB y) : (truths3 y).length = 0 ↔ truthsW y = [] := by
  rw [List.length_eq_zero_iff, List.eq_nil_iff_forall_not_mem, List.eq_nil_iff_forall_not_mem]
  constructor
  · intro h1 l hl
    exact h1 (toC l) ((mem_truths3 h).2 ⟨l, hl, rfl⟩)
  · intro h1 c hc
    obtain ⟨l, hl, _⟩ := (mem_truths3 h).1 hc
    exact h1 l hl
/-- How many truths there may be, up to 6001. -/
theorem prodS_app : ∀ (xs ys : List Rg), prodS (xs ++ ys) = prodS xs * prodS ys
  | [], ys => by simp [prodS]
  | x :: xs, ys => by simp [prodS, prodS_app xs ys, Int.mul_assoc]
theorem okF_app {xs ys : List Rg} (hx : OkF xs) (hy : OkF ys) : OkF (xs ++ ys) := fun i hi => by
  by_cases h : i < xs.length
  · rw [nth_app_l h]; exact hx i h
  · have e : nth (xs ++ ys) i = nth ys (i - xs.length) := by simp [nth, List.getElem?_append_right (by omega : xs.length ≤ i)]
    rw [e]; exact hy _ (by simp at hi; omega)
set_option maxHeartbeats 2000000 in
theorem c25 {w : World} {a b c : Value} {hs : List Value} {d e f : Value} {k : Wk} (h : WkA All w a b c hs d e f k) : Ex 25 [wkV a b c d e f k] w (.int .i64 (fault9 k)) := by
  have i1 := h.yard.fields.v1
  have i2 := h.yard.vats.arr.v1
  have i3 := h.yard.smps.v1
  have i4 := h.beat.vats.v1
  have i5 := h.beat.smps.v1
  have i6 := h.ends.v1
  have ha := h.beat.vats
  have he := h.ends
  have b1 := ha.bound
  have b2 := he.bound
  refine Rt_of Tryz.func25 rfl Tryz.ntmps25 rfl ?_
  repeat' (first | apply s_ | ((first | apply JO_ob | apply GD_ex | apply GL_ex); exact rfl; first | exact ob1) | ((first | apply b_ | apply a_ | apply i_); exact z_; intro _) | ((first | apply p_ | apply JO_yes | apply GC_t); exact z_) | (apply n_; exact z_) | (apply GC_f; exact z_) | (apply GX_block_on; exact z_) | refine GC_drawA (id := 8) [0, 1, 2, 3, 4, 5, 6, 7, 8, 9, 10, 11, 12, 13, 14, 15, 16, 17, 18, 19, 20, 21, 22] [] (by kernel_rfl) ?_ | refine GC_drawB (id := 13) [0] [2, 7] [1, 3, 4, 5, 6] _ (by kernel_rfl) (List.Sublist.refl _) ?_ | ((first | apply GD_at | apply GL_at | apply GD_no | apply GL_no); exact rfl) | apply DFin_0 | (apply q1_; exact z_) | (apply q0_; exact z_) | (apply q2_; exact z_) | (apply c_; exact z_; all_goals intro _) | (apply g_; exact z_; all_goals intro _))
  refine JO_call (S := fun w0 v w' => ((fault1 k.yard ≠ 0 ∧ v = .tuple #[.slice none 0 0, .int .i64 (fault1 k.yard)]) ∨ (fault1 k.yard = 0 ∧ truthsX k.yard = [] ∧ v = .tuple #[.slice none 0 0, .int .i64 11]) ∨
       (fault1 k.yard = 0 ∧ truthsX k.yard ≠ [] ∧ ∃ u, v = .tuple #[u, .int .i64 0] ∧ Arr (New w0) w' 2 encR u (bnds k.yard.vats.length (dots k.yard (truthsX k.yard)))))) rfl rfl (fun w5 hw5 => c46 w5 a b c hs k.yard (hw5.yd mem_ h.yard)) ?_
  rintro r u0 u1 hu0 hu1 hk01 (⟨hf, rfl⟩ | ⟨hf, ht, rfl⟩ | ⟨hf, ht, u, rfl, hu⟩)
  · repeat' (first | apply s_ | ((first | apply JO_ob | apply GD_ex | apply GL_ex); exact rfl; first | exact ob1) | ((first | apply b_ | apply a_ | apply i_); exact z_; intro _) | ((first | apply p_ | apply JO_yes | apply GC_t); exact z_) | (apply n_; exact z_) | (apply GC_f; exact z_) | (apply GX_block_on; exact z_) | refine GC_drawA (id := 8) [0, 1, 2, 3, 4, 5, 6, 7, 8, 9, 10, 11, 12, 13, 14, 15, 16, 17, 18, 19, 20, 21, 22] [] (by kernel_rfl) ?_ | refine GC_drawB (id := 13) [0] [2, 7] [1, 3, 4, 5, 6] _ (by kernel_rfl) (List.Sublist.refl _) ?_ | ((first | apply GD_at | apply GL_at | apply GD_no | apply GL_no); exact rfl) | apply DFin_0 | (apply q1_; exact z_) | (apply q0_; exact z_) | (apply q2_; exact z_) | (apply c_; exact z_; all_goals intro _) | (apply g_; exact z_; all_goals intro _))
    refine GX_ex rfl rfl mem_ ?_
    rw [fault9, if_pos hf]
  · obtain ⟨hO, hm⟩ := okY_of hf
    repeat' (first | apply s_ | ((first | apply JO_ob | apply GD_ex | apply GL_ex); exact rfl; first | exact ob1) | ((first | apply b_ | apply a_ | apply i_); exact z_; intro _) | ((first | apply p_ | apply JO_yes | apply GC_t); exact z_) | (apply n_; exact z_) | (apply GC_f; exact z_) | (apply GX_block_on; exact z_) | refine GC_drawA (id := 8) [0, 1, 2, 3, 4, 5, 6, 7, 8, 9, 10, 11, 12, 13, 14, 15, 16, 17, 18, 19, 20, 21, 22] [] (by kernel_rfl) ?_ | refine GC_drawB (id := 13) [0] [2, 7] [1, 3, 4, 5, 6] _ (by kernel_rfl) (List.Sublist.refl _) ?_ | ((first | apply GD_at | apply GL_at | apply GD_no | apply GL_no); exact rfl) | apply DFin_0 | (apply q1_; exact z_) | (apply q0_; exact z_) | (apply q2_; exact z_) | (apply c_; exact z_; all_goals intro _) | (apply g_; exact z_; all_goals intro _))
    refine GX_ex rfl rfl mem_ ?_
    rw [fault9, if_neg (fun h => h hf), if_pos ((truths1_nil hO.f hm).2 ht)]
  obtain ⟨hO, hm⟩ := okY_of hf
  have ht1 : ¬ (truths1 k.yard).length = 0 := fun h => ht ((truths1_nil hO.f hm).1 h)
  have iu := hu.v1
  repeat' (first | apply s_ | ((first | apply JO_ob | apply GD_ex | apply GL_ex); exact rfl; first | exact ob1) | ((first | apply b_ | apply a_ | apply i_); exact z_; intro _) | ((first | apply p_ | apply JO_yes | apply GC_t); exact z_) | (apply n_; exact z_) | (apply GC_f; exact z_) | (apply GX_block_on; exact z_) | refine GC_drawA (id := 8) [0, 1, 2, 3, 4, 5, 6, 7, 8, 9, 10, 11, 12, 13, 14, 15, 16, 17, 18, 19, 20, 21, 22] [] (by kernel_rfl) ?_ | refine GC_drawB (id := 13) [0] [2, 7] [1, 3, 4, 5, 6] _ (by kernel_rfl) (List.Sublist.refl _) ?_ | ((first | apply GD_at | apply GL_at | apply GD_no | apply GL_no); exact rfl) | apply DFin_0 | (apply q1_; exact z_) | (apply q0_; exact z_) | (apply q2_; exact z_) | (apply c_; exact z_; all_goals intro _) | (apply g_; exact z_; all_goals intro _))
  refine JO_call (S := fun w0 v w' => ∃ u, v = .tuple #[u, .int .i64 (if fault3 k.beat ≠ 0 then fault3 k.beat else if truthsW k.beat = [] then 11 else 0)]) rfl rfl (fun w5 hw5 => c73 w5 d e k.beat (hw5.bt (.tail _ (.head _)) h.beat)) ?_
  rintro r u2 u3 hu2 hu3 hk23 ⟨u', rfl⟩
  have e9 : fault9 k = if fault3 k.beat ≠ 0 then fault3 k.beat else if (truths3 k.beat).length = 0 then 11
      else if k.beat.vats.length ≠ k.yard.vats.length then 1 else if areEnd k.beat k.ends = false then 1 else if isNum k = false then 1 else if 6000 < many1 k.yard.fields * many3 k.beat then 3 else 0 := by
    rw [fault9, if_neg (fun h => h hf), if_neg ht1]
  rw [e9]
  by_cases hf3 : fault3 k.beat = 0
  rotate_left
  · rw [if_pos hf3, if_pos hf3]
    repeat' (first | apply s_ | ((first | apply JO_ob | apply GD_ex | apply GL_ex); exact rfl; first | exact ob1) | ((first | apply b_ | apply a_ | apply i_); exact z_; intro _) | ((first | apply p_ | apply JO_yes | apply GC_t); exact z_) | (apply n_; exact z_) | (apply GC_f; exact z_) | (apply GX_block_on; exact z_) | refine GC_drawA (id := 8) [0, 1, 2, 3, 4, 5, 6, 7, 8, 9, 10, 11, 12, 13, 14, 15, 16, 17, 18, 19, 20, 21, 22] [] (by kernel_rfl) ?_ | refine GC_drawB (id := 13) [0] [2, 7] [1, 3, 4, 5, 6] _ (by kernel_rfl) (List.Sublist.refl _) ?_ | ((first | apply GD_at | apply GL_at | apply GD_no | apply GL_no); exact rfl) | apply DFin_0 | (apply q1_; exact z_) | (apply q0_; exact z_) | (apply q2_; exact z_) | (apply c_; exact z_; all_goals intro _) | (apply g_; exact z_; all_goals intro _))
    (first | exact GX_ex rfl rfl mem_ rfl | exact GX_exc rfl rfl mem_ rfl mem_ rfl)
  obtain ⟨hB, hm3⟩ := okB_of hf3
  have n0 : ¬ (fault3 k.beat ≠ 0) := fun h => h hf3
  rw [if_neg n0, if_neg n0]
  by_cases ht3 : truthsW k.beat = []
  · rw [if_pos ht3, if_pos ((truths3_nil hB).2 ht3)]
    repeat' (first | apply s_ | ((first | apply JO_ob | apply GD_ex | apply GL_ex); exact rfl; first | exact ob1) | ((first | apply b_ | apply a_ | apply i_); exact z_; intro _) | ((first | apply p_ | apply JO_yes | apply GC_t); exact z_) | (apply n_; exact z_) | (apply GC_f; exact z_) | (apply GX_block_on; exact z_) | refine GC_drawA (id := 8) [0, 1, 2, 3, 4, 5, 6, 7, 8, 9, 10, 11, 12, 13, 14, 15, 16, 17, 18, 19, 20, 21, 22] [] (by kernel_rfl) ?_ | refine GC_drawB (id := 13) [0] [2, 7] [1, 3, 4, 5, 6] _ (by kernel_rfl) (List.Sublist.refl _) ?_ | ((first | apply GD_at | apply GL_at | apply GD_no | apply GL_no); exact rfl) | apply DFin_0 | (apply q1_; exact z_) | (apply q0_; exact z_) | (apply q2_; exact z_) | (apply c_; exact z_; all_goals intro _) | (apply g_; exact z_; all_goals intro _))
    (first | exact GX_ex rfl rfl mem_ rfl | exact GX_exc rfl rfl mem_ rfl mem_ rfl)
  have n1 : ¬ (truths3 k.beat).length = 0 := fun h => ht3 ((truths3_nil hB).1 h)
  rw [if_neg ht3, if_neg n1]
  repeat' (first | apply s_ | ((first | apply JO_ob | apply GD_ex | apply GL_ex); exact rfl; first | exact ob1 | exact Ob_makeFuncR rfl rfl | exact Ob_call rfl (fun w hw => c75w (hw.wk (.tail _ (.tail _ (.head _))) h))) | ((first | apply b_ | apply a_ | apply i_); exact z_; intro _) | ((first | apply p_ | apply JO_yes | apply GC_t); exact z_) | (apply n_; exact z_) | (apply GC_f; exact z_) | (apply GX_block_on; exact z_) | refine GC_drawA (id := 8) [0, 1, 2, 3, 4, 5, 6, 7, 8, 9, 10, 11, 12, 13, 14, 15, 16, 17, 18, 19, 20, 21, 22] [] (by kernel_rfl) ?_ | refine GC_drawB (id := 13) [0] [2, 7] [1, 3, 4, 5, 6] _ (by kernel_rfl) (List.Sublist.refl _) ?_ | ((first | apply GD_at | apply GL_at | apply GD_no | apply GL_no); exact rfl) | apply DFin_0 | (apply q1_; exact z_) | (apply q0_; exact z_) | (apply q2_; exact z_))
  by_cases hl1 : k.beat.vats.length = k.yard.vats.length
  rotate_left
  · rw [if_pos hl1]
    repeat' (first | apply s_ | ((first | apply JO_ob | apply GD_ex | apply GL_ex); exact rfl; first | exact ob1 | exact Ob_call rfl (fun w hw => c75w (hw.wk (.tail _ (.tail _ (.head _))) h))) | ((first | apply b_ | apply a_ | apply i_); exact z_; intro _) | ((first | apply p_ | apply JO_yes | apply GC_t); exact z_) | (apply n_; exact z_) | (apply GC_f; exact z_) | (apply GX_block_on; exact z_) | refine GC_drawA (id := 8) [0, 1, 2, 3, 4, 5, 6, 7, 8, 9, 10, 11, 12, 13, 14, 15, 16, 17, 18, 19, 20, 21, 22] [] (by kernel_rfl) ?_ | refine GC_drawB (id := 13) [0] [2, 7] [1, 3, 4, 5, 6] _ (by kernel_rfl) (List.Sublist.refl _) ?_ | ((first | apply GD_at | apply GL_at | apply GD_no | apply GL_no); exact rfl) | apply DFin_0 | (apply q1_; exact z_) | (apply q0_; exact z_) | (apply q2_; exact z_) | (apply c_; exact z_; all_goals intro _) | (apply g_; exact z_; all_goals intro _))
    (first | exact GX_ex rfl rfl mem_ rfl | exact GX_exc rfl rfl mem_ rfl mem_ rfl)
  have n2 : ¬ (k.beat.vats.length ≠ k.yard.vats.length) := fun h => h hl1
  rw [if_neg n2]
  by_cases hl2 : k.ends.length = k.yard.vats.length
  rotate_left
  · have hq : areEnd k.beat k.ends = false := by simp only [areEnd]; rw [decide_eq_false (show ¬ k.ends.length = k.beat.vats.length by omega), Bool.and_false]
    rw [if_pos hq]
    repeat' (first | apply s_ | ((first | apply JO_ob | apply GD_ex | apply GL_ex); exact rfl; first | exact ob1 | exact Ob_call rfl (fun w hw => c75w (hw.wk (.tail _ (.tail _ (.head _))) h))) | ((first | apply b_ | apply a_ | apply i_); exact z_; intro _) | ((first | apply p_ | apply JO_yes | apply GC_t); exact z_) | (apply n_; exact z_) | (apply GC_f; exact z_) | (apply GX_block_on; exact z_) | refine GC_drawA (id := 8) [0, 1, 2, 3, 4, 5, 6, 7, 8, 9, 10, 11, 12, 13, 14, 15, 16, 17, 18, 19, 20, 21, 22] [] (by kernel_rfl) ?_ | refine GC_drawB (id := 13) [0] [2, 7] [1, 3, 4, 5, 6] _ (by kernel_rfl) (List.Sublist.refl _) ?_ | ((first | apply GD_at | apply GL_at | apply GD_no | apply GL_no); exact rfl) | apply DFin_0 | (apply q1_; exact z_) | (apply q0_; exact z_) | (apply q2_; exact z_) | (apply c_; exact z_; all_goals intro _) | (apply g_; exact z_; all_goals intro _))
    (first | exact GX_ex rfl rfl mem_ rfl | exact GX_exc rfl rfl mem_ rfl mem_ rfl)
  repeat' (first | apply s_ | ((first | apply JO_ob | apply GD_ex | apply GL_ex); exact rfl; first | exact ob1 | exact Ob_makeFuncR rfl rfl | exact Ob_call rfl (fun w hw => c75w (hw.wk (.tail _ (.tail _ (.head _))) h)) | exact Ob_call rfl (fun w5 hw5 => c76 f _ k.ends (fun x => decide (0 ≤ x ∧ x ≤ k.beat.last)) w5 (hw5.arr (.tail _ (.tail _ (.head _))) he) (p74 (hw5.wk (.tail _ (.tail _ (.head _))) h)))) | ((first | apply b_ | apply a_ | apply i_); exact z_; intro _) | ((first | apply p_ | apply JO_yes | apply GC_t); exact z_) | (apply n_; exact z_) | (apply GC_f; exact z_) | (apply GX_block_on; exact z_) | refine GC_drawA (id := 8) [0, 1, 2, 3, 4, 5, 6, 7, 8, 9, 10, 11, 12, 13, 14, 15, 16, 17, 18, 19, 20, 21, 22] [] (by kernel_rfl) ?_ | refine GC_drawB (id := 13) [0] [2, 7] [1, 3, 4, 5, 6] _ (by kernel_rfl) (List.Sublist.refl _) ?_ | ((first | apply GD_at | apply GL_at | apply GD_no | apply GL_no); exact rfl) | apply DFin_0 | (apply q1_; exact z_) | (apply q0_; exact z_) | (apply q2_; exact z_))
  have hAE : areEnd k.beat k.ends = k.ends.all (fun x => decide (0 ≤ x ∧ x ≤ k.beat.last)) := by
    simp only [areEnd]; rw [decide_eq_true (show k.ends.length = k.beat.vats.length by omega), Bool.and_true]
  rw [hAE]
  cases hE : k.ends.all (fun x => decide (0 ≤ x ∧ x ≤ k.beat.last))
  · rw [if_pos rfl]
    repeat' (first | apply s_ | ((first | apply JO_ob | apply GD_ex | apply GL_ex); exact rfl; first | exact ob1 | exact Ob_makeFuncR rfl rfl | exact Ob_call rfl (fun w hw => c75w (hw.wk (.tail _ (.tail _ (.head _))) h)) | exact Ob_call rfl (fun w5 hw5 => c76 f _ k.ends (fun x => decide (0 ≤ x ∧ x ≤ k.beat.last)) w5 (hw5.arr (.tail _ (.tail _ (.head _))) he) (p74 (hw5.wk (.tail _ (.tail _ (.head _))) h))) | exact Ob_call rfl (fun w hw => c77 _ _ _ w)) | ((first | apply b_ | apply a_ | apply i_); exact z_; intro _) | ((first | apply p_ | apply JO_yes | apply GC_t); exact z_) | (apply n_; exact z_) | (apply GC_f; exact z_) | (apply GX_block_on; exact z_) | refine GC_drawA (id := 8) [0, 1, 2, 3, 4, 5, 6, 7, 8, 9, 10, 11, 12, 13, 14, 15, 16, 17, 18, 19, 20, 21, 22] [] (by kernel_rfl) ?_ | refine GC_drawB (id := 13) [0] [2, 7] [1, 3, 4, 5, 6] _ (by kernel_rfl) (List.Sublist.refl _) ?_ | ((first | apply GD_at | apply GL_at | apply GD_no | apply GL_no); exact rfl) | apply DFin_0 | (apply q1_; exact z_) | (apply q0_; exact z_) | (apply q2_; exact z_))
    (first | exact GX_ex rfl rfl mem_ rfl | exact GX_exc rfl rfl mem_ rfl mem_ rfl)
  rw [if_neg (by decide)]
  repeat' (first | apply s_ | ((first | apply JO_ob | apply GD_ex | apply GL_ex); exact rfl; first | exact ob1 | exact Ob_makeFuncR rfl rfl | exact Ob_call rfl (fun w hw => c75w (hw.wk (.tail _ (.tail _ (.head _))) h)) | exact Ob_call rfl (fun w5 hw5 => c76 f _ k.ends (fun x => decide (0 ≤ x ∧ x ≤ k.beat.last)) w5 (hw5.arr (.tail _ (.tail _ (.head _))) he) (p74 (hw5.wk (.tail _ (.tail _ (.head _))) h))) | exact Ob_call rfl (fun w hw => c77 _ _ _ w)) | ((first | apply b_ | apply a_ | apply i_); exact z_; intro _) | ((first | apply p_ | apply JO_yes | apply GC_t); exact z_) | (apply n_; exact z_) | (apply GC_f; exact z_) | (apply GX_block_on; exact z_) | refine GC_drawA (id := 8) [0, 1, 2, 3, 4, 5, 6, 7, 8, 9, 10, 11, 12, 13, 14, 15, 16, 17, 18, 19, 20, 21, 22] [] (by kernel_rfl) ?_ | refine GC_drawB (id := 13) [0] [2, 7] [1, 3, 4, 5, 6] _ (by kernel_rfl) (List.Sublist.refl _) ?_ | ((first | apply GD_at | apply GL_at | apply GD_no | apply GL_no); exact rfl) | apply DFin_0 | (apply q1_; exact z_) | (apply q0_; exact z_) | (apply q2_; exact z_))
  cases hb1 : decide (1 ≤ k.boxes ∧ k.boxes ≤ 3)
  · have hq : isNum k = false := by simp only [isNum, hb1, Bool.false_and]
    rw [if_pos hq]
    repeat' (first | apply s_ | ((first | apply JO_ob | apply GD_ex | apply GL_ex); exact rfl; first | exact ob1 | exact Ob_makeFuncR rfl rfl | exact Ob_call rfl (fun w hw => c75w (hw.wk (.tail _ (.tail _ (.head _))) h)) | exact Ob_call rfl (fun w5 hw5 => c76 f _ k.ends (fun x => decide (0 ≤ x ∧ x ≤ k.beat.last)) w5 (hw5.arr (.tail _ (.tail _ (.head _))) he) (p74 (hw5.wk (.tail _ (.tail _ (.head _))) h))) | exact Ob_call rfl (fun w hw => c77 _ _ _ w)) | ((first | apply b_ | apply a_ | apply i_); exact z_; intro _) | ((first | apply p_ | apply JO_yes | apply GC_t); exact z_) | (apply n_; exact z_) | (apply GC_f; exact z_) | (apply GX_block_on; exact z_) | refine GC_drawA (id := 8) [0, 1, 2, 3, 4, 5, 6, 7, 8, 9, 10, 11, 12, 13, 14, 15, 16, 17, 18, 19, 20, 21, 22] [] (by kernel_rfl) ?_ | refine GC_drawB (id := 13) [0] [2, 7] [1, 3, 4, 5, 6] _ (by kernel_rfl) (List.Sublist.refl _) ?_ | ((first | apply GD_at | apply GL_at | apply GD_no | apply GL_no); exact rfl) | apply DFin_0 | (apply q1_; exact z_) | (apply q0_; exact z_) | (apply q2_; exact z_))
    (first | exact GX_ex rfl rfl mem_ rfl | exact GX_exc rfl rfl mem_ rfl mem_ rfl)
  repeat' (first | apply s_ | ((first | apply JO_ob | apply GD_ex | apply GL_ex); exact rfl; first | exact ob1 | exact Ob_makeFuncR rfl rfl | exact Ob_call rfl (fun w hw => c75w (hw.wk (.tail _ (.tail _ (.head _))) h)) | exact Ob_call rfl (fun w5 hw5 => c76 f _ k.ends (fun x => decide (0 ≤ x ∧ x ≤ k.beat.last)) w5 (hw5.arr (.tail _ (.tail _ (.head _))) he) (p74 (hw5.wk (.tail _ (.tail _ (.head _))) h))) | exact Ob_call rfl (fun w hw => c77 _ _ _ w)) | ((first | apply b_ | apply a_ | apply i_); exact z_; intro _) | ((first | apply p_ | apply JO_yes | apply GC_t); exact z_) | (apply n_; exact z_) | (apply GC_f; exact z_) | (apply GX_block_on; exact z_) | refine GC_drawA (id := 8) [0, 1, 2, 3, 4, 5, 6, 7, 8, 9, 10, 11, 12, 13, 14, 15, 16, 17, 18, 19, 20, 21, 22] [] (by kernel_rfl) ?_ | refine GC_drawB (id := 13) [0] [2, 7] [1, 3, 4, 5, 6] _ (by kernel_rfl) (List.Sublist.refl _) ?_ | ((first | apply GD_at | apply GL_at | apply GD_no | apply GL_no); exact rfl) | apply DFin_0 | (apply q1_; exact z_) | (apply q0_; exact z_) | (apply q2_; exact z_))
  cases hb2 : decide (1 ≤ k.force ∧ k.force ≤ 9)
  · have hq : isNum k = false := by simp only [isNum, hb2, Bool.false_and, Bool.and_false]
    rw [if_pos hq]
    repeat' (first | apply s_ | ((first | apply JO_ob | apply GD_ex | apply GL_ex); exact rfl; first | exact ob1 | exact Ob_makeFuncR rfl rfl | exact Ob_call rfl (fun w hw => c75w (hw.wk (.tail _ (.tail _ (.head _))) h)) | exact Ob_call rfl (fun w5 hw5 => c76 f _ k.ends (fun x => decide (0 ≤ x ∧ x ≤ k.beat.last)) w5 (hw5.arr (.tail _ (.tail _ (.head _))) he) (p74 (hw5.wk (.tail _ (.tail _ (.head _))) h))) | exact Ob_call rfl (fun w hw => c77 _ _ _ w)) | ((first | apply b_ | apply a_ | apply i_); exact z_; intro _) | ((first | apply p_ | apply JO_yes | apply GC_t); exact z_) | (apply n_; exact z_) | (apply GC_f; exact z_) | (apply GX_block_on; exact z_) | refine GC_drawA (id := 8) [0, 1, 2, 3, 4, 5, 6, 7, 8, 9, 10, 11, 12, 13, 14, 15, 16, 17, 18, 19, 20, 21, 22] [] (by kernel_rfl) ?_ | refine GC_drawB (id := 13) [0] [2, 7] [1, 3, 4, 5, 6] _ (by kernel_rfl) (List.Sublist.refl _) ?_ | ((first | apply GD_at | apply GL_at | apply GD_no | apply GL_no); exact rfl) | apply DFin_0 | (apply q1_; exact z_) | (apply q0_; exact z_) | (apply q2_; exact z_))
    (first | exact GX_ex rfl rfl mem_ rfl | exact GX_exc rfl rfl mem_ rfl mem_ rfl)
  repeat' (first | apply s_ | ((first | apply JO_ob | apply GD_ex | apply GL_ex); exact rfl; first | exact ob1 | exact Ob_makeFuncR rfl rfl | exact Ob_call rfl (fun w hw => c75w (hw.wk (.tail _ (.tail _ (.head _))) h)) | exact Ob_call rfl (fun w5 hw5 => c76 f _ k.ends (fun x => decide (0 ≤ x ∧ x ≤ k.beat.last)) w5 (hw5.arr (.tail _ (.tail _ (.head _))) he) (p74 (hw5.wk (.tail _ (.tail _ (.head _))) h))) | exact Ob_call rfl (fun w hw => c77 _ _ _ w)) | ((first | apply b_ | apply a_ | apply i_); exact z_; intro _) | ((first | apply p_ | apply JO_yes | apply GC_t); exact z_) | (apply n_; exact z_) | (apply GC_f; exact z_) | (apply GX_block_on; exact z_) | refine GC_drawA (id := 8) [0, 1, 2, 3, 4, 5, 6, 7, 8, 9, 10, 11, 12, 13, 14, 15, 16, 17, 18, 19, 20, 21, 22] [] (by kernel_rfl) ?_ | refine GC_drawB (id := 13) [0] [2, 7] [1, 3, 4, 5, 6] _ (by kernel_rfl) (List.Sublist.refl _) ?_ | ((first | apply GD_at | apply GL_at | apply GD_no | apply GL_no); exact rfl) | apply DFin_0 | (apply q1_; exact z_) | (apply q0_; exact z_) | (apply q2_; exact z_))
  cases hb3 : decide (0 ≤ k.last ∧ k.last ≤ 99)
  · have hq : isNum k = false := by simp only [isNum, hb3, Bool.false_and, Bool.and_false]
    rw [if_pos hq]
    repeat' (first | apply s_ | ((first | apply JO_ob | apply GD_ex | apply GL_ex); exact rfl; first | exact ob1 | exact Ob_makeFuncR rfl rfl | exact Ob_call rfl (fun w hw => c75w (hw.wk (.tail _ (.tail _ (.head _))) h)) | exact Ob_call rfl (fun w5 hw5 => c76 f _ k.ends (fun x => decide (0 ≤ x ∧ x ≤ k.beat.last)) w5 (hw5.arr (.tail _ (.tail _ (.head _))) he) (p74 (hw5.wk (.tail _ (.tail _ (.head _))) h))) | exact Ob_call rfl (fun w hw => c77 _ _ _ w)) | ((first | apply b_ | apply a_ | apply i_); exact z_; intro _) | ((first | apply p_ | apply JO_yes | apply GC_t); exact z_) | (apply n_; exact z_) | (apply GC_f; exact z_) | (apply GX_block_on; exact z_) | refine GC_drawA (id := 8) [0, 1, 2, 3, 4, 5, 6, 7, 8, 9, 10, 11, 12, 13, 14, 15, 16, 17, 18, 19, 20, 21, 22] [] (by kernel_rfl) ?_ | refine GC_drawB (id := 13) [0] [2, 7] [1, 3, 4, 5, 6] _ (by kernel_rfl) (List.Sublist.refl _) ?_ | ((first | apply GD_at | apply GL_at | apply GD_no | apply GL_no); exact rfl) | apply DFin_0 | (apply q1_; exact z_) | (apply q0_; exact z_) | (apply q2_; exact z_))
    (first | exact GX_ex rfl rfl mem_ rfl | exact GX_exc rfl rfl mem_ rfl mem_ rfl)
  repeat' (first | apply s_ | ((first | apply JO_ob | apply GD_ex | apply GL_ex); exact rfl; first | exact ob1 | exact Ob_makeFuncR rfl rfl | exact Ob_call rfl (fun w hw => c75w (hw.wk (.tail _ (.tail _ (.head _))) h)) | exact Ob_call rfl (fun w5 hw5 => c76 f _ k.ends (fun x => decide (0 ≤ x ∧ x ≤ k.beat.last)) w5 (hw5.arr (.tail _ (.tail _ (.head _))) he) (p74 (hw5.wk (.tail _ (.tail _ (.head _))) h))) | exact Ob_call rfl (fun w hw => c77 _ _ _ w)) | ((first | apply b_ | apply a_ | apply i_); exact z_; intro _) | ((first | apply p_ | apply JO_yes | apply GC_t); exact z_) | (apply n_; exact z_) | (apply GC_f; exact z_) | (apply GX_block_on; exact z_) | refine GC_drawA (id := 8) [0, 1, 2, 3, 4, 5, 6, 7, 8, 9, 10, 11, 12, 13, 14, 15, 16, 17, 18, 19, 20, 21, 22] [] (by kernel_rfl) ?_ | refine GC_drawB (id := 13) [0] [2, 7] [1, 3, 4, 5, 6] _ (by kernel_rfl) (List.Sublist.refl _) ?_ | ((first | apply GD_at | apply GL_at | apply GD_no | apply GL_no); exact rfl) | apply DFin_0 | (apply q1_; exact z_) | (apply q0_; exact z_) | (apply q2_; exact z_))
  cases hb4 : decide (1 ≤ k.cake ∧ k.cake ≤ 50)
  · have hq : isNum k = false := by simp only [isNum, hb4, Bool.false_and, Bool.and_false]
    rw [if_pos hq]
    repeat' (first | apply s_ | ((first | apply JO_ob | apply GD_ex | apply GL_ex); exact rfl; first | exact ob1 | exact Ob_makeFuncR rfl rfl | exact Ob_call rfl (fun w hw => c75w (hw.wk (.tail _ (.tail _ (.head _))) h)) | exact Ob_call rfl (fun w5 hw5 => c76 f _ k.ends (fun x => decide (0 ≤ x ∧ x ≤ k.beat.last)) w5 (hw5.arr (.tail _ (.tail _ (.head _))) he) (p74 (hw5.wk (.tail _ (.tail _ (.head _))) h))) | exact Ob_call rfl (fun w hw => c77 _ _ _ w)) | ((first | apply b_ | apply a_ | apply i_); exact z_; intro _) | ((first | apply p_ | apply JO_yes | apply GC_t); exact z_) | (apply n_; exact z_) | (apply GC_f; exact z_) | (apply GX_block_on; exact z_) | refine GC_drawA (id := 8) [0, 1, 2, 3, 4, 5, 6, 7, 8, 9, 10, 11, 12, 13, 14, 15, 16, 17, 18, 19, 20, 21, 22] [] (by kernel_rfl) ?_ | refine GC_drawB (id := 13) [0] [2, 7] [1, 3, 4, 5, 6] _ (by kernel_rfl) (List.Sublist.refl _) ?_ | ((first | apply GD_at | apply GL_at | apply GD_no | apply GL_no); exact rfl) | apply DFin_0 | (apply q1_; exact z_) | (apply q0_; exact z_) | (apply q2_; exact z_))
    (first | exact GX_ex rfl rfl mem_ rfl | exact GX_exc rfl rfl mem_ rfl mem_ rfl)
  have hq : isNum k = true := by simp only [isNum, hb1, hb2, hb3, hb4, Bool.true_and]
  rw [if_neg (by rw [hq]; decide)]
  have f5 := hO.f5
  have v3 := hB.v3
  repeat' (first | apply s_ | ((first | apply JO_ob | apply GD_ex | apply GL_ex); exact rfl; first | exact ob1) | ((first | apply b_ | apply a_ | apply i_); exact z_; intro _) | ((first | apply p_ | apply JO_yes | apply GC_t); exact z_) | (apply n_; exact z_) | (apply GC_f; exact z_) | (apply GX_block_on; exact z_) | refine GC_drawA (id := 8) [0, 1, 2, 3, 4, 5, 6, 7, 8, 9, 10, 11, 12, 13, 14, 15, 16, 17, 18, 19, 20, 21, 22] [] (by kernel_rfl) ?_ | refine GC_drawB (id := 13) [0] [2, 7] [1, 3, 4, 5, 6] _ (by kernel_rfl) (List.Sublist.refl _) ?_ | ((first | apply GD_at | apply GL_at | apply GD_no | apply GL_no); exact rfl) | apply DFin_0 | (apply q1_; exact z_) | (apply q0_; exact z_) | (apply q2_; exact z_))
  refine JO_call (S := fun w0 r w' => Arr (New w0) w' 2 encR r k.yard.fields) rfl rfl (fun w5 hw5 => c79 (hw5.wk (.tail _ (.tail _ (.head _))) h) (by omega)) ?_
  rintro r1 u4 u5 hu4 hu5 hk45 hr1
  have ir1 := hr1.v1
  repeat' (first | apply s_ | ((first | apply JO_ob | apply GD_ex | apply GL_ex); exact rfl; first | exact ob1) | ((first | apply b_ | apply a_ | apply i_); exact z_; intro _) | ((first | apply p_ | apply JO_yes | apply GC_t); exact z_) | (apply n_; exact z_) | (apply GC_f; exact z_) | (apply GX_block_on; exact z_) | refine GC_drawA (id := 8) [0, 1, 2, 3, 4, 5, 6, 7, 8, 9, 10, 11, 12, 13, 14, 15, 16, 17, 18, 19, 20, 21, 22] [] (by kernel_rfl) ?_ | refine GC_drawB (id := 13) [0] [2, 7] [1, 3, 4, 5, 6] _ (by kernel_rfl) (List.Sublist.refl _) ?_ | ((first | apply GD_at | apply GL_at | apply GD_no | apply GL_no); exact rfl) | apply DFin_0 | (apply q1_; exact z_) | (apply q0_; exact z_) | (apply q2_; exact z_))
  refine JO_call (S := fun w0 r w' => Arr (New w0) w' 2 encR r (btR k.beat)) rfl rfl (fun w5 hw5 => c80 (hw5.wk (.tail _ (.tail _ (.tail _ (.head _)))) h) (by omega)) ?_
  rintro r2 u6 u7 hu6 hu7 hk67 hr2
  have ir2 := hr2.v1
  repeat' (first | apply s_ | ((first | apply JO_ob | apply GD_ex | apply GL_ex); exact rfl; first | exact ob1) | ((first | apply b_ | apply a_ | apply i_); exact z_; intro _) | ((first | apply p_ | apply JO_yes | apply GC_t); exact z_) | (apply n_; exact z_) | (apply GC_f; exact z_) | (apply GX_block_on; exact z_) | refine GC_drawA (id := 8) [0, 1, 2, 3, 4, 5, 6, 7, 8, 9, 10, 11, 12, 13, 14, 15, 16, 17, 18, 19, 20, 21, 22] [] (by kernel_rfl) ?_ | refine GC_drawB (id := 13) [0] [2, 7] [1, 3, 4, 5, 6] _ (by kernel_rfl) (List.Sublist.refl _) ?_ | ((first | apply GD_at | apply GL_at | apply GD_no | apply GL_no); exact rfl) | apply DFin_0 | (apply q1_; exact z_) | (apply q0_; exact z_) | (apply q2_; exact z_))
  let Z := k.yard.fields ++ btR k.beat
  have lbt : (btR k.beat).length = k.beat.vats.length + 1 := by simp [btR]
  have lZ : Z.length = k.yard.fields.length + (k.beat.vats.length + 1) := by simp [Z, lbt]
  refine JO_call (S := fun w0 r w' => Arr (New w0) w' 2 encR r Z) rfl rfl (fun w5 hw5 => c78 w5 _ r1 r2 _ _ (hw5.litArr [r1, r2] (fun _ => rfl) (.head _) rfl rfl rfl rfl) ((hw5.arr (.tail _ (.head _)) hr1).weaken fun _ _ _ => trivial) ((hw5.arr (.head _) hr2).weaken fun _ _ _ => trivial) (by omega) (by omega) (by omega)) ?_
  rintro r3 u8 u9 hu8 hu9 hk89 hr3
  have ir3 := hr3.v1
  have hOZ : OkF Z := okF_app hO.f hB.rgs
  repeat' (first | apply s_ | ((first | apply JO_ob | apply GD_ex | apply GL_ex); exact rfl; first | exact ob1) | ((first | apply b_ | apply a_ | apply i_); exact z_; intro _) | ((first | apply p_ | apply JO_yes | apply GC_t); exact z_) | (apply n_; exact z_) | (apply GC_f; exact z_) | (apply GX_block_on; exact z_) | refine GC_drawA (id := 8) [0, 1, 2, 3, 4, 5, 6, 7, 8, 9, 10, 11, 12, 13, 14, 15, 16, 17, 18, 19, 20, 21, 22] [] (by kernel_rfl) ?_ | refine GC_drawB (id := 13) [0] [2, 7] [1, 3, 4, 5, 6] _ (by kernel_rfl) (List.Sublist.refl _) ?_ | ((first | apply GD_at | apply GL_at | apply GD_no | apply GL_no); exact rfl) | apply DFin_0 | (apply q1_; exact z_) | (apply q0_; exact z_) | (apply q2_; exact z_))
  refine GC_loop0 (fun i => Z.length - i) (fun i => [(8, .int .i64 (capN 6001 Z i)), (82, r3), (83, .int .i64 (Z.length : Int)), (84, .int .i64 (i : Int))]) (fun i => i ≤ Z.length) 0 ⟨rfl, rfl, rfl, rfl, trivial⟩ (by omega) ?_
  intro i hi
  have q1 := capN_bd (c := 6001) (by omega) hOZ i hi
  by_cases hlt2 : i < Z.length
  · have q2 := szR_bd hOZ hlt2
    have q3 := hOZ i hlt2
    have q4 := mul_bd (a := capN 6001 Z i) (b := szR (nth Z i)) (m := 6001) (n := 21) (by omega) (by omega) (by omega) (by omega)
    have q5 : szR (nth Z i) = (nth Z i).2 - (nth Z i).1 + 1 := rfl
    repeat' (first | apply s_ | ((first | apply JO_ob | apply GD_ex | apply GL_ex); exact rfl; first | exact ob1 | exact Ob_call rfl (fun w5 hw5 => c82 _ _ (by omega) (by omega) (by omega) w5) | exact Ob_mul rfl rfl (by rw [← q5]; omega)) | ((first | apply b_ | apply a_ | apply i_); exact z_; intro _) | ((first | apply p_ | apply JO_yes | apply GC_t); exact z_) | (apply n_; exact z_) | (apply GC_f; exact z_) | (apply GX_block_on; exact z_) | refine GC_drawA (id := 8) [0, 1, 2, 3, 4, 5, 6, 7, 8, 9, 10, 11, 12, 13, 14, 15, 16, 17, 18, 19, 20, 21, 22] [] (by kernel_rfl) ?_ | refine GC_drawB (id := 13) [0] [2, 7] [1, 3, 4, 5, 6] _ (by kernel_rfl) (List.Sublist.refl _) ?_ | ((first | apply GD_at | apply GL_at | apply GD_no | apply GL_no); exact rfl) | apply DFin_0 | (apply q1_; exact z_) | (apply q0_; exact z_) | (apply q2_; exact z_) | (apply c_; exact z_; all_goals intro _) | (apply g_; exact z_; all_goals intro _))
    rename_i p5 p6
    refine JO_ob rfl (Ob_call rfl (fun w5 hw5 => c81 _ [capN 6001 Z i * szR (nth Z i), 6001] w5 (hw5.litArr _ (fun _ => rfl) (.head _) rfl rfl rfl rfl) (by simp))) ?_
    repeat' (first | apply s_ | ((first | apply JO_ob | apply GD_ex | apply GL_ex); exact rfl; first | exact ob1) | ((first | apply b_ | apply a_ | apply i_); exact z_; intro _) | ((first | apply p_ | apply JO_yes | apply GC_t); exact z_) | (apply n_; exact z_) | (apply GC_f; exact z_) | (apply GX_block_on; exact z_) | refine GC_drawA (id := 8) [0, 1, 2, 3, 4, 5, 6, 7, 8, 9, 10, 11, 12, 13, 14, 15, 16, 17, 18, 19, 20, 21, 22] [] (by kernel_rfl) ?_ | refine GC_drawB (id := 13) [0] [2, 7] [1, 3, 4, 5, 6] _ (by kernel_rfl) (List.Sublist.refl _) ?_ | ((first | apply GD_at | apply GL_at | apply GD_no | apply GL_no); exact rfl) | apply DFin_0 | (apply q1_; exact z_) | (apply q0_; exact z_) | (apply q2_; exact z_) | (apply c_; exact z_; all_goals intro _) | (apply g_; exact z_; all_goals intro _))
    refine GX_loop (i + 1) ⟨?_, rfl, rfl, rfl, trivial⟩ (by omega) (by omega) (fun w hw => hw.weak (fun r h => h) (List.Sublist.cons _ (List.Sublist.cons _ (List.Sublist.refl _))))
    rw [capN, minL2]; rfl
  · have hke : i = Z.length := by omega
    subst hke
    have e1 : prodK Z Z.length = many1 k.yard.fields * many3 k.beat := by
      have := many1_min hO.f
      rw [prodK_all, prodS_app, many3_prod, show many1 k.yard.fields = prodS k.yard.fields by omega]
    rw [e1] at q1
    by_cases hmany : 6000 < many1 k.yard.fields * many3 k.beat
    · rw [if_pos hmany]
      repeat' (first | apply s_ | ((first | apply JO_ob | apply GD_ex | apply GL_ex); exact rfl; first | exact ob1) | ((first | apply b_ | apply a_ | apply i_); exact z_; intro _) | ((first | apply p_ | apply JO_yes | apply GC_t); exact z_) | (apply n_; exact z_) | (apply GC_f; exact z_) | (apply GX_block_on; exact z_) | refine GC_drawA (id := 8) [0, 1, 2, 3, 4, 5, 6, 7, 8, 9, 10, 11, 12, 13, 14, 15, 16, 17, 18, 19, 20, 21, 22] [] (by kernel_rfl) ?_ | refine GC_drawB (id := 13) [0] [2, 7] [1, 3, 4, 5, 6] _ (by kernel_rfl) (List.Sublist.refl _) ?_ | ((first | apply GD_at | apply GL_at | apply GD_no | apply GL_no); exact rfl) | apply DFin_0 | (apply q1_; exact z_) | (apply q0_; exact z_) | (apply q2_; exact z_) | (apply c_; exact z_; all_goals intro _) | (apply g_; exact z_; all_goals intro _))
      (first | exact GX_ex rfl rfl mem_ rfl | exact GX_exc rfl rfl mem_ rfl mem_ rfl)
    · rw [if_neg hmany]
      repeat' (first | apply s_ | ((first | apply JO_ob | apply GD_ex | apply GL_ex); exact rfl; first | exact ob1) | ((first | apply b_ | apply a_ | apply i_); exact z_; intro _) | ((first | apply p_ | apply JO_yes | apply GC_t); exact z_) | (apply n_; exact z_) | (apply GC_f; exact z_) | (apply GX_block_on; exact z_) | refine GC_drawA (id := 8) [0, 1, 2, 3, 4, 5, 6, 7, 8, 9, 10, 11, 12, 13, 14, 15, 16, 17, 18, 19, 20, 21, 22] [] (by kernel_rfl) ?_ | refine GC_drawB (id := 13) [0] [2, 7] [1, 3, 4, 5, 6] _ (by kernel_rfl) (List.Sublist.refl _) ?_ | ((first | apply GD_at | apply GL_at | apply GD_no | apply GL_no); exact rfl) | apply DFin_0 | (apply q1_; exact z_) | (apply q0_; exact z_) | (apply q2_; exact z_) | (apply c_; exact z_; all_goals intro _) | (apply g_; exact z_; all_goals intro _))
      (first | exact GX_ex rfl rfl mem_ rfl | exact GX_exc rfl rfl mem_ rfl mem_ rfl)
end Go.Proofs.YtkbaaikidhbfmaaGreat
/- Contracts: the program's lists of some ranges, one after the other. No statement is proved here. -/
set_option linter.unusedVariables false
set_option linter.unusedSimpArgs false
namespace Go.Proofs.YtkbaaikidhbfmaaGreat
open Go.RowKit
section
variable {α : Type} {n d : Nat} {full : List Oper} {b0 : World} {R : Rgs} {H : Hp} {fr : Slots} {K : Kt} {dst : Option Nat} {g : Option (Nat × Bool)} {ty : TypeId} {ps : String} {af : Array Edge} {sz : Nat} {enc : α → List Value} {xs : List α}
theorem JO_store_r {t m : Nat} {x y : Operand} {b i k j : Nat} {v : Value} {vs : List Value} {a a' : α} {T : TypeId} [hsz : TySz t m] (he : ∀ x, (enc x).length = sz)
    (hx : ev fr x = some (.pointer (some ⟨b, oo (ix sz i) k, none⟩))) (hy : ev fr y = some v) (hi : H[j]? = some (b, .cells (xs.flatMap enc).toArray T)) (hc : VC v vs) (hl : vs.length = m) (ha : xs[i]? = some a) (hk : k + m ≤ sz) (hs : splice (enc a) k vs = enc a')
    (h : K R (setH H j (.cells ((xs.set i a').flatMap enc).toArray T)) fr) : JO n full b0 R H ⟨none, .store t x y, ty, ps, af, none⟩ fr K :=
  JO_store_row (sp := []) he hx hy (by rw [List.append_nil]; exact hi) hc hl ha hk hs (by rw [List.append_nil]; exact h)
theorem Ob_loads_r {t m b i k : Nat} {x : Operand} {T : TypeId} {fz : Nat × Nat} {a : α} {vs : List Value} [TyAgg t m] (he : ∀ x, (enc x).length = sz) (hx : ev fr x = some (.pointer (some ⟨b, oo (ix sz i) k, none⟩))) (hH : (b, Obj.cells (xs.flatMap enc).toArray T fz) ∈ H) (ha : xs[i]? = some a)
    (hk : k + m ≤ sz) (hu : ((enc a).drop k).take m = vs) (hl : vs.length = m) : Ob b0 R H ⟨dst, .load t x, ty, ps, af, g⟩ fr (.agg vs.toArray) :=
  Ob_loads_row (sp := []) he hx (by rw [List.append_nil]; exact hH) ha hk hu hl
theorem Ob_load_r {t b i k : Nat} {x : Operand} {T : TypeId} {fz : Nat × Nat} {a : α} {u : Value} [TyOne t] (he : ∀ x, (enc x).length = sz) (hx : ev fr x = some (.pointer (some ⟨b, oo (ix sz i) k, none⟩))) (hH : (b, Obj.cells (xs.flatMap enc).toArray T fz) ∈ H) (ha : xs[i]? = some a)
    (hk : k < sz) (hu : (enc a)[k]? = some u) : Ob b0 R H ⟨dst, .load t x, ty, ps, af, g⟩ fr u :=
  Ob_load_row (sp := []) he hx (by rw [List.append_nil]; exact hH) ha hk hu
end
theorem c127 (w : World) (v : Value) [V1 v] : Rt 127 [v] w fun r w' => Keep w w' ∧ ∃ p, r = .func (.func 157) #[] #[pt p] ∧ w.heap.size ≤ p ∧ w'.heap[p]? = some (.cells #[v] 38) := by
  refine Rt_of Tryz.func127 rfl Tryz.ntmps127 rfl ?_
  repeat' (first | apply s_ | (apply JO_ob; exact rfl; first | exact ob1) | ((first | apply b_ | apply a_ | apply i_); exact z_; intro _) | ((first | apply p_ | apply JO_yes | apply GC_t); exact z_) | (apply n_; exact z_) | (apply GC_f; exact z_) | (apply GX_block_on; exact z_) | (apply c_; exact z_; all_goals intro _))
  rename_i p
  exact GX_ret1 rfl rfl fun w' hw' => ⟨hw'.kp mem_, p, rfl, hw'.apt _ (.head _) _ (.head _) trivial, hw'.own _ (.head _)⟩
abbrev ch158 (px pl pv pc : Nat) : Value := .func (.func 158) #[] #[pt px, pt pl, pt pv, pt pc]
abbrev hp158 (Yv : Value) (px pl pv pc pb : Nat) (xs : List Int) : Hp := [(pc, .cells #[ch158 px pl pv pc] 131), (pb, .cells (xs.flatMap encI).toArray 3), (pv, .cells #[.slice (some ⟨pb, 0, none⟩) xs.length xs.length] 33), (pl, .cells #[Yv] 141)]
/-- How a list is handed over: a slice, whose block is among those that stand. -/
def ArL (x : List Int) (us : List Value) (Hi : Hp) : Prop := ∃ pb, us = [.slice (some ⟨pb, 0, none⟩) x.length x.length] ∧ (pb, Obj.cells (x.flatMap encI).toArray 3) ∈ Hi
theorem c158 {b0 : World} {Rb : Rgs} {G G2 : Nat → Prop} {w1 w2 : World} {px pl pv pc pb : Nat} {a Yv : Value} {fs : List Rg} {α : Type} {Rf : α → Rgs} {Hf : α → Hp} {I : List (List Int) → α → Prop} (hG : (G, w1) ∈ Rb) (hpx : G px) (hcell : w1.heap[px]? = some (.cells #[a] 38)) (hG2 : (G2, w2) ∈ Rb) (hf : Arr G2 w2 2 encR a fs) (hOk : OkF fs)
    (iY : V1 Yv) (hsub : ∀ a, ∀ r ∈ Rb, r ∈ Rf a)
    (hY : ∀ pre x a us Hi, I pre a → (∃ post, lex fs = pre ++ x :: post) → ArL x us Hi → ∀ w, SH b0 (Rf a) (Hf a ++ Hi) w →
      Yc Yv us w fun v w' => v = .bool true ∧ ∃ a', I (pre ++ [x]) a' ∧ (∀ r ∈ Rf a, r ∈ Rf a') ∧ SH b0 (Rf a') (Hf a' ++ Hi) w') :
    ∀ (k i : Nat) (xs : List Int) (pre : List (List Int)) (s : α), i + k = fs.length → xs.length = fs.length → I pre s → (∃ post, lex fs = pre ++ lexP (xs.take i) (fs.drop i) ++ post) →
      ∀ w, SH b0 (Rf s) (hp158 Yv px pl pv pc pb xs ++ Hf s) w → Rt 158 ([.int .i64 (i : Int)] ++ [pt px, pt pl, pt pv, pt pc]) w fun v w' => v = .bool true ∧ ∃ t : List Int × α,
        (t.1.length = fs.length ∧ t.1.take i = xs.take i ∧ I (pre ++ lexP (xs.take i) (fs.drop i)) t.2) ∧ (∀ r ∈ Rf s, r ∈ Rf t.2) ∧ SH b0 (Rf t.2) (hp158 Yv px pl pv pc pb t.1 ++ Hf t.2) w' := by
  have ia := hf.v1
  have bf := hf.bound
  intro k
  induction k with
  | zero =>
    intro i xs pre s hik hx hI hpost w hw
    refine Rt_ofS Tryz.func158 rfl Tryz.ntmps158 rfl hw ?_
    repeat' (first | apply s_ | (apply JO_ob; exact rfl; first | exact ob1 | exact Ob_load_blk rfl (hsub _ _ hG) hpx hcell rfl) | ((first | apply b_ | apply a_ | apply i_); exact z_; intro _) | ((first | apply p_ | apply JO_yes | apply GC_t); exact z_) | (apply n_; exact z_) | (apply GC_f; exact z_) | (apply GX_block_on; exact z_) | (apply c_; exact z_; all_goals intro _))
    have hd : fs.drop i = [] := List.drop_eq_nil_of_le (by omega)
    have ht : xs.take i = xs := List.take_of_length_le (by omega)
    rw [hd, ht] at hpost ⊢
    simp only [lexP] at hpost ⊢
    obtain ⟨post, hp⟩ := hpost
    refine JO_yieldS (c := .bool true) (us := [.slice (some ⟨pb, 0, none⟩) xs.length xs.length]) (S := fun s' => I (pre ++ [xs]) s' ∧ ∀ r ∈ Rf s, r ∈ Rf s') (R' := Rf) (H' := fun s' => hp158 Yv px pl pv pc pb xs ++ Hf s') rfl rfl rfl (fun w5 hw5 => ?_) ?_
    · refine (hY pre xs s _ (hp158 Yv px pl pv pc pb xs) hI ⟨post, by rw [hp]; simp⟩ ⟨pb, rfl, .tail _ (.head _)⟩ w5 (hw5.perm List.perm_append_comm)).mono ?_
      rintro v w6 ⟨rfl, s', h1, h2, h3⟩
      exact ⟨rfl, s', ⟨h1, h2⟩, h2, h3.perm List.perm_append_comm⟩
    · rintro s' ⟨hs', hr'⟩
      repeat' (first | apply s_ | (apply JO_ob; exact rfl; first | exact ob1) | ((first | apply b_ | apply a_ | apply i_); exact z_; intro _) | ((first | apply p_ | apply JO_yes | apply GC_t); exact z_) | (apply n_; exact z_) | (apply GC_f; exact z_) | (apply GX_block_on; exact z_) | (apply c_; exact z_; all_goals intro _))
      exact GX_ret1 rfl rfl fun w' hw' => ⟨rfl, (xs, s'), ⟨hx, ht, hs'⟩, hr', hw'⟩
  | succ k ih =>
    intro i xs pre s hik hx hI hpost w hw
    have hi : i < fs.length := by omega
    have b1 := hOk i hi
    refine Rt_ofS Tryz.func158 rfl Tryz.ntmps158 rfl hw ?_
    repeat' (first | apply s_ | (apply JO_ob; exact rfl; first | exact ob1 | exact Ob_load_blk rfl (hsub _ _ hG) hpx hcell rfl | exact Ob_loadn rfl hf (hsub _ _ hG2) rfl (by omega) (by decide) rfl) | ((first | apply b_ | apply a_ | apply i_); exact z_; intro _) | ((first | apply p_ | apply JO_yes | apply GC_t); exact z_) | (apply n_; exact z_) | (apply GC_f; exact z_) | (apply GX_block_on; exact z_) | (apply c_; exact z_; all_goals intro _))
    rw [drop_nth hi] at hpost ⊢
    simp only [lexP] at hpost ⊢
    let fl : Int → List (List Int) := fun m => lexP (xs.take i ++ [m]) (fs.drop (i + 1))
    obtain ⟨post, hp⟩ := hpost
    refine GC_loop (α := Int × List Int × α) (fun t => ((nth fs i).2 + 1 - t.1).toNat) (fun t => [(0, .int .i64 (i : Int)), (1, pt px), (2, pt pl), (3, pt pv), (4, pt pc), (7, .int .i64 t.1)]) (fun t => Rf t.2.2) (fun t => hp158 Yv px pl pv pc pb t.2.1 ++ Hf t.2.2)
      (fun t => ((nth fs i).1 ≤ t.1 ∧ t.1 ≤ (nth fs i).2 + 1) ∧ t.2.1.length = fs.length ∧ t.2.1.take i = xs.take i ∧ I (pre ++ (rangeL (nth fs i).1 (t.1 - 1)).flatMap fl) t.2.2 ∧ ∀ r ∈ Rf s, r ∈ Rf t.2.2)
      ((nth fs i).1, xs, s) ⟨rfl, rfl, rfl, rfl, rfl, rfl, trivial⟩ ⟨by simp only; omega, hx, rfl, by rw [rangeL_none (by omega)]; simpa using hI, fun r h => h⟩ (fun w hw => hw) ?_
    rintro ⟨n, ys, s1⟩ ⟨hn, hyl, hyt, hI1, hr1⟩
    simp only at hn hyl hyt hI1 hr1 ⊢
    by_cases hlt : n ≤ (nth fs i).2
    · repeat' (first | apply s_ | (apply JO_ob; exact rfl; first | exact ob1 | exact Ob_load_blk rfl (hsub _ _ hG) hpx hcell rfl | exact Ob_loadn rfl hf (hsub _ _ hG2) rfl (by omega) (by decide) rfl | exact Ob_index_row rfl rfl (by omega)) | ((first | apply b_ | apply a_ | apply i_); exact z_; intro _) | ((first | apply p_ | apply JO_yes | apply GC_t); exact z_) | (apply n_; exact z_) | (apply GC_f; exact z_) | (apply GX_block_on; exact z_) | (apply c_; exact z_; all_goals intro _))
      refine JO_store_r (m := 1) (sz := 1) (k := 0) (enc := encI) (j := 1) (xs := ys) (a := nth ys i) (a' := n) (fun _ => rfl) rfl rfl rfl inferInstance rfl (nth_some (by omega)) (Nat.le_refl _) rfl ?_
      have hset : hp158 Yv px pl pv pc pb (ys.set i n) = [(pc, .cells #[ch158 px pl pv pc] 131), (pb, .cells ((ys.set i n).flatMap encI).toArray 3), (pv, .cells #[.slice (some ⟨pb, 0, none⟩) ys.length ys.length] 33), (pl, .cells #[Yv] 141)] := by simp only [hp158, List.length_set]
      repeat' (first | apply s_ | (apply JO_ob; exact rfl; first | exact ob1) | ((first | apply b_ | apply a_ | apply i_); exact z_; intro _) | ((first | apply p_ | apply JO_yes | apply GC_t); exact z_) | (apply n_; exact z_) | (apply GC_f; exact z_) | (apply GX_block_on; exact z_) | (apply c_; exact z_; all_goals intro _))
      have et : (ys.set i n).take (i + 1) = xs.take i ++ [n] := by rw [take_set_snoc (by omega), hyt]
      have es : rangeL (nth fs i).1 n = rangeL (nth fs i).1 (n - 1) ++ [n] := rangeL_snoc (by omega)
      refine JO_callvS (f := 158) (c := .bool true) (vs := [.int .i64 ((i : Int) + 1)]) (cap := [pt px, pt pl, pt pv, pt pc]) (S := fun t : List Int × α => (t.1.length = fs.length ∧ t.1.take i = xs.take i ∧ I (pre ++ (rangeL (nth fs i).1 n).flatMap fl) t.2) ∧ ∀ r ∈ Rf s1, r ∈ Rf t.2)
        (R' := fun t => Rf t.2) (H' := fun t => hp158 Yv px pl pv pc pb t.1 ++ Hf t.2) rfl rfl rfl (fun w5 hw5 => ?_) ?_
      · refine (ih (i + 1) (ys.set i n) (pre ++ (rangeL (nth fs i).1 (n - 1)).flatMap fl) s1 (by omega) (by rw [List.length_set]; exact hyl) hI1 ?_ w5 (by rw [hset]; exact hw5)).mono ?_
        · obtain ⟨l, hl⟩ := rangeL_app (a := (nth fs i).1) (b := n) (c := (nth fs i).2) (by omega) hlt
          refine ⟨l.flatMap fl ++ post, ?_⟩
          rw [hp, hl, es, et]
          simp [fl]
        · rintro v w6 ⟨rfl, t, ⟨h1, h3, h4⟩, h5, h6⟩
          refine ⟨rfl, t, ⟨⟨h1, ?_, ?_⟩, h5⟩, h5, h6⟩
          · have := congrArg (List.take i) h3
            rw [et, List.take_take, List.take_append_of_le_length (by rw [List.length_take]; omega), List.take_take] at this
            rwa [show min i (i + 1) = i by omega, show min i i = i by omega] at this
          · rw [et] at h4
            rw [es, List.flatMap_append]
            simpa [fl] using h4
      · rintro ⟨zs, s2⟩ ⟨⟨h1, h3, h4⟩, h5⟩
        simp only at h1 h3 h4 h5 ⊢
        repeat' (first | apply s_ | (apply JO_ob; exact rfl; first | exact ob1) | ((first | apply b_ | apply a_ | apply i_); exact z_; intro _) | ((first | apply p_ | apply JO_yes | apply GC_t); exact z_) | (apply n_; exact z_) | (apply GC_f; exact z_) | (apply GX_block_on; exact z_) | (apply c_; exact z_; all_goals intro _))
        exact GX_loop (n + 1, zs, s2) ⟨rfl, rfl, rfl, rfl, rfl, rfl, trivial⟩ (by simp only; omega) ⟨by simp only; omega, h1, h3, by rw [show n + 1 - 1 = n by omega]; exact h4, fun r hr => h5 r (hr1 r hr)⟩ fun w hw => hw
    · have hne : n = (nth fs i).2 + 1 := by omega
      subst hne
      repeat' (first | apply s_ | (apply JO_ob; exact rfl; first | exact ob1 | exact Ob_load_blk rfl (hsub _ _ hG) hpx hcell rfl | exact Ob_loadn rfl hf (hsub _ _ hG2) rfl (by omega) (by decide) rfl) | ((first | apply b_ | apply a_ | apply i_); exact z_; intro _) | ((first | apply p_ | apply JO_yes | apply GC_t); exact z_) | (apply n_; exact z_) | (apply GC_f; exact z_) | (apply GX_block_on; exact z_) | (apply c_; exact z_; all_goals intro _))
      rw [show (nth fs i).2 + 1 - 1 = (nth fs i).2 by omega] at hI1
      exact GX_ret1 rfl rfl fun w' hw' => ⟨rfl, (ys, s1), ⟨hyl, hyt, hI1⟩, hr1, hw'⟩
theorem it157 {b0 : World} {Rb : Rgs} {G G2 : Nat → Prop} {w1 w2 : World} {px : Nat} {a : Value} {fs : List Rg} (hG : (G, w1) ∈ Rb) (hpx : G px) (hcell : w1.heap[px]? = some (.cells #[a] 38)) (hG2 : (G2, w2) ∈ Rb) (hf : Arr G2 w2 2 encR a fs) (hOk : OkF fs) (hl : fs.length ≤ 1000) :
    Iter 157 [pt px] ArL (lex fs) b0 Rb := by
  intro Yv α Rf Hf I a0 iY hsub hY hI w hw
  have ia := hf.v1
  refine Rt_ofS Tryz.func157 rfl Tryz.ntmps157 rfl hw ?_
  repeat' (first | apply s_ | (apply JO_ob; exact rfl; first | exact ob1 | exact Ob_load_blk rfl (hsub _ _ hG) hpx hcell rfl) | ((first | apply b_ | apply a_ | apply i_); exact z_; intro _) | ((first | apply p_ | apply JO_yes | apply GC_t); exact z_) | (apply n_; exact z_) | (apply GC_f; exact z_) | (apply GX_block_on; exact z_) | (apply c_; exact z_; all_goals intro _))
  rename_i pl
  refine JO_make (m := fs.length) (x0 := (0 : Int)) (enc := encI) rfl rfl rfl (fun _ => rfl) rfl (by decide) (by omega) (by omega) ?_
  intro pb hob
  repeat' (first | apply s_ | (apply JO_ob; exact rfl; first | exact ob1) | ((first | apply b_ | apply a_ | apply i_); exact z_; intro _) | ((first | apply p_ | apply JO_yes | apply GC_t); exact z_) | (apply n_; exact z_) | (apply GC_f; exact z_) | (apply GX_block_on; exact z_) | (apply c_; exact z_; all_goals intro _))
  rename_i pv pc
  have hl0 : (List.replicate fs.length (0 : Int)).length = fs.length := List.length_replicate
  have hset : hp158 Yv px pl pv pc pb (List.replicate fs.length 0) = [(pc, .cells #[ch158 px pl pv pc] 131), (pb, .cells ((List.replicate fs.length (0 : Int)).flatMap encI).toArray 3), (pv, .cells #[.slice (some ⟨pb, 0, none⟩) fs.length fs.length] 33), (pl, .cells #[Yv] 141)] := by simp only [hp158, hl0]
  refine JO_callvS (f := 158) (c := .bool true) (vs := [.int .i64 ((0 : Nat) : Int)]) (cap := [pt px, pt pl, pt pv, pt pc]) (S := fun t : List Int × α => I (lex fs) t.2 ∧ ∀ r ∈ Rf a0, r ∈ Rf t.2)
    (R' := fun t => Rf t.2) (H' := fun t => hp158 Yv px pl pv pc pb t.1 ++ Hf t.2) rfl rfl rfl (fun w5 hw5 => ?_) ?_
  · refine (c158 (pb := pb) hG hpx hcell hG2 hf hOk iY hsub (fun pre x a us Hi h1 h2 h3 w hw => hY pre x a us Hi h1 h2 h3 w hw) fs.length 0 (List.replicate fs.length 0) [] a0 (by omega) hl0 hI ⟨[], by simp [lexP_nil]⟩ w5 ?_).mono ?_
    · rw [hset]
      exact hw5.perm ((List.Perm.swap _ _ _).cons _)
    · rintro v w6 ⟨rfl, t, ⟨_, _, h4⟩, h5, h6⟩
      refine ⟨rfl, t, ⟨?_, h5⟩, h5, h6⟩
      simpa [lexP_nil] using h4
  · rintro ⟨zs, s2⟩ ⟨h4, h5⟩
    simp only at h4 h5 ⊢
    repeat' (first | apply s_ | (apply JO_ob; exact rfl; first | exact ob1) | ((first | apply b_ | apply a_ | apply i_); exact z_; intro _) | ((first | apply p_ | apply JO_yes | apply GC_t); exact z_) | (apply n_; exact z_) | (apply GC_f; exact z_) | (apply GX_block_on; exact z_) | (apply c_; exact z_; all_goals intro _))
    exact GX_norm (GX_ret (rs := []) (vs := []) rfl fun w' hw' => ⟨trivial, s2, h4, hw'.weak (fun r h => h) (List.sublist_append_right _ _)⟩)
end Go.Proofs.YtkbaaikidhbfmaaGreat
/- Contracts: the program's blues and losses. No statement is proved here. -/
set_option linter.unusedVariables false
set_option linter.unusedSimpArgs false
namespace Go.Proofs.YtkbaaikidhbfmaaGreat
open Go.RowKit
theorem GX_retc1 {n : Nat} {fn : Func} {S : Value → World → Prop} {b0 : World} {R : Rgs} {H : Hp} {fr : Slots} {t : Tmp} {ty : TypeId} {b : Nat} {v : Value} {T : TypeId} {fz : Nat × Nat} [TyOne ty] (hr : fn.results = #[.cell t ty])
    (hv : look fr t = some (.pointer (some ⟨b, 0, none⟩))) (hH : (b, Obj.cells #[v] T fz) ∈ H) (hS : ∀ w, SH b0 R H w → S v w) : GX n [] (RetQ fn S) b0 R H .ret fr :=
  GX_ret (rs := [.cell t ty]) (vs := [v]) hr fun w hw => ⟨⟨⟨_, hv, .one (by rw [cell_blk (cs := [v]) (hw.own _ hH)]; rfl)⟩, trivial⟩, hS w hw⟩
/-- A list that was handed over is there. -/
theorem SH.arl {b0 : World} {R : Rgs} {H : Hp} {w : World} {x : List Int} {v : Value} {Hi : Hp} (hw : SH b0 R H w) (hx : ArL x [v] Hi) (hs : ∀ p ∈ Hi, p ∈ H) (hl : x.length ≤ 1000) : Arr All w 1 encI v x := by
  obtain ⟨pb, e, hm⟩ := hx
  cases e
  exact (hw.litArr (enc := encI) (sz := 1) x (fun _ => rfl) (hs _ hm) rfl rfl (Nat.ble_eq_true_of_le (Nat.le_refl _)) (Nat.ble_eq_true_of_le (by omega))).weaken fun _ _ _ => trivial
theorem arl_us {x : List Int} {us : List Value} {Hi : Hp} (h : ArL x us Hi) : ∃ v, us = [v] ∧ V1 v ∧ ArL x [v] Hi := by
  obtain ⟨pb, e, hm⟩ := h
  exact ⟨_, e, inferInstance, pb, rfl, hm⟩
/-- Rows that were gathered, each in a region. -/
def Rows_ (w : World) (rs : Rgs) (hs : List Value) (rows : List (List Int)) : Prop := hs.length = rows.length ∧ ∀ i, i < rows.length → ∃ r ∈ rs, (∀ b, r.1 b → w.heap.size ≤ b) ∧ Arr r.1 r.2 1 encI (nth hs i) (nth rows i)
theorem Rows_.nil {w : World} : Rows_ w [] [] [] := ⟨rfl, fun i hi => absurd hi (Nat.not_lt_zero i)⟩
theorem Rows_.snoc {w : World} {rs : Rgs} {hs : List Value} {rows : List (List Int)} (h : Rows_ w rs hs rows) {G : Nat → Prop} {w1 : World} {v : Value} {row : List Int} (hG : ∀ b, G b → w.heap.size ≤ b) (ha : Arr G w1 1 encI v row) : Rows_ w ((G, w1) :: rs) (hs ++ [v]) (rows ++ [row]) := by
  refine ⟨by simp [h.1], fun i hi => ?_⟩
  by_cases hl : i < rows.length
  · obtain ⟨r, h1, h2, h3⟩ := h.2 i hl
    refine ⟨r, .tail _ h1, h2, ?_⟩
    rw [nth_app_l (by rw [h.1]; exact hl), nth_app_l hl]; exact h3
  · have hi2 : i = rows.length := by simp at hi; omega
    refine ⟨(G, w1), .head _, hG, ?_⟩
    rw [nth_app_last (by rw [h.1]; exact hi2), nth_app_last hi2]; exact ha
theorem Rows_.nest {b0 w : World} {R : Rgs} {H : Hp} {w' : World} {rs : Rgs} {hs : List Value} {rows : List (List Int)} {v : Value} (h : Rows_ b0 rs hs rows) (hw : SH b0 R H w') (hR : ∀ r ∈ rs, r ∈ R) (hv : Arr (New b0) w' 1 encO v hs) : Nest (New b0) w' v hs rows :=
  ⟨h.1, hv, fun i hi => by
    obtain ⟨r, h1, h2, h3⟩ := h.2 i hi
    exact (hw.arr (hR r h1) h3).weaken fun b hb _ => h2 b hb⟩
abbrev wkC (a b c d e f : Value) (k : Wk) : List Value := [a, b, c, .int .i64 k.beat.sun.1, .int .i64 k.beat.sun.2, d, .int .i64 k.beat.last, e, f, .int .i64 k.boxes, .int .i64 k.force, .int .i64 k.last, .int .i64 k.cake]
section
variable {w : World} {a b c : Value} {hs : List Value} {d e f : Value} {k : Wk}
theorem c123 (h : WkA All w a b c hs d e f k) (hf : fault1 k.yard = 0) : Rt 123 [wkV a b c d e f k] w fun r w' => Keep w w' ∧ ∃ hs', Nest (New w) w' r hs' ((truthsX k.yard).map (blueRow k.yard)) := by
  have i1 := h.yard.fields.v1
  have i2 := h.yard.vats.arr.v1
  have i3 := h.yard.smps.v1
  have i4 := h.beat.vats.v1
  have i5 := h.beat.smps.v1
  have i6 := h.ends.v1
  obtain ⟨hO, hm⟩ := okY_of hf
  have f5 := hO.f5
  refine Rt_ofM Tryz.func123 rfl Tryz.ntmps123 rfl ?_
  repeat' (first | apply s_ | (apply JO_ob; exact rfl; first | exact ob1) | ((first | apply b_ | apply a_ | apply i_); exact z_; intro _) | ((first | apply p_ | apply JO_yes | apply GC_t); exact z_) | (apply n_; exact z_) | (apply GC_f; exact z_) | (apply GX_block_on; exact z_) | (apply c_; exact z_; all_goals intro _))
  rename_i p1 p2
  refine JO_call (S := fun w0 r w' => Arr (New w0) w' 2 encR r k.yard.fields) rfl rfl (fun w5 hw5 => c79 (hw5.wk mem_ h) (by omega)) ?_
  rintro rv u0 u1 hu0 hu1 hk01 hrv
  have irv := hrv.v1
  repeat' (first | apply s_ | (apply JO_ob; exact rfl; first | exact ob1) | ((first | apply b_ | apply a_ | apply i_); exact z_; intro _) | ((first | apply p_ | apply JO_yes | apply GC_t); exact z_) | (apply n_; exact z_) | (apply GC_f; exact z_) | (apply GX_block_on; exact z_) | (apply c_; exact z_; all_goals intro _))
  refine JO_call (S := fun w0 r w' => ∃ p, r = .func (.func 157) #[] #[pt p] ∧ w0.heap.size ≤ p ∧ w'.heap[p]? = some (.cells #[rv] 38)) rfl rfl (fun w5 hw5 => c127 w5 rv) ?_
  rintro v u2 u3 hu2 hu3 hk23 ⟨px, rfl, hpx, hpxc⟩
  repeat' (first | apply s_ | (apply JO_ob; exact rfl; first | exact ob1) | ((first | apply b_ | apply a_ | apply i_); exact z_; intro _) | ((first | apply p_ | apply JO_yes | apply GC_t); exact z_) | (apply n_; exact z_) | (apply GC_f; exact z_) | (apply GX_block_on; exact z_) | (apply c_; exact z_; all_goals intro _))
  have hit := it157 (b0 := w) (Rb := [(fun b => u2.heap.size ≤ b, u3), (fun b => u0.heap.size ≤ b, u1), (fun _ => True, w)]) (.head _) hpx hpxc (.tail _ (.head _)) hrv hO.f (by omega)
  refine GC_range (α := List Value × Value × List Value × List (List Int) × Rgs) (cap := [pt px]) (prs := [9]) rfl hit (fun s => s.2.2.2.2 ++ [(fun b => u2.heap.size ≤ b, u3), (fun b => u0.heap.size ≤ b, u1), (fun _ => True, w)])
    (fun s => (p2, .cells #[s.2.1] 23) :: (p1, .cells (wkC a b c d e f k).toArray 52) :: rowH s.2.1 33 (s.1.flatMap encO ++ s.2.2.1))
    (fun pre s => s.2.2.2.1 = (pre.filter (okAll k.yard)).map (blueRow k.yard) ∧ Own 1 encO s.2.1 s.1 s.2.2.1 ∧ Rows_ w s.2.2.2.2 s.1 s.2.2.2.1 ∧ s.1.length ≤ pre.length) ([], .slice none 0 0, [], [], []) rfl (fun s r h => List.mem_append_right _ h) ⟨rfl, Own.nil fun _ => rfl, Rows_.nil, Nat.le_refl _⟩ (fun w hw => hw) (fun x us Hi hx => by obtain ⟨pb, e, _⟩ := hx; rw [e]; rfl) ?_ ?_
  · rintro l dd rc pre x ⟨hh, tv, sp, rows, rs⟩ us Hi hrs hrp ⟨hrw, ho, hRs, hhl⟩ hpost hus
    simp only at hrw ho hRs hhl ⊢
    obtain ⟨xv, rfl, ixv, hxa⟩ := arl_us hus
    have j1 := ho.v1
    have hxl : x ∈ lex k.yard.fields := by obtain ⟨post, hp⟩ := hpost; rw [hp]; simp
    have hxI := mem_lex.1 hxl
    have hxb := InL_bd hO.f hxI
    have hln : pre.length < 2000 := by
      obtain ⟨post, hp⟩ := hpost
      have h1 := lex_len k.yard.fields hO.f hm
      rw [hp] at h1; simp at h1; omega
    have hpm : ∀ {α β : Hp}, List.Perm (α ++ β) (β ++ α) := List.perm_append_comm
    refine GC_re (H' := (l, .loop rc) :: dOpen dd :: (p2, .cells #[tv] 23) :: (p1, .cells (wkC a b c d e f k).toArray 52) :: (Hi ++ rowH tv 33 (hh.flatMap encO ++ sp)))
      (fun w hw => hw.perm ((((hpm.cons _).cons _).cons _).cons _)) ?_
    simp only [putPs]
    repeat' (first | apply s_ | (apply JO_ob; exact rfl; first | exact ob1) | ((first | apply b_ | apply a_ | apply i_); exact z_; intro _) | ((first | apply p_ | apply JO_yes | apply GC_t); exact z_) | (apply n_; exact z_) | (apply GC_f; exact z_) | (apply GX_block_on; exact z_) | (apply c_; exact z_; all_goals intro _))
    refine GX_begin hrs (fun w hw => hw) ?_
    have hbase : ∀ {r}, r ∈ [(fun b => u2.heap.size ≤ b, u3), (fun b => u0.heap.size ≤ b, u1), ((fun _ => True : Nat → Prop), w)] → r ∈ rs ++ [(fun b => u2.heap.size ≤ b, u3), (fun b => u0.heap.size ≤ b, u1), ((fun _ => True : Nat → Prop), w)] := fun h => List.mem_append_right _ h
    have hall := hbase (.tail _ (.tail _ (.head _)))
    have hsub : ∀ {L1 L2 : Hp} {x1 x2 x3 x4 : Nat × Obj}, ∀ p ∈ L1, p ∈ x1 :: x2 :: x3 :: x4 :: (L1 ++ L2) := fun p hp => .tail _ (.tail _ (.tail _ (.tail _ (List.mem_append_left _ hp))))
    repeat' (first | apply s_ | (apply JO_ob; exact rfl; first | exact ob1 | exact Ob_call rfl (fun w5 hw5 => c155 w5 a b c xv hs x k.yard (hw5.yd hall h.yard) (hw5.arl hxa hsub (by omega)))) | ((first | apply b_ | apply a_ | apply i_); exact z_; intro _) | ((first | apply p_ | apply JO_yes | apply GC_t); exact z_) | (apply n_; exact z_) | (apply GC_f; exact z_) | (apply GX_block_on; exact z_))
    have hd : (decide (fault1 k.yard = 0) && (inLb k.yard.fields x && okAll k.yard x)) = okAll k.yard x := by simp [hf, inLb_iff.2 hxI]
    rw [hd]
    cases hok : okAll k.yard x
    · repeat' (first | apply s_ | (apply JO_ob; exact rfl; first | exact ob1) | ((first | apply b_ | apply a_ | apply i_); exact z_; intro _) | ((first | apply p_ | apply JO_yes | apply GC_t); exact z_) | (apply n_; exact z_) | (apply GC_f; exact z_) | (apply GX_block_on; exact z_) | (apply c_; exact z_; all_goals intro _))
      refine GX_round (H' := dOpen dd :: (p2, .cells #[tv] 23) :: (p1, .cells (wkC a b c d e f k).toArray 52) :: (Hi ++ rowH tv 33 (hh.flatMap encO ++ sp))) hrs hrp (fun w hw => hw) fun w hw => ?_
      exact ⟨(hh, tv, sp, rows, rs), ⟨by simp [List.filter_append, hok, hrw], ho, hRs, by simp; omega⟩, fun _ h => h, hw.perm ((((hpm.cons _).cons _).cons _).cons _)⟩
    · repeat' (first | apply s_ | (apply JO_ob; exact rfl; first | exact ob1) | ((first | apply b_ | apply a_ | apply i_); exact z_; intro _) | ((first | apply p_ | apply JO_yes | apply GC_t); exact z_) | (apply n_; exact z_) | (apply GC_f; exact z_) | (apply GX_block_on; exact z_) | (apply c_; exact z_; all_goals intro _))
      refine JO_call (S := fun w0 r w' => ∃ u, r = .tuple #[u, .int .i64 0] ∧ Arr (New w0) w' 1 encI u (blueRow k.yard x)) rfl rfl (fun w5 hw5 => c156 w5 a b c xv hs x k.yard (hw5.yd hall h.yard) (hw5.arl hxa hsub (by omega)) hf hxI) ?_
      rintro r u4 u5 hu4 hu5 hk45 ⟨u, rfl, hu⟩
      have iu := hu.v1
      repeat' (first | apply s_ | (apply JO_ob; exact rfl; first | exact ob1) | ((first | apply b_ | apply a_ | apply i_); exact z_; intro _) | ((first | apply p_ | apply JO_yes | apply GC_t); exact z_) | (apply n_; exact z_) | (apply GC_f; exact z_) | (apply GX_block_on; exact z_) | (apply c_; exact z_; all_goals intro _))
      refine JO_append (xs := hh) (ys := [u]) (_ :: _ :: _ :: _ :: _ :: Hi) rfl rfl rfl ho (List.Perm.refl _) (fun w hw => hw.slOwn mem_ rfl) (by simp [encO, iu.o]) (by simp; omega) ?_
      intro v2 s2 ho2
      have j2 := ho2.v1
      repeat' (first | apply s_ | (apply JO_ob; exact rfl; first | exact ob1 | exact Ob_indexa rfl rfl (by omega) | exact Ob_load_a rfl mem_ (by omega) | exact Ob_sliceA rfl) | (apply pA_; exact zA_) | ((first | apply b_ | apply a_ | apply i_); exact z_; intro _) | ((first | apply p_ | apply JO_yes | apply GC_t); exact z_) | (apply n_; exact z_) | (apply GC_f; exact z_) | (apply GX_block_on; exact z_) | (apply c_; exact z_; all_goals intro _))
      refine GX_round (R' := (fun b => u4.heap.size ≤ b, u5) :: (rs ++ [(fun b => u2.heap.size ≤ b, u3), (fun b => u0.heap.size ≤ b, u1), (fun _ => True, w)])) (H' := dOpen dd :: (p2, .cells #[v2] 23) :: (p1, .cells (wkC a b c d e f k).toArray 52) :: (Hi ++ rowH v2 33 ((hh ++ [u]).flatMap encO ++ s2))) hrs hrp (fun w hw => hw.weak (fun r h => h) (List.Sublist.cons _ (List.Sublist.refl _))) fun w hw => ?_
      exact ⟨(hh ++ [u], v2, s2, rows ++ [blueRow k.yard x], (fun b => u4.heap.size ≤ b, u5) :: rs), ⟨by simp [List.filter_append, hok, hrw], ho2, hRs.snoc (fun b hb => Nat.le_trans hu4.b0le hb) hu, by simp; omega⟩, fun _ h => .tail _ h, hw.perm ((((hpm.cons _).cons _).cons _).cons _)⟩
  · rintro dd ⟨hh, tv, sp, rows, rs⟩ ⟨hrw, ho, hRs, hhl⟩
    simp only at hrw ho hRs hhl ⊢
    refine GX_freeze (A := [dOpen dd, _, _]) ho (by decide) ?_
    intro G w1 hF hG
    have j1 := hF.v1
    repeat' (first | apply s_ | (apply JO_ob; exact rfl; first | exact ob1) | ((first | apply b_ | apply a_ | apply i_); exact z_; intro _) | ((first | apply p_ | apply JO_yes | apply GC_t); exact z_) | (apply n_; exact z_) | (apply GC_f; exact z_) | (apply GX_block_on; exact z_) | (apply c_; exact z_; all_goals intro _))
    refine GX_retM1 0 rfl (GX_retc1 rfl rfl (.tail _ (.head _)) fun w' hw' => ⟨hw'.kp (.tail _ (List.mem_append_right _ (.tail _ (.tail _ (.head _))))), hh, ?_⟩)
    have e1 : rows = (truthsX k.yard).map (blueRow k.yard) := hrw
    rw [← e1]
    exact hRs.nest (w := w) hw' (fun r h => .tail _ (List.mem_append_left _ h)) (hF.new hG (List.mem_append_right _ (.tail _ (.tail _ (.head _)))) (.head _) hw')
end
end Go.Proofs.YtkbaaikidhbfmaaGreat
/- Contracts: the program's losses. No statement is proved here. -/
set_option linter.unusedVariables false
set_option linter.unusedSimpArgs false
namespace Go.Proofs.YtkbaaikidhbfmaaGreat
open Go.RowKit
def dropV (sz lo : Nat) : Value → Value
  | .slice A n c => .slice (if c = lo then A else A.map (·.add (lo * sz))) (n - lo) (c - lo)
  | v => v
theorem flat_drop {α : Type} {enc : α → List Value} {sz : Nat} (h : ∀ x, (enc x).length = sz) : ∀ (xs : List α) (lo : Nat), lo ≤ xs.length → (xs.drop lo).flatMap enc = (xs.flatMap enc).drop (lo * sz)
  | xs, 0, _ => by simp
  | [], lo + 1, hl => by simp at hl
  | x :: xs, lo + 1, hl => by
    have := flat_drop h xs lo (by simpa using hl)
    simp only [List.drop_succ_cons, List.flatMap_cons]
    rw [this, Nat.succ_mul, List.drop_append, h]
    have e1 : List.drop (lo * sz + sz) (enc x) = [] := List.drop_eq_nil_of_le (by rw [h]; omega)
    rw [e1, List.nil_append, Nat.add_sub_cancel]
theorem Arr.drop {α : Type} {G : Nat → Prop} {w : World} {sz : Nat} {enc : α → List Value} {v : Value} {xs : List α} (h : Arr G w sz enc v xs) {lo : Nat} (hl : lo ≤ xs.length) : Arr G w sz enc (dropV sz lo v) (xs.drop lo) := by
  refine ⟨h.esz, ?_⟩
  obtain ⟨A, c, rfl, hc, hm, hcs⟩ := h.h
  refine ⟨_, c - lo, by simp only [dropV, List.length_drop]; rfl, by rw [List.length_drop]; omega, by omega, ?_⟩
  by_cases e : c = lo
  · left
    rw [List.drop_eq_nil_of_le (by omega)]; rfl
  · rw [if_neg e]
    rcases hcs with h0 | ⟨b, off, rfl, hG, hcell⟩
    · left; rw [flat_drop h.esz xs lo hl, h0]; simp
    · right
      refine ⟨b, off + lo * sz, by simp [add_none], hG, fun j hj => ?_⟩
      rw [flat_drop h.esz xs lo hl] at hj ⊢
      rw [List.length_drop] at hj
      rw [Nat.add_assoc, hcell (lo * sz + j) (by omega), List.getElem?_drop]
section
variable {b0 : World} {R : Rgs} {H : Hp} {fr : Slots} {dst : Option Nat} {g : Option (Nat × Bool)} {ty : TypeId} {ps : String} {af : Array Edge}
theorem Ob_slice_lo {t e sz by_ lo : Nat} {x y : Operand} {A : Option Addr} {m c : Nat} {kk : IntKind} [h : TySl t e sz by_] (hx : ev fr x = some (.slice A m c)) (hy : ev fr y = some (.int kk (lo : Int))) (hl : lo ≤ m) (hc : m ≤ c) :
    Ob b0 R H ⟨dst, .slice t x (some y) none none, ty, ps, af, g⟩ fr (dropV sz lo (.slice A m c)) := .pure fun w f hf => by
  have h3 : 0 ≤ (lo : Int) ∧ (lo : Int) ≤ (m : Int) := by omega
  simp [execOp, hf x _ hx, hf y _ hy, Instr.sliceAt, run_underlying h.h, Instr.slice, Instr.sliceBounds, Instr.sliceBound, asIntOf, hl, h.s, dropV, Result.andThen]
end
variable {w : World} {a b c : Value} {hs : List Value} {d e f : Value} {k : Wk}
set_option maxHeartbeats 1000000 in
theorem c92 (h : WkA All w a b c hs d e f k) {es : Value} {en : List Int} (hen : Arr All w 1 encI es en) (hf : fault3 k.beat = 0) (hae : areEnd k.beat en = true) : Rt 92 [wkV a b c d e f k, es] w fun r w' => Keep w w' ∧ ∃ hs', Nest (New w) w' r hs' ((truthsW k.beat).map fun l => lossRow k.beat (toC l) en) := by
  have i1 := h.yard.fields.v1
  have i2 := h.yard.vats.arr.v1
  have i3 := h.yard.smps.v1
  have i4 := h.beat.vats.v1
  have i5 := h.beat.smps.v1
  have i6 := h.ends.v1
  have i7 := hen.v1
  obtain ⟨hO, hm⟩ := okB_of hf
  have v3 := hO.v3
  refine Rt_ofM Tryz.func92 rfl Tryz.ntmps92 rfl ?_
  repeat' (first | apply s_ | ((first | apply JO_ob | apply GD_ex | apply GL_ex); exact rfl; first | exact ob1) | ((first | apply b_ | apply a_ | apply i_); exact z_; intro _) | ((first | apply p_ | apply JO_yes | apply GC_t); exact z_) | (apply n_; exact z_) | (apply GC_f; exact z_) | (apply GX_block_on; exact z_) | refine GC_drawB (id := 3) [] [0, 1, 2, 3, 4, 5] [6, 7] _ (by kernel_rfl) (List.Sublist.refl _) ?_ | ((first | apply GD_at | apply GL_at | apply GD_no | apply GL_no); exact rfl) | apply DFin_0 | (apply q1_; exact z_) | (apply q0_; exact z_) | (apply q2_; exact z_) | (apply c_; exact z_; all_goals intro _) | (apply g_; exact z_; all_goals intro _))
  rename_i p2 p3 p4
  refine JO_call (S := fun w0 r w' => Arr (New w0) w' 2 encR r (btR k.beat)) rfl rfl (fun w5 hw5 => c80 (hw5.wk mem_ h) (by omega)) ?_
  rintro rv u0 u1 hu0 hu1 hk01 hrv
  have irv := hrv.v1
  repeat' (first | apply s_ | ((first | apply JO_ob | apply GD_ex | apply GL_ex); exact rfl; first | exact ob1) | ((first | apply b_ | apply a_ | apply i_); exact z_; intro _) | ((first | apply p_ | apply JO_yes | apply GC_t); exact z_) | (apply n_; exact z_) | (apply GC_f; exact z_) | (apply GX_block_on; exact z_) | refine GC_drawB (id := 3) [] [0, 1, 2, 3, 4, 5] [6, 7] _ (by kernel_rfl) (List.Sublist.refl _) ?_ | ((first | apply GD_at | apply GL_at | apply GD_no | apply GL_no); exact rfl) | apply DFin_0 | (apply q1_; exact z_) | (apply q0_; exact z_) | (apply q2_; exact z_) | (apply c_; exact z_; all_goals intro _) | (apply g_; exact z_; all_goals intro _))
  refine JO_call (S := fun w0 r w' => ∃ p, r = .func (.func 157) #[] #[pt p] ∧ w0.heap.size ≤ p ∧ w'.heap[p]? = some (.cells #[rv] 38)) rfl rfl (fun w5 hw5 => c127 w5 rv) ?_
  rintro v u2 u3 hu2 hu3 hk23 ⟨px, rfl, hpx, hpxc⟩
  repeat' (first | apply s_ | ((first | apply JO_ob | apply GD_ex | apply GL_ex); exact rfl; first | exact ob1) | ((first | apply b_ | apply a_ | apply i_); exact z_; intro _) | ((first | apply p_ | apply JO_yes | apply GC_t); exact z_) | (apply n_; exact z_) | (apply GC_f; exact z_) | (apply GX_block_on; exact z_) | refine GC_drawB (id := 3) [] [0, 1, 2, 3, 4, 5] [6, 7] _ (by kernel_rfl) (List.Sublist.refl _) ?_ | ((first | apply GD_at | apply GL_at | apply GD_no | apply GL_no); exact rfl) | apply DFin_0 | (apply q1_; exact z_) | (apply q0_; exact z_) | (apply q2_; exact z_) | (apply c_; exact z_; all_goals intro _) | (apply g_; exact z_; all_goals intro _))
  have lbt : (btR k.beat).length = k.beat.vats.length + 1 := by simp [btR]
  have hit := it157 (b0 := w) (Rb := [(fun b => u2.heap.size ≤ b, u3), (fun b => u0.heap.size ≤ b, u1), (fun _ => True, w)]) (.head _) hpx hpxc (.tail _ (.head _)) hrv hO.rgs (by omega)
  refine GC_range (α := List Value × Value × List Value × List (List Int) × Rgs) (cap := [pt px]) (prs := [12]) rfl hit (fun s => s.2.2.2.2 ++ [(fun b => u2.heap.size ≤ b, u3), (fun b => u0.heap.size ≤ b, u1), (fun _ => True, w)])
    (fun s => (p4, .cells #[s.2.1] 23) :: (p3, .cells #[es] 33) :: (p2, .cells (wkC a b c d e f k).toArray 52) :: rowH s.2.1 33 (s.1.flatMap encO ++ s.2.2.1))
    (fun pre s => s.2.2.2.1 = (pre.filter fun l => okAllC k.beat (toC l)).map (fun l => lossRow k.beat (toC l) en) ∧ Own 1 encO s.2.1 s.1 s.2.2.1 ∧ Rows_ w s.2.2.2.2 s.1 s.2.2.2.1 ∧ s.1.length ≤ pre.length) ([], .slice none 0 0, [], [], []) rfl (fun s r h => List.mem_append_right _ h) ⟨rfl, Own.nil fun _ => rfl, Rows_.nil, Nat.le_refl _⟩ (fun w hw => hw) (fun x us Hi hx => by obtain ⟨pb, e, _⟩ := hx; rw [e]; rfl) ?_ ?_
  · rintro l dd rc pre x ⟨hh, tv, sp, rows, rs⟩ us Hi hrs hrp ⟨hrw, ho, hRs, hhl⟩ hpost hus
    simp only at hrw ho hRs hhl ⊢
    have j1 := ho.v1
    have hxl : x ∈ lex (btR k.beat) := by obtain ⟨post, hp⟩ := hpost; rw [hp]; simp
    have hxI := mem_lex.1 hxl
    have hxb := InL_bd hO.rgs hxI
    have hxC := InC_of hxI
    obtain ⟨s0, l0, rfl⟩ : ∃ s l, x = s :: l := by
      cases x with
      | nil => simp [btR, InL] at hxI
      | cons s l => exact ⟨s, l, rfl⟩
    have hus2 := hus
    obtain ⟨pb, rfl, hmem⟩ := hus
    have hln : pre.length < 2000 := by
      obtain ⟨post, hp⟩ := hpost
      have h1 := lexB_len k.beat hO hm
      rw [hp] at h1; simp at h1; omega
    have iD : V1 (dropV 1 1 (.slice (some ⟨pb, 0, none⟩) (s0 :: l0).length (s0 :: l0).length)) := ⟨rfl⟩
    have hpm : ∀ {α β : Hp}, List.Perm (α ++ β) (β ++ α) := List.perm_append_comm
    refine GC_re (H' := (l, .loop rc) :: dOpen dd :: (p4, .cells #[tv] 23) :: (p3, .cells #[es] 33) :: (p2, .cells (wkC a b c d e f k).toArray 52) :: (Hi ++ rowH tv 33 (hh.flatMap encO ++ sp)))
      (fun w hw => hw.perm (((((hpm.cons _).cons _).cons _).cons _).cons _)) ?_
    simp only [putPs]
    repeat' (first | apply s_ | ((first | apply JO_ob | apply GD_ex | apply GL_ex); exact rfl; first | exact ob1) | ((first | apply b_ | apply a_ | apply i_); exact z_; intro _) | ((first | apply p_ | apply JO_yes | apply GC_t); exact z_) | (apply n_; exact z_) | (apply GC_f; exact z_) | (apply GX_block_on; exact z_) | refine GC_drawB (id := 3) [] [0, 1, 2, 3, 4, 5] [6, 7] _ (by kernel_rfl) (List.Sublist.refl _) ?_ | ((first | apply GD_at | apply GL_at | apply GD_no | apply GL_no); exact rfl) | apply DFin_0 | (apply q1_; exact z_) | (apply q0_; exact z_) | (apply q2_; exact z_) | (apply c_; exact z_; all_goals intro _) | (apply g_; exact z_; all_goals intro _))
    refine GX_begin hrs (fun w hw => hw) ?_
    have hbase : ∀ {r}, r ∈ [(fun b => u2.heap.size ≤ b, u3), (fun b => u0.heap.size ≤ b, u1), ((fun _ => True : Nat → Prop), w)] → r ∈ rs ++ [(fun b => u2.heap.size ≤ b, u3), (fun b => u0.heap.size ≤ b, u1), ((fun _ => True : Nat → Prop), w)] := fun h => List.mem_append_right _ h
    have hall := hbase (.tail _ (.tail _ (.head _)))
    have hsub : ∀ {L1 L2 : Hp} {x0 x1 x2 x3 x4 x5 : Nat × Obj}, ∀ p ∈ L1, p ∈ x0 :: x1 :: x2 :: x3 :: x4 :: x5 :: (L1 ++ L2) := fun p hp => .tail _ (.tail _ (.tail _ (.tail _ (.tail _ (.tail _ (List.mem_append_left _ hp))))))
    repeat' (first | apply s_ | ((first | apply JO_ob | apply GD_ex | apply GL_ex); exact rfl; first | exact ob1 | exact Ob_index_row (i := 0) rfl rfl (by simp) | exact Ob_load_r (enc := encI) (sz := 1) (i := 0) (k := 0) (xs := s0 :: l0) (u := .int .i64 s0) (fun _ => rfl) rfl (.tail _ (.tail _ (.tail _ (.tail _ (.tail _ (List.mem_append_left _ hmem)))))) (nth_some (by simp)) (by decide) rfl | exact Ob_slice_lo (lo := 1) rfl rfl (by simp) (Nat.le_refl _) | exact Ob_call rfl (fun w5 hw5 => c128 w5 d e _ (toC (s0 :: l0)) k.beat (hw5.bt hall h.beat) ((hw5.arl hus2 hsub (by omega)).drop (lo := 1) (by simp)))) | ((first | apply b_ | apply a_ | apply i_); exact z_; intro _) | ((first | apply p_ | apply JO_yes | apply GC_t); exact z_) | (apply n_; exact z_) | (apply GC_f; exact z_) | (apply GX_block_on; exact z_) | refine GC_drawB (id := 3) [] [0, 1, 2, 3, 4, 5] [6, 7] _ (by kernel_rfl) (List.Sublist.refl _) ?_ | ((first | apply GD_at | apply GL_at | apply GD_no | apply GL_no); exact rfl) | apply DFin_0 | (apply q1_; exact z_) | (apply q0_; exact z_) | (apply q2_; exact z_) | (apply c_; exact z_; all_goals intro _) | (apply g_; exact z_; all_goals intro _))
    have hd : (decide (fault3 k.beat = 0) && (inCb k.beat (toC (s0 :: l0)) && okAllC k.beat (toC (s0 :: l0)))) = okAllC k.beat (toC (s0 :: l0)) := by simp [hf, inCb_iff.2 hxC]
    rw [hd]
    rename_i p6
    have hsub2 : ∀ {L1 L2 : Hp} {x0 x1 x2 x3 x4 x5 : Nat × Obj}, ∀ p ∈ L1, p ∈ x0 :: x1 :: x2 :: x3 :: x4 :: x5 :: (L1 ++ L2) := hsub
    cases hok : okAllC k.beat (toC (s0 :: l0))
    · repeat' (first | apply s_ | ((first | apply JO_ob | apply GD_ex | apply GL_ex); exact rfl; first | exact ob1) | ((first | apply b_ | apply a_ | apply i_); exact z_; intro _) | ((first | apply p_ | apply JO_yes | apply GC_t); exact z_) | (apply n_; exact z_) | (apply GC_f; exact z_) | (apply GX_block_on; exact z_) | refine GC_drawB (id := 3) [] [0, 1, 2, 3, 4, 5] [6, 7] _ (by kernel_rfl) (List.Sublist.refl _) ?_ | ((first | apply GD_at | apply GL_at | apply GD_no | apply GL_no); exact rfl) | apply DFin_0 | (apply q1_; exact z_) | (apply q0_; exact z_) | (apply q2_; exact z_) | (apply c_; exact z_; all_goals intro _) | (apply g_; exact z_; all_goals intro _))
      refine GX_round (H' := dOpen dd :: (p4, .cells #[tv] 23) :: (p3, .cells #[es] 33) :: (p2, .cells (wkC a b c d e f k).toArray 52) :: (Hi ++ rowH tv 33 (hh.flatMap encO ++ sp))) hrs hrp (fun w hw => hw.weak (fun r h => h) (List.Sublist.cons _ (List.Sublist.refl _))) fun w hw => ?_
      exact ⟨(hh, tv, sp, rows, rs), ⟨by simp [List.filter_append, hok, hrw], ho, hRs, by simp; omega⟩, fun _ h => h, hw.perm (((((hpm.cons _).cons _).cons _).cons _).cons _)⟩
    · repeat' (first | apply s_ | ((first | apply JO_ob | apply GD_ex | apply GL_ex); exact rfl; first | exact ob1) | ((first | apply b_ | apply a_ | apply i_); exact z_; intro _) | ((first | apply p_ | apply JO_yes | apply GC_t); exact z_) | (apply n_; exact z_) | (apply GC_f; exact z_) | (apply GX_block_on; exact z_) | refine GC_drawB (id := 3) [] [0, 1, 2, 3, 4, 5] [6, 7] _ (by kernel_rfl) (List.Sublist.refl _) ?_ | ((first | apply GD_at | apply GL_at | apply GD_no | apply GL_no); exact rfl) | apply DFin_0 | (apply q1_; exact z_) | (apply q0_; exact z_) | (apply q2_; exact z_) | (apply c_; exact z_; all_goals intro _) | (apply g_; exact z_; all_goals intro _))
      refine JO_call (S := fun w0 r w' => ∃ u, r = .tuple #[u, .int .i64 0] ∧ Arr (New w0) w' 1 encI u (lossRow k.beat (toC (s0 :: l0)) en)) rfl rfl (fun w5 hw5 => c129 w5 d e _ es (toC (s0 :: l0)) en k.beat (hw5.bt hall h.beat) ((hw5.arl hus2 hsub (by omega)).drop (lo := 1) (by simp)) (hw5.arr hall hen) hf hxC hae) ?_
      rintro r u4 u5 hu4 hu5 hk45 ⟨u, rfl, hu⟩
      have iu := hu.v1
      repeat' (first | apply s_ | ((first | apply JO_ob | apply GD_ex | apply GL_ex); exact rfl; first | exact ob1) | ((first | apply b_ | apply a_ | apply i_); exact z_; intro _) | ((first | apply p_ | apply JO_yes | apply GC_t); exact z_) | (apply n_; exact z_) | (apply GC_f; exact z_) | (apply GX_block_on; exact z_) | refine GC_drawB (id := 3) [] [0, 1, 2, 3, 4, 5] [6, 7] _ (by kernel_rfl) (List.Sublist.refl _) ?_ | ((first | apply GD_at | apply GL_at | apply GD_no | apply GL_no); exact rfl) | apply DFin_0 | (apply q1_; exact z_) | (apply q0_; exact z_) | (apply q2_; exact z_) | (apply c_; exact z_; all_goals intro _) | (apply g_; exact z_; all_goals intro _))
      refine JO_append (xs := hh) (ys := [u]) (_ :: _ :: _ :: _ :: _ :: _ :: _ :: Hi) rfl rfl rfl ho (List.Perm.refl _) (fun w hw => hw.slOwn mem_ rfl) (by simp [encO, iu.o]) (by simp; omega) ?_
      intro v2 s2 ho2
      have j2 := ho2.v1
      repeat' (first | apply s_ | ((first | apply JO_ob | apply GD_ex | apply GL_ex); exact rfl; first | exact ob1 | exact Ob_indexa rfl rfl (by omega) | exact Ob_load_a rfl mem_ (by omega) | exact Ob_sliceA rfl) | (apply pA_; exact zA_) | ((first | apply b_ | apply a_ | apply i_); exact z_; intro _) | ((first | apply p_ | apply JO_yes | apply GC_t); exact z_) | (apply n_; exact z_) | (apply GC_f; exact z_) | (apply GX_block_on; exact z_) | refine GC_drawB (id := 3) [] [0, 1, 2, 3, 4, 5] [6, 7] _ (by kernel_rfl) (List.Sublist.refl _) ?_ | ((first | apply GD_at | apply GL_at | apply GD_no | apply GL_no); exact rfl) | apply DFin_0 | (apply q1_; exact z_) | (apply q0_; exact z_) | (apply q2_; exact z_) | (apply c_; exact z_; all_goals intro _) | (apply g_; exact z_; all_goals intro _))
      refine GX_round (R' := (fun b => u4.heap.size ≤ b, u5) :: (rs ++ [(fun b => u2.heap.size ≤ b, u3), (fun b => u0.heap.size ≤ b, u1), (fun _ => True, w)])) (H' := dOpen dd :: (p4, .cells #[v2] 23) :: (p3, .cells #[es] 33) :: (p2, .cells (wkC a b c d e f k).toArray 52) :: (Hi ++ rowH v2 33 ((hh ++ [u]).flatMap encO ++ s2))) hrs hrp (fun w hw => hw.weak (fun r h => h) (List.Sublist.cons _ (List.Sublist.cons _ (List.Sublist.refl _)))) fun w hw => ?_
      exact ⟨(hh ++ [u], v2, s2, rows ++ [lossRow k.beat (toC (s0 :: l0)) en], (fun b => u4.heap.size ≤ b, u5) :: rs), ⟨by simp [List.filter_append, hok, hrw], ho2, hRs.snoc (fun b hb => Nat.le_trans hu4.b0le hb) hu, by simp; omega⟩, fun _ h => .tail _ h, hw.perm (((((hpm.cons _).cons _).cons _).cons _).cons _)⟩
  · rintro dd ⟨hh, tv, sp, rows, rs⟩ ⟨hrw, ho, hRs, hhl⟩
    simp only at hrw ho hRs hhl ⊢
    refine GX_freeze (A := [dOpen dd, _, _, _]) ho (by decide) ?_
    intro G w1 hF hG
    have j1 := hF.v1
    repeat' (first | apply s_ | ((first | apply JO_ob | apply GD_ex | apply GL_ex); exact rfl; first | exact ob1) | ((first | apply b_ | apply a_ | apply i_); exact z_; intro _) | ((first | apply p_ | apply JO_yes | apply GC_t); exact z_) | (apply n_; exact z_) | (apply GC_f; exact z_) | (apply GX_block_on; exact z_) | refine GC_drawB (id := 3) [] [0, 1, 2, 3, 4, 5] [6, 7] _ (by kernel_rfl) (List.Sublist.refl _) ?_ | ((first | apply GD_at | apply GL_at | apply GD_no | apply GL_no); exact rfl) | apply DFin_0 | (apply q1_; exact z_) | (apply q0_; exact z_) | (apply q2_; exact z_) | (apply c_; exact z_; all_goals intro _) | (apply g_; exact z_; all_goals intro _))
    refine GX_retM1 0 rfl (GX_retc1 rfl rfl (.tail _ (.head _)) fun w' hw' => ⟨hw'.kp (.tail _ (List.mem_append_right _ (.tail _ (.tail _ (.head _))))), hh, ?_⟩)
    have e1 : rows = (truthsW k.beat).map (fun l => lossRow k.beat (toC l) en) := hrw
    rw [← e1]
    exact hRs.nest (w := w) hw' (fun r h => .tail _ (List.mem_append_left _ h)) (hF.new hG (List.mem_append_right _ (.tail _ (.tail _ (.head _)))) (.head _) hw')
end Go.Proofs.YtkbaaikidhbfmaaGreat
/- Contracts: the program's works that are asked. No statement is proved here. -/
set_option linter.unusedVariables false
set_option linter.unusedSimpArgs false
namespace Go.Proofs.YtkbaaikidhbfmaaGreat
open Go.RowKit
theorem fault9_0 {k : Wk} (h : fault9 k = 0) : fault1 k.yard = 0 ∧ (truths1 k.yard).length ≠ 0 ∧ fault3 k.beat = 0 ∧ (truths3 k.beat).length ≠ 0 ∧ k.beat.vats.length = k.yard.vats.length ∧ areEnd k.beat k.ends = true ∧ isNum k = true ∧ many1 k.yard.fields * many3 k.beat ≤ 6000 := by
  unfold fault9 at h
  split at h
  · rename_i h1; exact absurd h h1
  split at h
  · cases h
  split at h
  · rename_i h1; exact absurd h h1
  split at h
  · cases h
  split at h
  · cases h
  split at h
  · cases h
  split at h
  · cases h
  split at h
  · cases h
  rename_i h1 h2 h3 h4 h5 h6 h7 h8
  exact ⟨by omega, h2, by omega, h4, by omega, by simpa using h6, by simpa using h7, by omega⟩
/-- The muds of all vats in two truths, as the program keeps them. -/
def mudRow (n : Nat) (b l : List Int) : List Int := padL 3 ((List.range n).map fun i => max 0 (nth b i - nth l i))
/-- Which muds there are. -/
structure MudT (n : Nat) (bs ls rows : List (List Int)) : Prop where
  len : ∀ t ∈ rows, t.length = 3
  of : ∀ t ∈ rows, ∃ b ∈ bs, ∃ l ∈ ls, t = mudRow n b l
  to : ∀ b ∈ bs, ∀ l ∈ ls, mudRow n b l ∈ rows
/-- A map that says which rows there are. -/
def SeenF (rows : List (List Int)) (f : List Int → Option Value) : Prop := ∀ t, t.length = 3 → f t = if t ∈ rows then some (.bool true) else none
theorem Own.retOff {α : Type} {b0 : World} {R : Rgs} {A : Hp} {w : World} {e : TypeId} {sz : Nat} {enc : α → List Value} {v : Value} {xs : List α} {sp : List Value} {r : Nat} {o : Obj} (hv : Own sz enc v xs sp) (hs : 0 < sz) (hw : SH b0 R (A ++ rowH v e (xs.flatMap enc ++ sp)) w) (hm : ((fun _ => True), b0) ∈ R) (hr : (r, o) ∈ A) :
    Arr (fun b => New b0 b ∧ b ≠ r) w sz enc v xs := by
  obtain ⟨he, hc⟩ := hv
  rcases hc with ⟨rfl, h0, h1, h2⟩ | ⟨b, c, rfl, g1, g2, g3, g4⟩
  · have hx : xs = [] := List.eq_nil_of_length_eq_zero h0
    subst hx
    exact ⟨he, none, 0, rfl, Nat.le_refl _, by decide, .inl rfl⟩
  · have hb := hw.own (b, .cells (xs.flatMap enc ++ sp).toArray e) (List.mem_append_right _ (by simp [rowH]))
    have hn : w.heap.size ≥ b0.heap.size := hw.b0le
    have hnew := hw.apt (b, .cells (xs.flatMap enc ++ sp).toArray e) (List.mem_append_right _ (by simp [rowH])) _ hm trivial
    have hne : r ≠ b := by
      have := (List.pairwise_append.1 hw.nd).2.2 (r, o) hr (b, .cells (xs.flatMap enc ++ sp).toArray e) (by simp [rowH])
      exact this
    refine ⟨he, _, c, rfl, g1, g2, .inr ⟨b, 0, rfl, ⟨hnew, fun h => hne h.symm⟩, fun j hj => ?_⟩⟩
    rw [cell_blk hb, Nat.zero_add, List.getElem?_append_left hj]
/-- Which muds there are, of some pairs. -/
structure MudP (n : Nat) (ps : List (List Int × List Int)) (rows : List (List Int)) : Prop where
  of : ∀ t ∈ rows, t.length = 3 ∧ ∃ p ∈ ps, t = mudRow n p.1 p.2
  to : ∀ p ∈ ps, mudRow n p.1 p.2 ∈ rows
  len : rows.length ≤ ps.length
theorem MudP.nil (n : Nat) : MudP n [] [] := ⟨(fun _ h => by cases h), (fun _ h => by cases h), Nat.le_refl _⟩
theorem MudP.same {n : Nat} {ps : List (List Int × List Int)} {rows : List (List Int)} (h : MudP n ps rows) {p : List Int × List Int} (hp : mudRow n p.1 p.2 ∈ rows) : MudP n (ps ++ [p]) rows :=
  ⟨fun t ht => ⟨(h.of t ht).1, by obtain ⟨q, h1, h2⟩ := (h.of t ht).2; exact ⟨q, List.mem_append_left _ h1, h2⟩⟩, fun q hq => by
    rcases List.mem_append.1 hq with hq | hq
    · exact h.to q hq
    · simp at hq; rw [hq]; exact hp, by have := h.len; simp; omega⟩
theorem MudP.snoc {n : Nat} {ps : List (List Int × List Int)} {rows : List (List Int)} (h : MudP n ps rows) (p : List Int × List Int) : MudP n (ps ++ [p]) (rows ++ [mudRow n p.1 p.2]) :=
  ⟨fun t ht => by
    rcases List.mem_append.1 ht with ht | ht
    · obtain ⟨q, h1, h2⟩ := (h.of t ht).2
      exact ⟨(h.of t ht).1, q, List.mem_append_left _ h1, h2⟩
    · simp at ht; subst ht; exact ⟨padL_len _ _, p, by simp, rfl⟩, fun q hq => by
    rcases List.mem_append.1 hq with hq | hq
    · exact List.mem_append_left _ (h.to q hq)
    · simp at hq; rw [hq]; simp, by have := h.len; simp; omega⟩
theorem SeenF.snoc {rows : List (List Int)} {f : List Int → Option Value} (h : SeenF rows f) {t : List Int} : SeenF (rows ++ [t]) (fun k' => if k' = t then some (.bool true) else f k') := fun s hs => by
  by_cases e : s = t
  · subst e; simp
  · simp only [h s hs, List.mem_append, List.mem_singleton, e, or_false, if_false]
theorem Ob_lookupV {b0 : World} {R : Rgs} {H : Hp} {fr : Slots} {dst : Option Nat} {g : Option (Nat × Bool)} {ty : TypeId} {ps : String} {af : Array Edge} {t kt et r m : Nat} {x y : Operand} {z u : Value} {k : List Int} {f : List Int → Option Value} {o : Obj} [h : TyMap t kt et] [hK : TyKey kt m] [hz : TyZ et z] (hx : ev fr x = some (.map (some r))) (hy : ev fr y = some (kA m k)) (ho : (r, o) ∈ H) (hm : MapF m f o) (hk : k.length = m) (hu : (f k).getD z = u) :
    Ob b0 R H ⟨dst, .lookup t x y false, ty, ps, af, g⟩ fr u := by subst hu; exact Ob_lookup hx hy ho hm hk
theorem dot_bd {y : Yd} (hO : OkY y) {l : List Int} (hl : InL y.fields l) {q : Nat} (hq : q < y.vats.length) : nth (blueRow y l) q = dot l (nth y.vats q) ∧ 0 ≤ nth (blueRow y l) q ∧ nth (blueRow y l) q ≤ 900 := by
  have h1 := InL_bd hO.f hl
  have h2 := hO.v q hq
  have h3 := dotN_bd h1.1 h2.2 (by omega) l.length (Nat.le_refl _)
  have h4 := hO.f5
  have e : nth (blueRow y l) q = dot l (nth y.vats q) := nth_map _ hq
  rw [e]; simp only [dot]
  exact ⟨trivial, by omega, by omega⟩
theorem loss_bd {y : Bt} (hB : OkB y) {c : Crs} (hc : InC y c) {l : List Int} (hl : areEnd y l = true) {q : Nat} (hq : q < y.vats.length) : nth (lossRow y c l) q = lostV (nth y.vats q) (c.sun + nth c.needs q) (nth l q) ∧ 0 ≤ nth (lossRow y c l) q ∧ nth (lossRow y c l) q ≤ 400 := by
  have h1 := hB.v q hq
  have h2 := hc.needs q hq
  have h3 := hc.sun
  have h4 := hB.sun
  have h5 : 0 ≤ nth l q ∧ nth l q ≤ y.last := by
    simp only [areEnd, Bool.and_eq_true, decide_eq_true_eq] at hl
    exact of_decide_eq_true (all_nth.1 hl.1 q (by omega))
  have h6 := hB.l
  have e : nth (lossRow y c l) q = lostV (nth y.vats q) (c.sun + nth c.needs q) (nth l q) := by
    have : nth (lossRow y c l) q = lostV (nth y.vats q) (nth (doneL c) q) (nth l q) := by simp [lossRow, nth, hq]
    rw [this, doneL_nth (by rw [hc.len]; exact hq)]
  rw [e]
  refine ⟨rfl, ?_⟩
  simp only [lostV]
  split
  · have := mul_bd (a := (nth y.vats q).early) (b := c.sun + nth c.needs q - nth l q) (m := 20) (n := 20) h1.2.1.1 h1.2.1.2 (by omega) (by omega); omega
  · have := mul_bd (a := (nth y.vats q).late) (b := nth l q - (c.sun + nth c.needs q)) (m := 20) (n := 20) h1.2.2.1 h1.2.2.2 (by omega) (by omega); omega
section
variable {w : World} {a b c : Value} {hs : List Value} {d e f : Value} {k : Wk}
/-- What asked hands back where works are valid. -/
def AskedW (w : World) (a b c d e f : Value) (k : Wk) (v : Value) (w' : World) : Prop :=
  ∃ pw tv r rows, v = .tuple #[pt pw, .int .i64 0] ∧ (w.heap.size ≤ pw ∧ w.heap.size ≤ r ∧ pw ≠ r) ∧ w'.heap[pw]? = some (.cells (wkC a b c d e f k ++ [tv, .map (some r)]).toArray 188) ∧ w'.heap[r]? = some (.map #[] 0) ∧
    Arr (fun b => New w b ∧ b ≠ r) w' 3 (encA 3) tv rows ∧ MudT k.yard.vats.length ((truthsX k.yard).map (blueRow k.yard)) ((truthsW k.beat).map fun l => lossRow k.beat (toC l) k.ends) rows
set_option maxHeartbeats 4000000 in
theorem c88 (h : WkA All w a b c hs d e f k) (fine : Bool) : Rt 88 [wkV a b c d e f k, .bool fine] w fun v w' => Keep w w' ∧
    ((fault9 k ≠ 0 ∧ v = .tuple #[.pointer none, .int .i64 (fault9 k)]) ∨ (fault9 k = 0 ∧ fine = false ∧ v = .tuple #[.pointer none, .int .i64 2]) ∨ (fault9 k = 0 ∧ fine = true ∧ AskedW w a b c d e f k v w')) := by
  have i1 := h.yard.fields.v1
  have i2 := h.yard.vats.arr.v1
  have i3 := h.yard.smps.v1
  have i4 := h.beat.vats.v1
  have i5 := h.beat.smps.v1
  have i6 := h.ends.v1
  refine Rt_of Tryz.func88 rfl Tryz.ntmps88 rfl ?_
  repeat' (first | apply s_ | ((first | apply JO_ob | apply GD_ex | apply GL_ex); exact rfl; first | exact ob1 | exact Ob_call rfl (fun w hw => c25 (hw.wk mem_ h))) | ((first | apply b_ | apply a_ | apply i_); exact z_; intro _) | ((first | apply p_ | apply JO_yes | apply GC_t); exact z_) | (apply n_; exact z_) | (apply GC_f; exact z_) | (apply GX_block_on; exact z_) | refine GC_drawA (id := 19) [0, 1, 2, 3, 4, 5, 6, 7, 8, 9, 10, 11] [12] (by kernel_rfl) ?_ | refine GC_drawB (id := 23) [5] [0, 1, 2, 3, 4] [6, 7, 8, 9, 10] _ (by kernel_rfl) (List.Sublist.refl _) ?_ | ((first | apply GD_at | apply GL_at | apply GD_no | apply GL_no); exact rfl) | apply DFin_0 | (apply q1_; exact z_) | (apply q0_; exact z_) | (apply q2_; exact z_))
  by_cases hf : fault9 k = 0
  rotate_left
  · repeat' (first | apply s_ | ((first | apply JO_ob | apply GD_ex | apply GL_ex); exact rfl; first | exact ob1) | ((first | apply b_ | apply a_ | apply i_); exact z_; intro _) | ((first | apply p_ | apply JO_yes | apply GC_t); exact z_) | (apply n_; exact z_) | (apply GC_f; exact z_) | (apply GX_block_on; exact z_) | refine GC_drawA (id := 19) [0, 1, 2, 3, 4, 5, 6, 7, 8, 9, 10, 11] [12] (by kernel_rfl) ?_ | refine GC_drawB (id := 23) [5] [0, 1, 2, 3, 4] [6, 7, 8, 9, 10] _ (by kernel_rfl) (List.Sublist.refl _) ?_ | ((first | apply GD_at | apply GL_at | apply GD_no | apply GL_no); exact rfl) | apply DFin_0 | (apply q1_; exact z_) | (apply q0_; exact z_) | (apply q2_; exact z_) | (apply c_; exact z_; all_goals intro _) | (apply g_; exact z_; all_goals intro _))
    exact GX_ret2 rfl rfl rfl fun w' hw' => ⟨hw'.kp mem_, .inl ⟨hf, rfl⟩⟩
  obtain ⟨hf1, ht1, hf3, ht3, hvl, hae, hnum, hmany⟩ := fault9_0 hf
  obtain ⟨hO, hm⟩ := okY_of hf1
  obtain ⟨hB, hm3⟩ := okB_of hf3
  have v3 := hB.v3
  cases fine
  · repeat' (first | apply s_ | ((first | apply JO_ob | apply GD_ex | apply GL_ex); exact rfl; first | exact ob1) | ((first | apply b_ | apply a_ | apply i_); exact z_; intro _) | ((first | apply p_ | apply JO_yes | apply GC_t); exact z_) | (apply n_; exact z_) | (apply GC_f; exact z_) | (apply GX_block_on; exact z_) | refine GC_drawA (id := 19) [0, 1, 2, 3, 4, 5, 6, 7, 8, 9, 10, 11] [12] (by kernel_rfl) ?_ | refine GC_drawB (id := 23) [5] [0, 1, 2, 3, 4] [6, 7, 8, 9, 10] _ (by kernel_rfl) (List.Sublist.refl _) ?_ | ((first | apply GD_at | apply GL_at | apply GD_no | apply GL_no); exact rfl) | apply DFin_0 | (apply q1_; exact z_) | (apply q0_; exact z_) | (apply q2_; exact z_) | (apply c_; exact z_; all_goals intro _) | (apply g_; exact z_; all_goals intro _))
    exact GX_ret2 rfl rfl rfl fun w' hw' => ⟨hw'.kp mem_, .inr (.inl ⟨hf, rfl, rfl⟩)⟩
  repeat' (first | (apply JO_makeMap; exact rfl; intro _) | (apply JO_ob; exact rfl; apply Ob_build; exact rfl; exact inferInstance; exact (rfl : _ = some [_, _, _, _, _, _, _, _, _, _, _, _, _, _, _])) | apply s_ | ((first | apply JO_ob | apply GD_ex | apply GL_ex); exact rfl; first | exact ob1 | exact Ob_indexa rfl rfl (by omega) | exact Ob_load_a rfl mem_ (by omega) | exact Ob_sliceA rfl) | (apply pA_; exact zA_) | ((first | apply b_ | apply a_ | apply i_); exact z_; intro _) | ((first | apply p_ | apply JO_yes | apply GC_t); exact z_) | (apply n_; exact z_) | (apply GC_f; exact z_) | (apply GX_block_on; exact z_) | refine GC_drawA (id := 19) [0, 1, 2, 3, 4, 5, 6, 7, 8, 9, 10, 11] [12] (by kernel_rfl) ?_ | refine GC_drawB (id := 23) [5] [0, 1, 2, 3, 4] [6, 7, 8, 9, 10] _ (by kernel_rfl) (List.Sublist.refl _) ?_ | ((first | apply GD_at | apply GL_at | apply GD_no | apply GL_no); exact rfl) | apply DFin_0 | (apply q1_; exact z_) | (apply q0_; exact z_) | (apply q2_; exact z_) | (apply c_; exact z_; all_goals intro _) | (apply g_; exact z_; all_goals intro _))
  rename_i p2 r pw r2
  refine JO_call (S := fun w0 r w' => ∃ hs', Nest (New w0) w' r hs' ((truthsW k.beat).map fun l => lossRow k.beat (toC l) k.ends)) rfl rfl (fun w5 hw5 => c92 (hw5.wk mem_ h) (hw5.arr mem_ h.ends) hf3 hae) ?_
  rintro lv u0 u1 hu0 hu1 hk01 ⟨hl, hNl⟩
  have il := hNl.arr.v1
  have nl := hNl.len
  have al := hNl.arr
  repeat' (first | apply s_ | ((first | apply JO_ob | apply GD_ex | apply GL_ex); exact rfl; first | exact ob1 | exact Ob_indexa rfl rfl (by omega) | exact Ob_load_a rfl mem_ (by omega) | exact Ob_sliceA rfl) | (apply pA_; exact zA_) | ((first | apply b_ | apply a_ | apply i_); exact z_; intro _) | ((first | apply p_ | apply JO_yes | apply GC_t); exact z_) | (apply n_; exact z_) | (apply GC_f; exact z_) | (apply GX_block_on; exact z_) | refine GC_drawA (id := 19) [0, 1, 2, 3, 4, 5, 6, 7, 8, 9, 10, 11] [12] (by kernel_rfl) ?_ | refine GC_drawB (id := 23) [5] [0, 1, 2, 3, 4] [6, 7, 8, 9, 10] _ (by kernel_rfl) (List.Sublist.refl _) ?_ | ((first | apply GD_at | apply GL_at | apply GD_no | apply GL_no); exact rfl) | apply DFin_0 | (apply q1_; exact z_) | (apply q0_; exact z_) | (apply q2_; exact z_) | (apply c_; exact z_; all_goals intro _) | (apply g_; exact z_; all_goals intro _))
  refine JO_call (S := fun w0 r w' => ∃ hs', Nest (New w0) w' r hs' ((truthsX k.yard).map (blueRow k.yard))) rfl rfl (fun w5 hw5 => c123 (hw5.wk (.tail _ (.head _)) h) hf1) ?_
  rintro bv u2 u3 hu2 hu3 hk23 ⟨hb, hNb⟩
  have ib := hNb.arr.v1
  have nb := hNb.len
  have ab := hNb.arr
  repeat' (first | apply s_ | ((first | apply JO_ob | apply GD_ex | apply GL_ex); exact rfl; first | exact ob1 | exact Ob_indexa rfl rfl (by omega) | exact Ob_load_a rfl mem_ (by omega) | exact Ob_sliceA rfl) | (apply pA_; exact zA_) | ((first | apply b_ | apply a_ | apply i_); exact z_; intro _) | ((first | apply p_ | apply JO_yes | apply GC_t); exact z_) | (apply n_; exact z_) | (apply GC_f; exact z_) | (apply GX_block_on; exact z_) | refine GC_drawA (id := 19) [0, 1, 2, 3, 4, 5, 6, 7, 8, 9, 10, 11] [12] (by kernel_rfl) ?_ | refine GC_drawB (id := 23) [5] [0, 1, 2, 3, 4] [6, 7, 8, 9, 10] _ (by kernel_rfl) (List.Sublist.refl _) ?_ | ((first | apply GD_at | apply GL_at | apply GD_no | apply GL_no); exact rfl) | apply DFin_0 | (apply q1_; exact z_) | (apply q0_; exact z_) | (apply q2_; exact z_) | (apply c_; exact z_; all_goals intro _) | (apply g_; exact z_; all_goals intro _))
  let bs := (truthsX k.yard).map (blueRow k.yard)
  let ls := (truthsW k.beat).map fun l => lossRow k.beat (toC l) k.ends
  have hbs : ∀ x ∈ bs, x.length = k.yard.vats.length ∧ ∀ q, q < k.yard.vats.length → 0 ≤ nth x q ∧ nth x q ≤ 900 := fun x hx => by
    simp only [bs, List.mem_map] at hx
    obtain ⟨l, hl, rfl⟩ := hx
    exact ⟨by simp [blueRow], fun q hq => (dot_bd hO (mem_lex.1 (List.mem_filter.1 hl).1) hq).2⟩
  have hls : ∀ x ∈ ls, x.length = k.yard.vats.length ∧ ∀ q, q < k.yard.vats.length → 0 ≤ nth x q ∧ nth x q ≤ 400 := fun x hx => by
    simp only [ls, List.mem_map] at hx
    obtain ⟨l, hl, rfl⟩ := hx
    exact ⟨by simp [lossRow, hvl], fun q hq => (loss_bd hB (InC_of (mem_lex.1 (List.mem_filter.1 hl).1)) hae (by omega)).2⟩
  have hnb : hb.length ≤ 2000 := by
    rw [nb, List.length_map]
    exact Nat.le_trans (List.length_filter_le _ _) (lex_len _ hO.f hm)
  have hnl : hl.length ≤ 2000 := by
    rw [nl, List.length_map]
    exact Nat.le_trans (List.length_filter_le _ _) (lexB_len _ hB hm3)
  let PP := prod bs ls
  have nb' : hb.length = bs.length := nb
  have nl' : hl.length = ls.length := nl
  let Rg_ : Rgs := [(fun b => u2.heap.size ≤ b, u3), (fun b => u0.heap.size ≤ b, u1), (fun _ => True, w)]
  let Hf : (List (List Int) × Value × List Value × Obj) → Hp := fun s => (r2, s.2.2.2) :: (pw, .cells (wkC a b c d e f k ++ [s.2.1, .map (some r)]).toArray 188) :: (r, .map #[] 0) :: (p2, .cells (wkC a b c d e f k).toArray 52) :: rowH s.2.1 195 (s.1.flatMap (encA 3) ++ s.2.2.1)
  let Iv : Nat → (List (List Int) × Value × List Value × Obj) → Prop := fun q s => MudP k.yard.vats.length (PP.take q) s.1 ∧ Own 3 (encA 3) s.2.1 s.1 s.2.2.1 ∧ ∃ F, SeenF s.1 F ∧ MapF 3 F s.2.2.2
  refine GC_loop (α := Nat × (List (List Int) × Value × List Value × Obj)) (fun s => hb.length - s.1) (fun s => [(2, pt p2), (7, pt pw), (8, .map (some r2)), (9, lv), (33, bv), (34, .int .i64 (hb.length : Int)), (35, .int .i64 (s.1 : Int))]) (fun _ => Rg_)
    (fun s => Hf s.2) (fun s => s.1 ≤ hb.length ∧ Iv (s.1 * ls.length) s.2) (0, [], .slice none 0 0, [], .map #[] 0) ⟨rfl, rfl, rfl, rfl, rfl, rfl, rfl, trivial⟩ ⟨Nat.zero_le _, by simp only [Nat.zero_mul, List.take_zero]; exact MudP.nil _, Own.nil (encA_len 3), _, (fun t _ => by simp), MapF.empty 3⟩ (fun w hw => hw) ?_
  rintro ⟨i, s1⟩ ⟨hi, hI1⟩
  simp only at hi hI1 ⊢
  by_cases hlt : i < hb.length
  · have gbi : Arr (New u2) u3 1 encI (nth hb i) (nth bs i) := hNb.row i (by omega)
    have ibi := gbi.v1
    have hbi := hbs (nth bs i) (nth_mem (by omega))
    simp only [Hf, Rg_]
    repeat' (first | apply s_ | ((first | apply JO_ob | apply GD_ex | apply GL_ex); exact rfl; first | exact ob1 | exact Ob_indexa rfl rfl (by omega) | exact Ob_load_a rfl mem_ (by omega) | exact Ob_sliceA rfl) | (apply pA_; exact zA_) | ((first | apply b_ | apply a_ | apply i_); exact z_; intro _) | ((first | apply p_ | apply JO_yes | apply GC_t); exact z_) | (apply n_; exact z_) | (apply GC_f; exact z_) | (apply GX_block_on; exact z_) | refine GC_drawA (id := 19) [0, 1, 2, 3, 4, 5, 6, 7, 8, 9, 10, 11] [12] (by kernel_rfl) ?_ | refine GC_drawB (id := 23) [5] [0, 1, 2, 3, 4] [6, 7, 8, 9, 10] _ (by kernel_rfl) (List.Sublist.refl _) ?_ | ((first | apply GD_at | apply GL_at | apply GD_no | apply GL_no); exact rfl) | apply DFin_0 | (apply q1_; exact z_) | (apply q0_; exact z_) | (apply q2_; exact z_) | (apply c_; exact z_; all_goals intro _) | (apply g_; exact z_; all_goals intro _))
    refine GC_loop (α := Nat × (List (List Int) × Value × List Value × Obj)) (fun s => hl.length - s.1) (fun s => [(2, pt p2), (7, pt pw), (8, .map (some r2)), (9, lv), (11, nth hb i), (33, bv), (34, .int .i64 (hb.length : Int)), (35, .int .i64 (i : Int)), (39, lv), (40, .int .i64 (hl.length : Int)), (41, .int .i64 (s.1 : Int))]) (fun _ => Rg_)
      (fun s => Hf s.2) (fun s => s.1 ≤ hl.length ∧ Iv (i * ls.length + s.1) s.2) (0, s1) ⟨rfl, rfl, rfl, rfl, rfl, rfl, rfl, rfl, rfl, rfl, rfl, trivial⟩ ⟨Nat.zero_le _, hI1⟩ (fun w hw => hw) ?_
    rintro ⟨j, rows, tv, sp, ob⟩ ⟨hj, hMP, ho, F, hS, hF⟩
    simp only at hj hMP ho hS hF ⊢
    have j1 := ho.v1
    by_cases hlj : j < hl.length
    · have glj : Arr (New u0) u1 1 encI (nth hl j) (nth ls j) := hNl.row j (by omega)
      have ilj := glj.v1
      have hlj2 := hls (nth ls j) (nth_mem (by omega))
      simp only [Hf, Rg_]
      repeat' (first | apply s_ | ((first | apply JO_ob | apply GD_ex | apply GL_ex); exact rfl; first | exact ob1 | exact Ob_call rfl (fun w5 hw5 => c75w (hw5.wk (.tail _ (.tail _ (.head _))) h)) | exact Ob_indexa rfl rfl (by omega) | exact Ob_load_a rfl mem_ (by omega) | exact Ob_sliceA rfl) | (apply pA_; exact zA_) | ((first | apply b_ | apply a_ | apply i_); exact z_; intro _) | ((first | apply p_ | apply JO_yes | apply GC_t); exact z_) | (apply n_; exact z_) | (apply GC_f; exact z_) | (apply GX_block_on; exact z_) | refine GC_drawA (id := 19) [0, 1, 2, 3, 4, 5, 6, 7, 8, 9, 10, 11] [12] (by kernel_rfl) ?_ | refine GC_drawB (id := 23) [5] [0, 1, 2, 3, 4] [6, 7, 8, 9, 10] _ (by kernel_rfl) (List.Sublist.refl _) ?_ | ((first | apply GD_at | apply GL_at | apply GD_no | apply GL_no); exact rfl) | apply DFin_0 | (apply q1_; exact z_) | (apply q0_; exact z_) | (apply q2_; exact z_) | (apply c_; exact z_; all_goals intro _) | (apply g_; exact z_; all_goals intro _))
      rename_i p14
      let bi := nth bs i
      let lj := nth ls j
      refine GC_loop (α := Nat × List Int) (fun s => k.yard.vats.length - s.1) (fun s => [(2, pt p2), (7, pt pw), (8, .map (some r2)), (9, lv), (11, nth hb i), (13, nth hl j), (14, pt p14), (33, bv), (34, .int .i64 (hb.length : Int)), (35, .int .i64 (i : Int)), (39, lv), (40, .int .i64 (hl.length : Int)), (41, .int .i64 (j : Int)), (46, .int .i64 (k.yard.vats.length : Int)), (47, .int .i64 (s.1 : Int))]) (fun _ => Rg_)
        (fun s => (p14, .cells (encA 3 s.2).toArray 195) :: Hf (rows, tv, sp, ob)) (fun s => s.1 ≤ k.yard.vats.length ∧ s.2.length = 3 ∧ (∀ q, q < s.1 → nth s.2 q = max 0 (nth bi q - nth lj q)) ∧ ∀ q, s.1 ≤ q → nth s.2 q = 0) (0, [0, 0, 0])
        ⟨rfl, rfl, rfl, rfl, rfl, rfl, rfl, rfl, rfl, rfl, rfl, rfl, rfl, rfl, rfl, trivial⟩ ⟨Nat.zero_le _, rfl, fun q hq => absurd hq (Nat.not_lt_zero q), fun q _ => ?_⟩ (fun w hw => hw) ?_
      · match q with
        | 0 => rfl
        | 1 => rfl
        | 2 => rfl
        | q + 3 => simp [nth]
      rintro ⟨q, xs⟩ ⟨hq, hx3, hxq, hxz⟩
      simp only at hq hx3 hxq hxz ⊢
      by_cases hlq : q < k.yard.vats.length
      · have y1 := hbi.2 q hlq
        have y2 := hlj2.2 q hlq
        have y3 := hbi.1
        have y4 := hlj2.1
        simp only [Hf, Rg_]
        repeat' (first | apply s_ | ((first | apply JO_ob | apply GD_ex | apply GL_ex); exact rfl; first | exact ob1 | exact Ob_indexa rfl rfl (by omega) | exact Ob_load_a rfl mem_ (by omega) | exact Ob_sliceA rfl) | (apply pA_; exact zA_) | ((first | apply b_ | apply a_ | apply i_); exact z_; intro _) | ((first | apply p_ | apply JO_yes | apply GC_t); exact z_) | (apply n_; exact z_) | (apply GC_f; exact z_) | (apply GX_block_on; exact z_) | refine GC_drawA (id := 19) [0, 1, 2, 3, 4, 5, 6, 7, 8, 9, 10, 11] [12] (by kernel_rfl) ?_ | refine GC_drawB (id := 23) [5] [0, 1, 2, 3, 4] [6, 7, 8, 9, 10] _ (by kernel_rfl) (List.Sublist.refl _) ?_ | ((first | apply GD_at | apply GL_at | apply GD_no | apply GL_no); exact rfl) | apply DFin_0 | (apply q1_; exact z_) | (apply q0_; exact z_) | (apply q2_; exact z_) | (apply c_; exact z_; all_goals intro _) | (apply g_; exact z_; all_goals intro _))
        refine JO_store_a (j := 0) (xs := xs) rfl rfl rfl (by omega) (by omega) ?_
        repeat' (first | apply s_ | ((first | apply JO_ob | apply GD_ex | apply GL_ex); exact rfl; first | exact ob1 | exact Ob_indexa rfl rfl (by omega) | exact Ob_load_a rfl mem_ (by omega) | exact Ob_sliceA rfl) | (apply pA_; exact zA_) | ((first | apply b_ | apply a_ | apply i_); exact z_; intro _) | ((first | apply p_ | apply JO_yes | apply GC_t); exact z_) | (apply n_; exact z_) | (apply GC_f; exact z_) | (apply GX_block_on; exact z_) | refine GC_drawA (id := 19) [0, 1, 2, 3, 4, 5, 6, 7, 8, 9, 10, 11] [12] (by kernel_rfl) ?_ | refine GC_drawB (id := 23) [5] [0, 1, 2, 3, 4] [6, 7, 8, 9, 10] _ (by kernel_rfl) (List.Sublist.refl _) ?_ | ((first | apply GD_at | apply GL_at | apply GD_no | apply GL_no); exact rfl) | apply DFin_0 | (apply q1_; exact z_) | (apply q0_; exact z_) | (apply q2_; exact z_) | (apply c_; exact z_; all_goals intro _) | (apply g_; exact z_; all_goals intro _))
        refine GX_loop (q + 1, xs.set q (max 0 (nth bi q - nth lj q))) ⟨rfl, rfl, rfl, rfl, rfl, rfl, rfl, rfl, rfl, rfl, rfl, rfl, rfl, rfl, rfl, trivial⟩ (by simp only; omega) ⟨by simp only; omega, by simp only [List.length_set]; exact hx3, fun z hz => ?_, fun z hz => ?_⟩ fun w hw => hw
        · simp only at hz ⊢
          rw [nth_set (by omega)]
          by_cases e : z = q
          · subst e; rw [if_pos rfl]
          · rw [if_neg e]; exact hxq z (by omega)
        · simp only at hz ⊢
          rw [nth_set (by omega), if_neg (by omega)]; exact hxz z (by omega)
      · have hqe : q = k.yard.vats.length := by omega
        subst hqe
        have hm3' : xs = mudRow k.yard.vats.length bi lj := by
          refine nth_ext (by rw [hx3]; exact (padL_len _ _).symm) fun z hz => ?_
          rw [mudRow, padL_nth (by omega)]
          by_cases hz2 : z < k.yard.vats.length
          · rw [hxq z hz2]; simp [nth, hz2]
          · rw [hxz z (by omega)]; simp [nth, hz2]
        subst hm3'
        have hst := take_mul_snoc (xs := bs) (ys := ls) (i := i) (j := j) (by omega) (by omega)
        simp only [Hf, Rg_]
        cases hin : decide (mudRow k.yard.vats.length bi lj ∈ rows)
        · have hni := of_decide_eq_false hin
          have hu : (F (mudRow k.yard.vats.length bi lj)).getD (.bool false) = .bool false := by rw [hS _ hx3, if_neg hni]; rfl
          repeat' (first | apply s_ | (apply JO_ob; exact rfl; first | exact ob1 | exact Ob_lookupV rfl rfl mem_ hF hx3 hu | exact Ob_indexa rfl rfl (by omega) | exact Ob_load_a rfl mem_ (by omega) | exact Ob_sliceA rfl) | (apply pA_; exact zA_) | ((first | apply b_ | apply a_ | apply i_); exact z_; intro _) | ((first | apply p_ | apply JO_yes | apply GC_t); exact z_) | (apply n_; exact z_) | (apply GC_f; exact z_) | (apply GX_block_on; exact z_) | (apply c_; exact z_; all_goals intro _))
          refine JO_mapUpdate (j := 1) (k := mudRow k.yard.vats.length bi lj) rfl rfl rfl rfl hF hx3 ?_
          intro ob2 hF2
          repeat' (first | apply s_ | (apply JO_ob; exact rfl; first | exact ob1 | exact Ob_indexa rfl rfl (by omega) | exact Ob_load_a rfl mem_ (by omega) | exact Ob_sliceA rfl) | (apply pA_; exact zA_) | ((first | apply b_ | apply a_ | apply i_); exact z_; intro _) | ((first | apply p_ | apply JO_yes | apply GC_t); exact z_) | (apply n_; exact z_) | (apply GC_f; exact z_) | (apply GX_block_on; exact z_) | (apply c_; exact z_; all_goals intro _))
          refine GC_drawB (id := 23) [5] [0, 1, 2, 3, 4] [6, 7, 8, 9, 10] [(pw, .cells (wkC a b c d e f k ++ [tv, .map (some r)]).toArray 188)] (by kernel_rfl) sub_ ?_
          repeat' (first | apply s_ | ((first | apply JO_ob | apply GD_ex | apply GL_ex); exact rfl; first | exact ob1 | exact Ob_indexa rfl rfl (by omega) | exact Ob_load_a rfl mem_ (by omega) | exact Ob_sliceA rfl) | (apply pA_; exact zA_) | ((first | apply b_ | apply a_ | apply i_); exact z_; intro _) | ((first | apply p_ | apply JO_yes | apply GC_t); exact z_) | (apply n_; exact z_) | (apply GC_f; exact z_) | (apply GX_block_on; exact z_) | refine GC_drawA (id := 19) [0, 1, 2, 3, 4, 5, 6, 7, 8, 9, 10, 11] [12] (by kernel_rfl) ?_ | refine GC_drawB (id := 23) [5] [0, 1, 2, 3, 4] [6, 7, 8, 9, 10] _ (by kernel_rfl) (List.Sublist.refl _) ?_ | ((first | apply GD_at | apply GL_at | apply GD_no | apply GL_no); exact rfl) | apply DFin_0 | (apply q1_; exact z_) | (apply q0_; exact z_) | (apply q2_; exact z_) | (apply c_; exact z_; all_goals intro _) | (apply g_; exact z_; all_goals intro _))
          have hrl : rows.length ≤ 4100000 := by
            have g1 := hMP.len
            have g2 : (PP.take (i * ls.length + j)).length ≤ i * ls.length + j := List.length_take_le _ _
            have g3 : i * ls.length ≤ 2000 * 2000 := Nat.mul_le_mul (by omega) (by omega)
            omega
          refine JO_append (xs := rows) (ys := [mudRow k.yard.vats.length bi lj]) [_, _, _, _, _, _] rfl rfl rfl ho (List.Perm.refl _) (fun w hw => hw.slOwn mem_ rfl) (by simp [encA_one]) (by simp; omega) ?_
          intro v2 s2 ho2
          have j2 := ho2.v1
          repeat' (first | apply s_ | ((first | apply JO_ob | apply GD_ex | apply GL_ex); exact rfl; first | exact ob1 | exact Ob_indexa rfl rfl (by omega) | exact Ob_load_a rfl mem_ (by omega) | exact Ob_sliceA rfl) | (apply pA_; exact zA_) | ((first | apply b_ | apply a_ | apply i_); exact z_; intro _) | ((first | apply p_ | apply JO_yes | apply GC_t); exact z_) | (apply n_; exact z_) | (apply GC_f; exact z_) | (apply GX_block_on; exact z_) | refine GC_drawA (id := 19) [0, 1, 2, 3, 4, 5, 6, 7, 8, 9, 10, 11] [12] (by kernel_rfl) ?_ | refine GC_drawB (id := 23) [5] [0, 1, 2, 3, 4] [6, 7, 8, 9, 10] _ (by kernel_rfl) (List.Sublist.refl _) ?_ | ((first | apply GD_at | apply GL_at | apply GD_no | apply GL_no); exact rfl) | apply DFin_0 | (apply q1_; exact z_) | (apply q0_; exact z_) | (apply q2_; exact z_) | (apply c_; exact z_; all_goals intro _) | (apply g_; exact z_; all_goals intro _))
          refine GX_loop (j + 1, rows ++ [mudRow k.yard.vats.length bi lj], v2, s2, ob2) ⟨rfl, rfl, rfl, rfl, rfl, rfl, rfl, rfl, rfl, rfl, rfl, trivial⟩ (by simp only; omega) ⟨by simp only; omega, ?_, ho2, _, hS.snoc, hF2⟩ fun w hw => hw.weak (fun r h => h) (List.Sublist.cons _ (List.Sublist.cons _ (List.Sublist.refl _)))
          simp only [PP]; rw [hst]
          exact hMP.snoc (bi, lj)
        · have hni := of_decide_eq_true hin
          have hu : (F (mudRow k.yard.vats.length bi lj)).getD (.bool false) = .bool true := by rw [hS _ hx3, if_pos hni]; rfl
          repeat' (first | apply s_ | ((first | apply JO_ob | apply GD_ex | apply GL_ex); exact rfl; first | exact ob1 | exact Ob_lookupV rfl rfl mem_ hF hx3 hu | exact Ob_indexa rfl rfl (by omega) | exact Ob_load_a rfl mem_ (by omega) | exact Ob_sliceA rfl) | (apply pA_; exact zA_) | ((first | apply b_ | apply a_ | apply i_); exact z_; intro _) | ((first | apply p_ | apply JO_yes | apply GC_t); exact z_) | (apply n_; exact z_) | (apply GC_f; exact z_) | (apply GX_block_on; exact z_) | refine GC_drawA (id := 19) [0, 1, 2, 3, 4, 5, 6, 7, 8, 9, 10, 11] [12] (by kernel_rfl) ?_ | refine GC_drawB (id := 23) [5] [0, 1, 2, 3, 4] [6, 7, 8, 9, 10] _ (by kernel_rfl) (List.Sublist.refl _) ?_ | ((first | apply GD_at | apply GL_at | apply GD_no | apply GL_no); exact rfl) | apply DFin_0 | (apply q1_; exact z_) | (apply q0_; exact z_) | (apply q2_; exact z_) | (apply c_; exact z_; all_goals intro _) | (apply g_; exact z_; all_goals intro _))
          refine GX_loop (j + 1, rows, tv, sp, ob) ⟨rfl, rfl, rfl, rfl, rfl, rfl, rfl, rfl, rfl, rfl, rfl, trivial⟩ (by simp only; omega) ⟨by simp only; omega, ?_, ho, F, hS, hF⟩ fun w hw => hw.weak (fun r h => h) (List.Sublist.cons _ (List.Sublist.refl _))
          simp only [PP]; rw [hst]
          exact hMP.same (p := (bi, lj)) hni
    · have hje : j = ls.length := by omega
      subst hje
      simp only [Hf, Rg_]
      repeat' (first | apply s_ | ((first | apply JO_ob | apply GD_ex | apply GL_ex); exact rfl; first | exact ob1 | exact Ob_indexa rfl rfl (by omega) | exact Ob_load_a rfl mem_ (by omega) | exact Ob_sliceA rfl) | (apply pA_; exact zA_) | ((first | apply b_ | apply a_ | apply i_); exact z_; intro _) | ((first | apply p_ | apply JO_yes | apply GC_t); exact z_) | (apply n_; exact z_) | (apply GC_f; exact z_) | (apply GX_block_on; exact z_) | refine GC_drawA (id := 19) [0, 1, 2, 3, 4, 5, 6, 7, 8, 9, 10, 11] [12] (by kernel_rfl) ?_ | refine GC_drawB (id := 23) [5] [0, 1, 2, 3, 4] [6, 7, 8, 9, 10] _ (by kernel_rfl) (List.Sublist.refl _) ?_ | ((first | apply GD_at | apply GL_at | apply GD_no | apply GL_no); exact rfl) | apply DFin_0 | (apply q1_; exact z_) | (apply q0_; exact z_) | (apply q2_; exact z_) | (apply c_; exact z_; all_goals intro _) | (apply g_; exact z_; all_goals intro _))
      have e7 : i * ls.length + ls.length = (i + 1) * ls.length := by rw [Nat.add_mul, Nat.one_mul]
      rw [e7] at hMP
      exact GX_loop (i + 1, rows, tv, sp, ob) ⟨rfl, rfl, rfl, rfl, rfl, rfl, rfl, trivial⟩ (by simp only; omega) ⟨by simp only; omega, hMP, ho, F, hS, hF⟩ fun w hw => hw
  · have hie : i = bs.length := by omega
    subst hie
    obtain ⟨rows, tv, sp, ob⟩ := s1
    obtain ⟨hMP, ho, F, hS, hF⟩ := hI1
    simp only at hMP ho hS hF ⊢
    have hPP : PP.take (bs.length * ls.length) = PP := List.take_of_length_le (by rw [show PP.length = bs.length * ls.length from prod_len bs ls]; exact Nat.le_refl _)
    rw [hPP] at hMP
    simp only [Hf, Rg_]
    repeat' (first | apply s_ | ((first | apply JO_ob | apply GD_ex | apply GL_ex); exact rfl; first | exact ob1 | exact Ob_indexa rfl rfl (by omega) | exact Ob_load_a rfl mem_ (by omega) | exact Ob_sliceA rfl) | (apply pA_; exact zA_) | ((first | apply b_ | apply a_ | apply i_); exact z_; intro _) | ((first | apply p_ | apply JO_yes | apply GC_t); exact z_) | (apply n_; exact z_) | (apply GC_f; exact z_) | (apply GX_block_on; exact z_) | refine GC_drawA (id := 19) [0, 1, 2, 3, 4, 5, 6, 7, 8, 9, 10, 11] [12] (by kernel_rfl) ?_ | refine GC_drawB (id := 23) [5] [0, 1, 2, 3, 4] [6, 7, 8, 9, 10] _ (by kernel_rfl) (List.Sublist.refl _) ?_ | ((first | apply GD_at | apply GL_at | apply GD_no | apply GL_no); exact rfl) | apply DFin_0 | (apply q1_; exact z_) | (apply q0_; exact z_) | (apply q2_; exact z_) | (apply c_; exact z_; all_goals intro _) | (apply g_; exact z_; all_goals intro _))
    refine GX_ret2 rfl rfl rfl fun w' hw' => ⟨hw'.kp mem_,   .inr (.inr ⟨hf, by trivial, pw, tv, r, rows, rfl, ⟨hw'.apt _ (.tail _ (.head _)) _ (.tail _ (.tail _ (.head _))) trivial, hw'.apt _ (.tail _ (.tail _ (.head _))) _ (.tail _ (.tail _ (.head _))) trivial, ?_⟩, hw'.own _ (.tail _ (.head _)), hw'.own _ (.tail _ (.tail _ (.head _))), ho.retOff (A := [_, _, _, _]) (by decide) hw' mem_ (.tail _ (.tail _ (.head _))), ?_⟩)⟩
    · have := List.pairwise_cons.1 (List.pairwise_cons.1 hw'.nd).2
      exact this.1 _ (.head _)
    · refine ⟨fun t ht => (hMP.of t ht).1, fun t ht => ?_, fun x hx y hy => ?_⟩
      · obtain ⟨p, hp, e⟩ := (hMP.of t ht).2
        simp only [PP, prod, List.mem_flatMap, List.mem_map] at hp
        obtain ⟨x, hx, y, hy, rfl⟩ := hp
        exact ⟨x, hx, y, hy, e⟩
      · exact hMP.to (x, y) (by simp only [PP, prod, List.mem_flatMap, List.mem_map]; exact ⟨x, hx, y, hy, rfl⟩)
end
end Go.Proofs.YtkbaaikidhbfmaaGreat
/- Contracts: the hours that mud needs. No statement is proved here. -/
set_option linter.unusedVariables false
set_option linter.unusedSimpArgs false
namespace Go.Proofs.YtkbaaikidhbfmaaGreat
open Go.RowKit
/-- No jump to a label. -/
def noG (Q : Post) : Post := fun e a w => match e with
  | .goto _ => False
  | e => Q e a w
theorem stepR_scope {P : Program} {b : Frame} {a : Act} {k : List Item} {cs : List Frame} {w : World} {c : Code} : step P (lone (b.atR a (.code (.scope c) :: k)) cs w) = .next (lone (b.atR a (.code c :: .inScope c :: k)) cs w) :=
  step_lone_go (by simp [stepG, stepG.exec, Frame.atR])
theorem stepR_inScope {P : Program} {b : Frame} {a : Act} {k : List Item} {cs : List Frame} {w : World} {c : Code} : step P (lone (b.atR a (.inScope c :: k)) cs w) = .next (lone (b.atR a k) cs w) :=
  step_lone_go (by simp [stepG, stepG.exec, Frame.atR])
theorem C_scope {n : Nat} {D : List Deferred} {c : Code} {Q : Post} {fr : Slots} {w : World} (h : C none n D c (noG Q) fr w) : C none n D (.scope c) Q fr w := by
  intro A hA b k cs hro hb hr
  have h0 : (lone (b.atR ⟨A, D⟩ (.code (.scope c) :: k)) cs w).fenced P (FW none) := fenced_calm hb hr rfl
  obtain ⟨e, a₁, w₁, hq, harr⟩ := h A hA b (.inScope c :: k) cs hro hb hr
  have hro' : b.roundOf = none := hro
  cases e with
  | normal => exact ⟨.normal, a₁, w₁, hq, .head h0 stepR_scope (StepsIn.trans harr (.one (fenced_calm hb hr rfl) stepR_inScope))⟩
  | exit id => exact ⟨.exit id, a₁, w₁, hq, fun k' hk => .head h0 stepR_scope (harr.1 k' (by simp [exitTo, hk])), fun hs => by rw [hro'] at hs; cases hs⟩
  | goto l => exact hq.elim
  | ret => exact ⟨_, a₁, w₁, hq, .of_steps (.one h0 stepR_scope) harr⟩
  | panic ch => exact ⟨_, a₁, w₁, hq, .of_steps (.one h0 stepR_scope) harr⟩
  | outgrown => exact ⟨_, a₁, w₁, hq, .of_steps (.one h0 stepR_scope) harr⟩
section
variable {n : Nat} {D : List Deferred} {Q : Post} {b0 : World} {R : Rgs} {H : Hp} {fr : Slots}
theorem GC_scope {c : Code} (h : GC none n D (noG Q) b0 R H c fr) : GC none n D Q b0 R H (.scope c) fr := GC.mk fun w hw => C_scope (h.use w hw)
theorem GX_noG_ret (h : GX n D Q b0 R H .ret fr) : GX n D (noG Q) b0 R H .ret fr := GX.mk fun w hw => h.use w hw
instance {c : Code} : S1 (GC none n D Q b0 R H (.scope c) fr) (GC none n D (noG Q) b0 R H c fr) := ⟨GC_scope⟩
instance : S1 (GX n D (noG Q) b0 R H .ret fr) (GX n D Q b0 R H .ret fr) := ⟨GX_noG_ret⟩
end
/-- A map of hours that speaks the truth. -/
def HrsOK (fo : Int) (o : Obj) : Prop := ∃ f, MapF 2 f o ∧ ∀ (m : Int) (v : Value), f [m, fo] = some v → v = .int .i64 (hoursR fo m : Int)
theorem HrsOK.empty (fo : Int) : HrsOK fo (.map #[] 0) := ⟨_, MapF.empty 2, fun m v h => by cases h⟩
theorem pr_step (f : Int) (n : Nat) : pr f ((n + 1 : Nat) : Int) = pr f n + f * ((n + 1 : Nat) : Int) := by
  simp only [pr]
  have e : f * ((n + 1 : Nat) : Int) * (((n + 1 : Nat) : Int) + 1) = f * (n : Int) * ((n : Int) + 1) + 2 * (f * ((n + 1 : Nat) : Int)) := by
    have h1 : ((n + 1 : Nat) : Int) = (n : Int) + 1 := by omega
    rw [h1, show (n : Int) + 1 + 1 = n + 2 by omega, Int.mul_add, Int.mul_right_comm f ((n : Int) + 1) n, Int.mul_comm _ 2]
  rw [e]
  omega
theorem Ob_lookup2V {b0 : World} {R : Rgs} {H : Hp} {fr : Slots} {dst : Option Nat} {g : Option (Nat × Bool)} {ty : TypeId} {ps : String} {af : Array Edge} {t kt et r m : Nat} {x y : Operand} {z u : Value} {bb : Bool} {k : List Int} {f : List Int → Option Value} {o : Obj} [h : TyMap t kt et] [hK : TyKey kt m] [hz : TyZ et z] (hx : ev fr x = some (.map (some r))) (hy : ev fr y = some (kA m k)) (ho : (r, o) ∈ H) (hm : MapF m f o) (hk : k.length = m) (hu : (f k).getD z = u ∧ (f k).isSome = bb) :
    Ob b0 R H ⟨dst, .lookup t x y true, ty, ps, af, g⟩ fr (.tuple #[u, .bool bb]) := by obtain ⟨rfl, rfl⟩ := hu; exact Ob_lookup2 hx hy ho hm hk
theorem hours_le {f m : Int} (hf : 1 ≤ f) (hm : 0 ≤ m ∧ m ≤ 900) : ∀ (j n : Nat), n + j = 1000 → (n : Int) ≤ m + 1 → (hoursFrom f m j n : Int) ≤ m + 1 := by
  intro j
  induction j with
  | zero => intro n h1 h2; simp only [hoursFrom]; exact h2
  | succ j ih =>
    intro n h1 h2
    simp only [hoursFrom]
    split
    · rename_i h3
      have := pr_ge hf n
      exact ih (n + 1) (by omega) (by omega)
    · exact h2
section
variable {b0 : World} {R : Rgs} {G : Nat → Prop} {w1 : World} {a b c d e f tv : Value} {k : Wk} {pw r : Nat}
theorem c85 (hR : (G, w1) ∈ R) (hG : G pw) (hpw : w1.heap[pw]? = some (.cells (wkC a b c d e f k ++ [tv, .map (some r)]).toArray 188)) (hf : 1 ≤ k.force ∧ k.force ≤ 9) (m : Int) (hm : 0 ≤ m ∧ m ≤ 900) (o : Obj) (H : Hp) (w : World) (hw : SH b0 R ((r, o) :: H) w) (ho : HrsOK k.force o) :
    Rt 85 [pt pw, .int .i64 m] w fun v w' => v = .int .i64 (hoursR k.force m : Int) ∧ ∃ o', HrsOK k.force o' ∧ (∀ q ∈ R, q ∈ R) ∧ SH b0 R ((r, o') :: H) w' := by
  obtain ⟨F, hF, hFv⟩ := ho
  refine Rt_ofS Tryz.func85 rfl Tryz.ntmps85 rfl hw ?_
  cases hq : F [m, k.force] with
  | some v =>
    have hv := hFv m v hq
    subst hv
    have hu : (F [m, k.force]).getD (.int .i64 0) = .int .i64 (hoursR k.force m : Int) ∧ (F [m, k.force]).isSome = true := by rw [hq]; exact ⟨rfl, rfl⟩
    repeat' (first | apply s_ | ((first | apply JO_ob | apply GD_ex | apply GL_ex); exact rfl; first | exact ob1 | exact Ob_load_blk rfl hR hG hpw rfl | (apply Ob_lookup2V (m := 2) (k := [m, k.force]); exact rfl; exact rfl; exact mem_; exact hF; exact rfl; exact hu) | exact Ob_indexa rfl rfl (by omega) | exact Ob_load_a rfl mem_ (by omega) | exact Ob_sliceA rfl) | (apply pA_; exact zA_) | ((first | apply b_ | apply a_ | apply i_); exact z_; intro _) | ((first | apply p_ | apply JO_yes | apply GC_t); exact z_) | (apply n_; exact z_) | (apply GC_f; exact z_) | (apply GX_block_on; exact z_) | refine GC_drawA (id := 2) [0, 1, 2, 3, 4, 5, 6, 7, 8, 9, 10] [] (by kernel_rfl) ?_ | refine GC_drawA (id := 10) [0, 1, 2, 3, 4, 5] [6] (by kernel_rfl) ?_ | ((first | apply GD_at | apply GL_at | apply GD_no | apply GL_no); exact rfl) | apply DFin_0 | (apply q1_; exact z_) | (apply q0_; exact z_) | (apply q2_; exact z_) | (apply c_; exact z_; all_goals intro _) | (apply g_; exact z_; all_goals intro _))
    exact GX_ret1 rfl rfl fun w' hw' => ⟨rfl, o, ⟨F, hF, hFv⟩, fun _ h => h, hw'.weak (fun r h => h) (List.Sublist.cons _ (List.Sublist.refl _))⟩
  | none =>
    have hu : (F [m, k.force]).getD (.int .i64 0) = .int .i64 0 ∧ (F [m, k.force]).isSome = false := by rw [hq]; exact ⟨rfl, rfl⟩
    repeat' (first | apply s_ | ((first | apply JO_ob | apply GD_ex | apply GL_ex); exact rfl; first | exact ob1 | exact Ob_load_blk rfl hR hG hpw rfl | (apply Ob_lookup2V (m := 2) (k := [m, k.force]); exact rfl; exact rfl; exact mem_; exact hF; exact rfl; exact hu) | exact Ob_indexa rfl rfl (by omega) | exact Ob_load_a rfl mem_ (by omega) | exact Ob_sliceA rfl) | (apply pA_; exact zA_) | ((first | apply b_ | apply a_ | apply i_); exact z_; intro _) | ((first | apply p_ | apply JO_yes | apply GC_t); exact z_) | (apply n_; exact z_) | (apply GC_f; exact z_) | (apply GX_block_on; exact z_) | refine GC_drawA (id := 2) [0, 1, 2, 3, 4, 5, 6, 7, 8, 9, 10] [] (by kernel_rfl) ?_ | refine GC_drawA (id := 10) [0, 1, 2, 3, 4, 5] [6] (by kernel_rfl) ?_ | ((first | apply GD_at | apply GL_at | apply GD_no | apply GL_no); exact rfl) | apply DFin_0 | (apply q1_; exact z_) | (apply q0_; exact z_) | (apply q2_; exact z_) | (apply c_; exact z_; all_goals intro _) | (apply g_; exact z_; all_goals intro _))
    rename_i p5
    refine GC_loop0 (fun n => 1000 - n) (fun n => [(0, pt pw), (1, .int .i64 m), (5, pt p5), (6, .int .i64 (n : Int)), (8, .int .i64 (if n = 0 then 0 else pr k.force ((n - 1 : Nat) : Int)))]) (fun n => (n : Int) ≤ m + 1 ∧ hoursFrom k.force m (1000 - n) n = hoursR k.force m ∧ (n ≠ 0 → pr k.force ((n - 1 : Nat) : Int) < m)) 0 ⟨rfl, rfl, rfl, rfl, rfl, trivial⟩ ⟨by omega, rfl, fun h => absurd rfl h⟩ ?_
    rintro n ⟨hn, hh, hlt⟩
    have e2 := mul_bd (a := k.force) (b := (n : Int)) (m := 9) (n := 901) (by omega) (by omega) (by omega) (by omega)
    have epr : (if n = 0 then 0 else pr k.force ((n - 1 : Nat) : Int)) + k.force * (n : Int) = pr k.force (n : Int) := by
      by_cases h0 : n = 0
      · subst h0; simp [pr]
      · rw [if_neg h0]
        have := pr_step k.force (n - 1)
        rw [show n - 1 + 1 = n by omega] at this
        exact this.symm
    have hbd : 0 ≤ (if n = 0 then 0 else pr k.force ((n - 1 : Nat) : Int)) ∧ (if n = 0 then 0 else pr k.force ((n - 1 : Nat) : Int)) ≤ 900 := by
      by_cases h0 : n = 0
      · rw [if_pos h0]; omega
      · rw [if_neg h0]
        have := pr_ge hf.1 (n - 1)
        have := hlt h0
        omega
    have hs : 1000 - n = (1000 - (n + 1)) + 1 := by omega
    rw [hs] at hh
    simp only [hoursFrom] at hh
    generalize hP : (if n = 0 then 0 else pr k.force ((n - 1 : Nat) : Int)) = pv at *
    by_cases hge : m ≤ pr k.force (n : Int)
    · rw [if_neg (by omega)] at hh
      repeat' (first | apply s_ | ((first | apply JO_ob | apply GD_ex | apply GL_ex); exact rfl; first | exact ob1 | exact Ob_load_blk rfl hR hG hpw rfl | exact Ob_mul rfl rfl (by omega) | exact Ob_indexa rfl rfl (by omega) | exact Ob_load_a rfl mem_ (by omega) | exact Ob_sliceA rfl) | (apply pA_; exact zA_) | ((first | apply b_ | apply a_ | apply i_); exact z_; intro _) | ((first | apply p_ | apply JO_yes | apply GC_t); exact z_) | (apply n_; exact z_) | (apply GC_f; exact z_) | (apply GX_block_on; exact z_) | refine GC_drawA (id := 2) [0, 1, 2, 3, 4, 5, 6, 7, 8, 9, 10] [] (by kernel_rfl) ?_ | refine GC_drawA (id := 10) [0, 1, 2, 3, 4, 5] [6] (by kernel_rfl) ?_ | ((first | apply GD_at | apply GL_at | apply GD_no | apply GL_no); exact rfl) | apply DFin_0 | (apply q1_; exact z_) | (apply q0_; exact z_) | (apply q2_; exact z_) | (apply c_; exact z_; all_goals intro _) | (apply g_; exact z_; all_goals intro _))
      refine JO_mapUpdate (j := 1) (m := 2) (k := [m, k.force]) rfl rfl rfl rfl hF rfl ?_
      intro o2 hF2
      repeat' (first | apply s_ | ((first | apply JO_ob | apply GD_ex | apply GL_ex); exact rfl; first | exact ob1 | exact Ob_indexa rfl rfl (by omega) | exact Ob_load_a rfl mem_ (by omega) | exact Ob_sliceA rfl) | (apply pA_; exact zA_) | ((first | apply b_ | apply a_ | apply i_); exact z_; intro _) | ((first | apply p_ | apply JO_yes | apply GC_t); exact z_) | (apply n_; exact z_) | (apply GC_f; exact z_) | (apply GX_block_on; exact z_) | refine GC_drawA (id := 2) [0, 1, 2, 3, 4, 5, 6, 7, 8, 9, 10] [] (by kernel_rfl) ?_ | refine GC_drawA (id := 10) [0, 1, 2, 3, 4, 5] [6] (by kernel_rfl) ?_ | ((first | apply GD_at | apply GL_at | apply GD_no | apply GL_no); exact rfl) | apply DFin_0 | (apply q1_; exact z_) | (apply q0_; exact z_) | (apply q2_; exact z_) | (apply c_; exact z_; all_goals intro _) | (apply g_; exact z_; all_goals intro _))
      rw [hh]
      refine GX_ret1 rfl rfl fun w' hw' => ⟨rfl, o2, ⟨_, hF2, fun m' v' hv' => ?_⟩, fun _ h => h, hw'.weak (fun r h => h) (List.Sublist.cons _ (List.Sublist.refl _))⟩
      by_cases e : m' = m
      · subst e
        simp only [if_true] at hv'
        rw [hh] at hv'
        exact (Option.some.inj hv').symm
      · have : ¬ ([m', k.force] = [m, k.force]) := by simp [e]
        simp only [if_neg this] at hv'
        exact hFv m' v' hv'
    · rw [if_pos (by omega)] at hh
      have hpg := pr_ge hf.1 n
      repeat' (first | apply s_ | ((first | apply JO_ob | apply GD_ex | apply GL_ex); exact rfl; first | exact ob1 | exact Ob_load_blk rfl hR hG hpw rfl | exact Ob_mul rfl rfl (by omega) | exact Ob_indexa rfl rfl (by omega) | exact Ob_load_a rfl mem_ (by omega) | exact Ob_sliceA rfl) | (apply pA_; exact zA_) | ((first | apply b_ | apply a_ | apply i_); exact z_; intro _) | ((first | apply p_ | apply JO_yes | apply GC_t); exact z_) | (apply n_; exact z_) | (apply GC_f; exact z_) | (apply GX_block_on; exact z_) | refine GC_drawA (id := 2) [0, 1, 2, 3, 4, 5, 6, 7, 8, 9, 10] [] (by kernel_rfl) ?_ | refine GC_drawA (id := 10) [0, 1, 2, 3, 4, 5] [6] (by kernel_rfl) ?_ | ((first | apply GD_at | apply GL_at | apply GD_no | apply GL_no); exact rfl) | apply DFin_0 | (apply q1_; exact z_) | (apply q0_; exact z_) | (apply q2_; exact z_) | (apply c_; exact z_; all_goals intro _) | (apply g_; exact z_; all_goals intro _))
      refine GX_loop0 (n + 1) ⟨rfl, rfl, rfl, rfl, ?_, trivial⟩ (by omega) ⟨by omega, hh, fun _ => by rw [show n + 1 - 1 = n by omega]; omega⟩
      rw [if_neg (by omega), show n + 1 - 1 = n by omega, ← epr]; rfl
end
end Go.Proofs.YtkbaaikidhbfmaaGreat
/- Contracts: bounds of muds, hours and cakes. No statement is proved here. -/
set_option linter.unusedVariables false
set_option linter.unusedSimpArgs false
namespace Go.Proofs.YtkbaaikidhbfmaaGreat
open Go.RowKit
/-- A slice of one's own is handed over. -/
theorem SH.retLit {α : Type} {b0 : World} {R : Rgs} {H : Hp} {w : World} {bo : Nat} {sz : Nat} {enc : α → List Value} {xs : List α} {T : TypeId} (hw : SH b0 R ((bo, .cells (xs.flatMap enc).toArray T) :: H) w) (he : ∀ x, (enc x).length = sz) (hl : xs.length ≤ 9223372036854775807) (hm : ((fun _ => True), b0) ∈ R) :
    SH b0 ((fun b => b = bo, w) :: R) H w ∧ Arr (fun b => b = bo) w sz enc (.slice (some ⟨bo, 0, none⟩) xs.length xs.length) xs ∧ b0.heap.size ≤ bo := by
  refine ⟨(hw.weak (fun r h => h) (List.Sublist.cons _ (List.Sublist.refl _))).add _ fun p hp e => (List.pairwise_cons.1 hw.nd).1 p hp e.symm, ?_, hw.apt _ (.head _) _ hm trivial⟩
  exact ⟨he, _, xs.length, rfl, Nat.le_refl _, hl, .inr ⟨bo, 0, rfl, rfl, fun j hj => by rw [cell_blk (hw.own _ (.head _)), Nat.zero_add]⟩⟩
/-- What is asked of the mud of a vat, where the map of hours may turn. -/
def OfC (b0 : World) (R : Rgs) (g : FuncId) (pw r : Nat) (fo : Int) (val : Int → Int) : Prop :=
  ∀ (m : Int), (0 ≤ m ∧ m ≤ 900) → ∀ (o : Obj) (H : Hp) (w : World), SH b0 R ((r, o) :: H) w → HrsOK fo o → Rt g [pt pw, .int .i64 m] w fun v w' => v = .int .i64 (val m) ∧ ∃ o', HrsOK fo o' ∧ (∀ q ∈ R, q ∈ R) ∧ SH b0 R ((r, o') :: H) w'
theorem c69 (w : World) (a : Value) (m : Int) : Ex 69 [a, .int .i64 m] w (.int .i64 m) := by
  refine Rt_of Tryz.func69 rfl Tryz.ntmps69 rfl ?_
  repeat' (first | apply s_ | (apply JO_ob; exact rfl; first | exact ob1) | ((first | apply b_ | apply a_ | apply i_); exact z_; intro _) | ((first | apply p_ | apply JO_yes | apply GC_t); exact z_) | (apply n_; exact z_) | (apply GC_f; exact z_) | (apply GX_block_on; exact z_) | (apply c_; exact z_; all_goals intro _))
  (first | exact GX_ex rfl rfl mem_ rfl | exact GX_exc rfl rfl mem_ rfl mem_ rfl)
section
variable {b0 : World} {R : Rgs} {G : Nat → Prop} {w1 : World} {a b c d e f tv : Value} {k : Wk} {pw r : Nat}
theorem c86 (hR : (G, w1) ∈ R) (hG : G pw) (hpw : w1.heap[pw]? = some (.cells (wkC a b c d e f k ++ [tv, .map (some r)]).toArray 188)) (hf : 1 ≤ k.cake ∧ k.cake ≤ 50) (m : Int) (hm : 0 ≤ m ∧ m ≤ 900) (H : Hp) (w : World) (hw : SH b0 R H w) : Rt 86 [pt pw, .int .i64 m] w fun v w' => v = .int .i64 (m / k.cake) ∧ SH b0 R H w' := by
  refine Rt_ofS Tryz.func86 rfl Tryz.ntmps86 rfl hw ?_
  repeat' (first | apply s_ | (apply JO_ob; exact rfl; first | exact ob1 | exact Ob_load_blk rfl hR hG hpw rfl | exact Ob_quo rfl rfl (by omega) (by omega) (by omega)) | ((first | apply b_ | apply a_ | apply i_); exact z_; intro _) | ((first | apply p_ | apply JO_yes | apply GC_t); exact z_) | (apply n_; exact z_) | (apply GC_f; exact z_) | (apply GX_block_on; exact z_) | (apply c_; exact z_; all_goals intro _))
  exact GX_ret1 rfl rfl fun w' hw' => ⟨rfl, hw'⟩
theorem of69 (fo : Int) : OfC b0 R 69 pw r fo (fun m => m) := fun m hm o H w hw ho => (c69 w (pt pw) m).mono fun v w' ⟨e, kp⟩ => ⟨e, o, ho, fun _ h => h, hw.keep kp⟩
theorem of86 (hR : (G, w1) ∈ R) (hG : G pw) (hpw : w1.heap[pw]? = some (.cells (wkC a b c d e f k ++ [tv, .map (some r)]).toArray 188)) (hf : 1 ≤ k.cake ∧ k.cake ≤ 50) (fo : Int) : OfC b0 R 86 pw r fo (fun m => m / k.cake) := fun m hm o H w hw ho => (c86 hR hG hpw hf m hm _ w hw).mono fun v w' ⟨e, kp⟩ => ⟨e, o, ho, fun _ h => h, kp⟩
theorem of85 (hR : (G, w1) ∈ R) (hG : G pw) (hpw : w1.heap[pw]? = some (.cells (wkC a b c d e f k ++ [tv, .map (some r)]).toArray 188)) (hf : 1 ≤ k.force ∧ k.force ≤ 9) : OfC b0 R 85 pw r k.force (fun m => (hoursR k.force m : Int)) := fun m hm o H w hw ho => c85 hR hG hpw hf m hm o H w hw ho
/-- The bounds so far: of k rows, and of one more for the first i. -/
def bE (L : List Int) (k : Nat) : Rg := if k = 0 then (0, 0) else ((L.take k).foldl min (nth L 0), (L.take k).foldl max (nth L 0))
def bS (n : Nat) (L : Nat → List Int) (k i : Nat) : List Rg := (List.range n).map fun j => if j < i then bE (L j) (k + 1) else bE (L j) k
theorem bS_len (n : Nat) (L : Nat → List Int) (k i : Nat) : (bS n L k i).length = n := by simp [bS]
theorem bS_nth {n : Nat} {L : Nat → List Int} {k i j : Nat} (h : j < n) : nth (bS n L k i) j = if j < i then bE (L j) (k + 1) else bE (L j) k := by simp [bS, nth, h]
theorem bS_step {n : Nat} {L : Nat → List Int} {k i : Nat} (h : i < n) : (bS n L k i).set i (bE (L i) (k + 1)) = bS n L k (i + 1) := by
  refine List.ext_getElem (by simp [bS]) fun j h1 h2 => ?_
  simp only [bS, List.getElem_set, List.getElem_map, List.getElem_range]
  by_cases e : i = j
  · subst e; simp
  · by_cases e2 : j < i
    · simp [e, e2, show j < i + 1 by omega]
    · simp [e, e2, show ¬ j < i + 1 by omega]
theorem bS_next (n : Nat) (L : Nat → List Int) (k : Nat) : bS n L k n = bS n L (k + 1) 0 := by
  simp only [bS, List.map_inj_left, List.mem_range]
  intro j hj
  simp [hj]
theorem bE_succ {L : List Int} {k : Nat} (h : k < L.length) : bE L (k + 1) = (min (if k = 0 then nth L k else (bE L k).1) (nth L k), max (if k = 0 then nth L k else (bE L k).2) (nth L k)) := by
  simp only [bE, if_neg (Nat.succ_ne_zero k)]
  rw [take_snoc h, List.foldl_append, List.foldl_append]
  by_cases h0 : k = 0
  · subst h0; simp
  · simp [h0]
end
end Go.Proofs.YtkbaaikidhbfmaaGreat
/- Contracts: bounds of muds, hours and cakes: the walk. No statement is proved here. -/
set_option linter.unusedVariables false
set_option linter.unusedSimpArgs false
namespace Go.Proofs.YtkbaaikidhbfmaaGreat
open Go.RowKit
section
variable {b0 : World} {R : Rgs} {G Gt : Nat → Prop} {w1 wt : World} {a b c d e f tv : Value} {hs : List Value} {k : Wk} {pw r : Nat} {rows : List (List Int)}
set_option maxHeartbeats 1000000 in
theorem c115 (hm : ((fun _ => True), b0) ∈ R) (hk : WkA All b0 a b c hs d e f k) (hR : (G, w1) ∈ R) (hG : G pw) (hpw : w1.heap[pw]? = some (.cells (wkC a b c d e f k ++ [tv, .map (some r)]).toArray 188))
    (hRt : (Gt, wt) ∈ R) (hT : Arr Gt wt 3 (encA 3) tv rows) (hne : 0 < rows.length) (h3 : k.yard.vats.length ≤ 3) (hrows : ∀ t ∈ rows, ∀ i, i < k.yard.vats.length → 0 ≤ nth t i ∧ nth t i ≤ 900)
    (g : FuncId) [hE : Ent g] (fo : Int) (val : Int → Int) (hof : OfC b0 R g pw r fo val) (hvb : ∀ m, 0 ≤ m → m ≤ 900 → 0 ≤ val m ∧ val m ≤ 1000000) (o : Obj) (H : Hp) (w : World) (hw : SH b0 R ((r, o) :: H) w) (ho : HrsOK fo o) :
    Rt 115 [.agg #[.func (.func g) #[] #[]], pt pw] w fun v w' => ∃ s : Obj × (Nat → Prop) × World, (HrsOK fo s.1 ∧ (∀ b, s.2.1 b → b0.heap.size ≤ b) ∧ Arr s.2.1 s.2.2 2 encR v (bnds k.yard.vats.length fun i => rows.map fun t => val (nth t i))) ∧ (∀ q ∈ R, q ∈ (s.2.1, s.2.2) :: R) ∧ SH b0 ((s.2.1, s.2.2) :: R) ((r, s.1) :: H) w' := by
  have i1 := hk.yard.fields.v1
  have i2 := hk.yard.vats.arr.v1
  have i3 := hk.yard.smps.v1
  have i4 := hk.beat.vats.v1
  have i5 := hk.beat.smps.v1
  have i6 := hk.ends.v1
  have i7 := hT.v1
  have bT := hT.bound
  refine Rt_ofS Tryz.func115 rfl Tryz.ntmps115 rfl hw ?_
  repeat' (first | apply s_ | (apply JO_ob; exact rfl; first | exact ob1 | exact Ob_loads_blk rfl hR hG hpw (vs := wkC a b c d e f k) rfl rfl | exact Ob_call rfl (fun w5 hw5 => c75w (hw5.wk hm hk)) | exact Ob_indexa rfl rfl (by omega) | exact Ob_load_a rfl mem_ (by omega) | exact Ob_sliceA rfl) | (apply pA_; exact zA_) | ((first | apply b_ | apply a_ | apply i_); exact z_; intro _) | ((first | apply p_ | apply JO_yes | apply GC_t); exact z_) | (apply n_; exact z_) | (apply GC_f; exact z_) | (apply GX_block_on; exact z_) | (apply c_; exact z_; all_goals intro _))
  rename_i p2
  let n := k.yard.vats.length
  let L : Nat → List Int := fun i => rows.map fun t => val (nth t i)
  have lL : ∀ i, (L i).length = rows.length := fun i => by simp [L]
  have eL : ∀ i q, q < rows.length → nth (L i) q = val (nth (nth rows q) i) := fun i q hq => nth_map _ hq
  refine JO_make (m := n) (x0 := ((0, 0) : Rg)) (enc := encR) rfl rfl rfl (fun _ => rfl) rfl (by decide) (by omega) (by omega) ?_
  intro bo hob
  have e0 : List.replicate n ((0, 0) : Rg) = bS n L 0 0 := by
    refine List.ext_getElem (by simp [bS]) fun j h1 h2 => by simp [bS, bE]
  rw [e0]
  repeat' (first | apply s_ | (apply JO_ob; exact rfl; first | exact ob1 | exact Ob_load_blk rfl hR hG hpw rfl | exact Ob_indexa rfl rfl (by omega) | exact Ob_load_a rfl mem_ (by omega) | exact Ob_sliceA rfl) | (apply pA_; exact zA_) | ((first | apply b_ | apply a_ | apply i_); exact z_; intro _) | ((first | apply p_ | apply JO_yes | apply GC_t); exact z_) | (apply n_; exact z_) | (apply GC_f; exact z_) | (apply GX_block_on; exact z_) | (apply c_; exact z_; all_goals intro _))
  refine GC_loop (α := Nat × Obj) (fun s => rows.length - s.1) (fun s => [(1, pt pw), (2, pt p2), (5, .slice (some ⟨bo, 0, none⟩) n n), (19, tv), (20, .int .i64 (rows.length : Int)), (21, .int .i64 (s.1 : Int))]) (fun _ => R)
    (fun s => (r, s.2) :: (bo, .cells ((bS n L s.1 0).flatMap encR).toArray 59) :: (p2, .cells #[.func (.func g) #[] #[]] 125) :: H) (fun s => s.1 ≤ rows.length ∧ HrsOK fo s.2) (0, o) ⟨rfl, rfl, rfl, rfl, rfl, rfl, trivial⟩ ⟨Nat.zero_le _, ho⟩ (fun w hw => hw.perm (((List.Perm.swap _ _ _).cons _).trans (List.Perm.swap _ _ _))) ?_
  rintro ⟨q, oq⟩ ⟨hq, hoq⟩
  simp only at hq hoq ⊢
  by_cases hlt : q < rows.length
  · have hrq := hrows _ (nth_mem hlt)
    repeat' (first | apply s_ | (apply JO_ob; exact rfl; first | exact ob1 | exact Ob_load_A (m := 0) (i := q) rfl hT hRt rfl hlt | exact Ob_indexa rfl rfl (by omega) | exact Ob_load_a rfl mem_ (by omega) | exact Ob_sliceA rfl) | (apply pA_; exact zA_) | ((first | apply b_ | apply a_ | apply i_); exact z_; intro _) | ((first | apply p_ | apply JO_yes | apply GC_t); exact z_) | (apply n_; exact z_) | (apply GC_f; exact z_) | (apply GX_block_on; exact z_) | (apply c_; exact z_; all_goals intro _))
    rename_i p7
    refine GC_loop (α := Nat × Obj) (fun s => n - s.1) (fun s => [(1, pt pw), (2, pt p2), (5, .slice (some ⟨bo, 0, none⟩) n n), (6, .int .i64 (q : Int)), (7, pt p7), (19, tv), (20, .int .i64 (rows.length : Int)), (21, .int .i64 (q : Int)), (27, .int .i64 (n : Int)), (28, .int .i64 (s.1 : Int))]) (fun _ => R)
      (fun s => (p7, .cells (encA 3 (nth rows q)).toArray 195) :: (r, s.2) :: (bo, .cells ((bS n L q s.1).flatMap encR).toArray 59) :: (p2, .cells #[.func (.func g) #[] #[]] 125) :: H) (fun s => s.1 ≤ n ∧ HrsOK fo s.2) (0, oq) ⟨rfl, rfl, rfl, rfl, rfl, rfl, rfl, rfl, rfl, rfl, trivial⟩ ⟨Nat.zero_le _, hoq⟩ (fun w hw => hw) ?_
    rintro ⟨i, oi⟩ ⟨hi, hoi⟩
    simp only at hi hoi ⊢
    by_cases hli : i < n
    · have hmi := hrq i hli
      repeat' (first | apply s_ | (apply JO_ob; exact rfl; first | exact ob1 | exact Ob_indexa rfl rfl (by omega) | exact Ob_load_a rfl mem_ (by omega) | exact Ob_sliceA rfl) | (apply pA_; exact zA_) | ((first | apply b_ | apply a_ | apply i_); exact z_; intro _) | ((first | apply p_ | apply JO_yes | apply GC_t); exact z_) | (apply n_; exact z_) | (apply GC_f; exact z_) | (apply GX_block_on; exact z_) | (apply c_; exact z_; all_goals intro _))
      refine GC_drawA (id := 8) [0, 1, 2, 3, 4, 5] [6, 7] (by kernel_rfl) ?_
      repeat' (first | apply s_ | ((first | apply JO_ob | apply GD_ex | apply GL_ex); exact rfl; first | exact ob1 | exact Ob_indexa rfl rfl (by omega) | exact Ob_load_a rfl mem_ (by omega) | exact Ob_sliceA rfl) | (apply pA_; exact zA_) | ((first | apply b_ | apply a_ | apply i_); exact z_; intro _) | ((first | apply p_ | apply JO_yes | apply GC_t); exact z_) | (apply n_; exact z_) | (apply GC_f; exact z_) | (apply GX_block_on; exact z_) | refine GC_drawA (id := 8) [0, 1, 2, 3, 4, 5, 6, 7] [] (by kernel_rfl) ?_ | ((first | apply GD_at | apply GL_at | apply GD_no | apply GL_no); exact rfl) | apply DFin_0 | (apply q1_; exact z_) | (apply q0_; exact z_) | (apply q2_; exact z_) | (apply c_; exact z_; all_goals intro _) | (apply g_; exact z_; all_goals intro _))
      refine JO_callvS (f := g) (c := .int .i64 (val (nth (nth rows q) i))) (vs := [pt pw, .int .i64 (nth (nth rows q) i)]) (cap := []) (S := fun o' => HrsOK fo o') (R' := fun _ => R) (H' := fun o' => (p7, .cells (encA 3 (nth rows q)).toArray 195) :: (r, o') :: (bo, .cells ((bS n L q i).flatMap encR).toArray 59) :: (p2, .cells #[.func (.func g) #[] #[]] 125) :: H) rfl rfl rfl (fun w5 hw5 => ?_) ?_
      · refine (hof _ hmi oi _ w5 (hw5.perm (List.Perm.swap _ _ _)) hoi).mono ?_
        rintro v w6 ⟨e1, o', h1, h2, h3⟩
        exact ⟨e1, o', h1, h2, h3.perm (List.Perm.swap _ _ _)⟩
      · intro o' ho'
        have lb : i < (bS n L q i).length := by rw [bS_len]; exact hli
        have hsome : (bS n L q i)[i]? = some (bE (L i) q) := by rw [nth_some lb, bS_nth hli, if_neg (Nat.lt_irrefl i)]
        have hsucc := bE_succ (L := L i) (k := q) (by rw [lL]; exact hlt)
        rw [eL i q hlt] at hsucc
        by_cases h0 : q = 0
        · subst h0
          rw [if_pos rfl, if_pos rfl] at hsucc
          repeat' (first | apply s_ | ((first | apply JO_ob | apply GD_ex | apply GL_ex); exact rfl; first | exact ob1 | exact Ob_index_row rfl rfl hli | exact Ob_indexa rfl rfl (by omega) | exact Ob_load_a rfl mem_ (by omega) | exact Ob_sliceA rfl) | (apply pA_; exact zA_) | ((first | apply b_ | apply a_ | apply i_); exact z_; intro _) | ((first | apply p_ | apply JO_yes | apply GC_t); exact z_) | (apply n_; exact z_) | (apply GC_f; exact z_) | (apply GX_block_on; exact z_) | refine GC_drawA (id := 8) [0, 1, 2, 3, 4, 5, 6, 7] [] (by kernel_rfl) ?_ | ((first | apply GD_at | apply GL_at | apply GD_no | apply GL_no); exact rfl) | apply DFin_0 | (apply q1_; exact z_) | (apply q0_; exact z_) | (apply q2_; exact z_) | (apply c_; exact z_; all_goals intro _) | (apply g_; exact z_; all_goals intro _))
          refine JO_store_r (m := 2) (sz := 2) (k := 0) (enc := encR) (j := 2) (xs := bS n L 0 i) (a := bE (L i) 0) (a' := (val (nth (nth rows 0) i), val (nth (nth rows 0) i))) (fun _ => rfl) rfl rfl rfl inferInstance rfl hsome (Nat.le_refl _) rfl ?_
          repeat' (first | apply s_ | ((first | apply JO_ob | apply GD_ex | apply GL_ex); exact rfl; first | exact ob1 | exact Ob_index_row rfl rfl hli | exact Ob_loads_r (enc := encR) (sz := 2) (i := i) (k := 0) (vs := [.int .i64 (val (nth (nth rows 0) i)), .int .i64 (val (nth (nth rows 0) i))]) (fun _ => rfl) rfl (.tail _ (.tail _ (.head _))) (by rw [List.getElem?_set_self lb]) (Nat.le_refl _) rfl rfl | exact Ob_call rfl (fun w5 hw5 => c126 _ _ _ w5) | exact Ob_indexa rfl rfl (by omega) | exact Ob_load_a rfl mem_ (by omega) | exact Ob_sliceA rfl) | (apply pA_; exact zA_) | ((first | apply b_ | apply a_ | apply i_); exact z_; intro _) | ((first | apply p_ | apply JO_yes | apply GC_t); exact z_) | (apply n_; exact z_) | (apply GC_f; exact z_) | (apply GX_block_on; exact z_) | refine GC_drawA (id := 8) [0, 1, 2, 3, 4, 5, 6, 7] [] (by kernel_rfl) ?_ | ((first | apply GD_at | apply GL_at | apply GD_no | apply GL_no); exact rfl) | apply DFin_0 | (apply q1_; exact z_) | (apply q0_; exact z_) | (apply q2_; exact z_) | (apply c_; exact z_; all_goals intro _) | (apply g_; exact z_; all_goals intro _))
          refine JO_store_r (m := 2) (sz := 2) (k := 0) (enc := encR) (j := 2) (xs := (bS n L 0 i).set i (val (nth (nth rows 0) i), val (nth (nth rows 0) i))) (a := (val (nth (nth rows 0) i), val (nth (nth rows 0) i))) (a' := bE (L i) (0 + 1)) (fun _ => rfl) rfl rfl rfl inferInstance rfl (by rw [List.getElem?_set_self lb]) (Nat.le_refl _) (by rw [hsucc]; rfl) ?_
          rw [List.set_set, bS_step hli]
          repeat' (first | apply s_ | ((first | apply JO_ob | apply GD_ex | apply GL_ex); exact rfl; first | exact ob1 | exact Ob_indexa rfl rfl (by omega) | exact Ob_load_a rfl mem_ (by omega) | exact Ob_sliceA rfl) | (apply pA_; exact zA_) | ((first | apply b_ | apply a_ | apply i_); exact z_; intro _) | ((first | apply p_ | apply JO_yes | apply GC_t); exact z_) | (apply n_; exact z_) | (apply GC_f; exact z_) | (apply GX_block_on; exact z_) | refine GC_drawA (id := 8) [0, 1, 2, 3, 4, 5, 6, 7] [] (by kernel_rfl) ?_ | ((first | apply GD_at | apply GL_at | apply GD_no | apply GL_no); exact rfl) | apply DFin_0 | (apply q1_; exact z_) | (apply q0_; exact z_) | (apply q2_; exact z_) | (apply c_; exact z_; all_goals intro _) | (apply g_; exact z_; all_goals intro _))
          exact GX_loop (i + 1, o') ⟨rfl, rfl, rfl, rfl, rfl, rfl, rfl, rfl, rfl, rfl, trivial⟩ (by simp only; omega) ⟨by simp only; omega, ho'⟩ fun w hw => hw
        · rw [if_neg h0, if_neg h0] at hsucc
          repeat' (first | apply s_ | ((first | apply JO_ob | apply GD_ex | apply GL_ex); exact rfl; first | exact ob1 | exact Ob_index_row rfl rfl hli | exact Ob_loads_r (enc := encR) (sz := 2) (i := i) (k := 0) (vs := [.int .i64 (bE (L i) q).1, .int .i64 (bE (L i) q).2]) (fun _ => rfl) rfl (.tail _ (.tail _ (.head _))) hsome (Nat.le_refl _) rfl rfl | exact Ob_call rfl (fun w5 hw5 => c126 _ _ _ w5) | exact Ob_indexa rfl rfl (by omega) | exact Ob_load_a rfl mem_ (by omega) | exact Ob_sliceA rfl) | (apply pA_; exact zA_) | ((first | apply b_ | apply a_ | apply i_); exact z_; intro _) | ((first | apply p_ | apply JO_yes | apply GC_t); exact z_) | (apply n_; exact z_) | (apply GC_f; exact z_) | (apply GX_block_on; exact z_) | refine GC_drawA (id := 8) [0, 1, 2, 3, 4, 5, 6, 7] [] (by kernel_rfl) ?_ | ((first | apply GD_at | apply GL_at | apply GD_no | apply GL_no); exact rfl) | apply DFin_0 | (apply q1_; exact z_) | (apply q0_; exact z_) | (apply q2_; exact z_) | (apply c_; exact z_; all_goals intro _) | (apply g_; exact z_; all_goals intro _))
          refine JO_store_r (m := 2) (sz := 2) (k := 0) (enc := encR) (j := 2) (xs := bS n L q i) (a := bE (L i) q) (a' := bE (L i) (q + 1)) (fun _ => rfl) rfl rfl rfl inferInstance rfl hsome (Nat.le_refl _) (by rw [hsucc]; rfl) ?_
          rw [bS_step hli]
          repeat' (first | apply s_ | ((first | apply JO_ob | apply GD_ex | apply GL_ex); exact rfl; first | exact ob1 | exact Ob_indexa rfl rfl (by omega) | exact Ob_load_a rfl mem_ (by omega) | exact Ob_sliceA rfl) | (apply pA_; exact zA_) | ((first | apply b_ | apply a_ | apply i_); exact z_; intro _) | ((first | apply p_ | apply JO_yes | apply GC_t); exact z_) | (apply n_; exact z_) | (apply GC_f; exact z_) | (apply GX_block_on; exact z_) | refine GC_drawA (id := 8) [0, 1, 2, 3, 4, 5, 6, 7] [] (by kernel_rfl) ?_ | ((first | apply GD_at | apply GL_at | apply GD_no | apply GL_no); exact rfl) | apply DFin_0 | (apply q1_; exact z_) | (apply q0_; exact z_) | (apply q2_; exact z_) | (apply c_; exact z_; all_goals intro _) | (apply g_; exact z_; all_goals intro _))
          exact GX_loop (i + 1, o') ⟨rfl, rfl, rfl, rfl, rfl, rfl, rfl, rfl, rfl, rfl, trivial⟩ (by simp only; omega) ⟨by simp only; omega, ho'⟩ fun w hw => hw
    · have hie : i = n := by omega
      rw [hie, bS_next]
      repeat' (first | apply s_ | (apply JO_ob; exact rfl; first | exact ob1 | exact Ob_indexa rfl rfl (by omega) | exact Ob_load_a rfl mem_ (by omega) | exact Ob_sliceA rfl) | (apply pA_; exact zA_) | ((first | apply b_ | apply a_ | apply i_); exact z_; intro _) | ((first | apply p_ | apply JO_yes | apply GC_t); exact z_) | (apply n_; exact z_) | (apply GC_f; exact z_) | (apply GX_block_on; exact z_) | (apply c_; exact z_; all_goals intro _))
      exact GX_loop (q + 1, oi) ⟨rfl, rfl, rfl, rfl, rfl, rfl, trivial⟩ (by simp only; omega) ⟨by simp only; omega, hoi⟩ fun w hw => hw.weak (fun r h => h) (List.Sublist.cons _ (List.Sublist.refl _))
  · have hqe : q = rows.length := by omega
    subst hqe
    have hres : bS n L rows.length 0 = bnds n L := by
      simp only [bS, bnds, List.map_inj_left, List.mem_range]
      intro j hj
      rw [if_neg (Nat.not_lt_zero j), bE, if_neg (by omega), List.take_of_length_le (by rw [lL]; exact Nat.le_refl _)]
      refine hull_from (nth_mem (by rw [lL]; exact hne)) fun x hx => ?_
      simp only [L, List.mem_map] at hx
      obtain ⟨t, ht, rfl⟩ := hx
      have h5 := hrows t ht j hj
      have := hvb _ h5.1 h5.2
      omega
    rw [hres]
    repeat' (first | apply s_ | (apply JO_ob; exact rfl; first | exact ob1 | exact Ob_indexa rfl rfl (by omega) | exact Ob_load_a rfl mem_ (by omega) | exact Ob_sliceA rfl) | (apply pA_; exact zA_) | ((first | apply b_ | apply a_ | apply i_); exact z_; intro _) | ((first | apply p_ | apply JO_yes | apply GC_t); exact z_) | (apply n_; exact z_) | (apply GC_f; exact z_) | (apply GX_block_on; exact z_) | (apply c_; exact z_; all_goals intro _))
    refine GX_ret1 rfl rfl fun w' hw' => ?_
    have lb : (bnds n L).length = n := by simp [bnds]
    obtain ⟨g1, g2, g3⟩ := (hw'.perm (List.Perm.swap _ _ _)).retLit (enc := encR) (sz := 2) (fun _ => rfl) (by rw [lb]; omega) hm
    rw [lb] at g2
    exact ⟨(oq, _, _), ⟨hoq, fun b hb => by rw [hb]; exact g3, g2⟩, fun q hq => .tail _ hq, g1.weak (fun r h => h) ((List.Sublist.cons _ (List.Sublist.refl _)).cons_cons _)⟩
end
end Go.Proofs.YtkbaaikidhbfmaaGreat
/- Contracts: muds, hours and cakes, and what they are in any two truths. No statement is proved here. -/
set_option linter.unusedVariables false
set_option linter.unusedSimpArgs false
namespace Go.Proofs.YtkbaaikidhbfmaaGreat
open Go.RowKit
theorem lostV_eq (y : Bt) (c : Crs) (i : Nat) (h : Int) : lostV (nth y.vats i) (c.sun + nth c.needs i) h = lostC y c (i : Int) h := by
  simp only [lostV, lostC, whenC, Int.toNat_natCast]
  by_cases e : h < c.sun + nth c.needs i
  · rw [if_pos e, Int.max_eq_right (a := 0) (b := c.sun + nth c.needs i - h) (by omega), Int.max_eq_left (a := 0) (b := h - (c.sun + nth c.needs i)) (by omega), Int.zero_mul, Int.add_zero, Int.mul_comm]
  · rw [if_neg e, Int.max_eq_left (a := 0) (b := c.sun + nth c.needs i - h) (by omega), Int.max_eq_right (a := 0) (b := h - (c.sun + nth c.needs i)) (by omega), Int.zero_mul, Int.zero_add, Int.mul_comm]
/-- Works that are valid, with what follows of it. -/
structure OkK (k : Wk) : Prop where
  f1 : fault1 k.yard = 0
  f3 : fault3 k.beat = 0
  y : OkY k.yard
  b : OkB k.beat
  m1 : many1 k.yard.fields ≤ 2000
  m3 : many3 k.beat ≤ 200
  len : k.beat.vats.length = k.yard.vats.length
  ends : areEnd k.beat k.ends = true
  t1 : truthsX k.yard ≠ []
  t3 : truthsW k.beat ≠ []
  boxes : 1 ≤ k.boxes ∧ k.boxes ≤ 3
  force : 1 ≤ k.force ∧ k.force ≤ 9
  last : 0 ≤ k.last ∧ k.last ≤ 99
  cake : 1 ≤ k.cake ∧ k.cake ≤ 50
theorem okK_of {k : Wk} (h : fault9 k = 0) : OkK k := by
  obtain ⟨hf1, ht1, hf3, ht3, hvl, hae, hnum, hmany⟩ := fault9_0 h
  obtain ⟨hO, hm⟩ := okY_of hf1
  obtain ⟨hB, hm3⟩ := okB_of hf3
  simp only [isNum, Bool.and_eq_true, decide_eq_true_eq] at hnum
  exact ⟨hf1, hf3, hO, hB, hm, hm3, hvl, hae, fun h => ht1 ((truths1_nil hO.f hm).2 h), fun h => ht3 ((truths3_nil hB).2 h), hnum.1, hnum.2.1, hnum.2.2.1, hnum.2.2.2⟩
theorem OkK.v3 {k : Wk} (h : OkK k) : k.yard.vats.length ≤ 3 := by have := h.b.v3; have := h.len; omega
theorem OkK.endsL {k : Wk} (h : OkK k) : k.ends.length = k.yard.vats.length := by
  have := h.ends
  simp only [areEnd, Bool.and_eq_true, decide_eq_true_eq] at this
  have := h.len; omega
theorem mudRow_nth {k : Wk} (h : OkK k) {b : List Int} (hb : b ∈ truthsX k.yard) {l : List Int} (hl : l ∈ truthsW k.beat) {i : Nat} (hi : i < k.yard.vats.length) :
    nth (mudRow k.yard.vats.length (blueRow k.yard b) (lossRow k.beat (toC l) k.ends)) i = mudR k b (toC l) (i : Int) ∧ 0 ≤ mudR k b (toC l) (i : Int) ∧ mudR k b (toC l) (i : Int) ≤ 900 := by
  have h3 := h.v3
  have e1 := dot_bd h.y (mem_lex.1 (List.mem_filter.1 hb).1) hi
  have e2 := loss_bd h.b (InC_of (mem_lex.1 (List.mem_filter.1 hl).1)) h.ends (q := i) (by rw [h.len]; exact hi)
  rw [lostV_eq] at e2
  have e3 : nth ((List.range k.yard.vats.length).map fun i => max 0 (nth (blueRow k.yard b) i - nth (lossRow k.beat (toC l) k.ends) i)) i = max 0 (nth (blueRow k.yard b) i - nth (lossRow k.beat (toC l) k.ends) i) := by simp [nth, hi]
  rw [mudRow, padL_nth (by omega), e3]
  have e4 : mudR k b (toC l) (i : Int) = max 0 (dot b (nth k.yard.vats i) - lostC k.beat (toC l) (i : Int) (nth k.ends i)) := by simp only [mudR, Int.toNat_natCast]
  rw [e4, e1.1, e2.1]
  rw [e1.1] at e1
  rw [e2.1] at e2
  exact ⟨rfl, by omega, by omega⟩
/-- The muds that there are, in any two truths. -/
theorem mudT_mem {k : Wk} (h : OkK k) {rows : List (List Int)} (hT : MudT k.yard.vats.length ((truthsX k.yard).map (blueRow k.yard)) ((truthsW k.beat).map fun l => lossRow k.beat (toC l) k.ends) rows) :
    (∀ t ∈ rows, ∃ p ∈ pairs k, ∀ i, i < k.yard.vats.length → nth t i = mudR k p.1 p.2 (i : Int)) ∧ ∀ p ∈ pairs k, ∃ t ∈ rows, ∀ i, i < k.yard.vats.length → nth t i = mudR k p.1 p.2 (i : Int) := by
  constructor
  · intro t ht
    obtain ⟨b, hb, l, hl, e⟩ := hT.of t ht
    obtain ⟨b0, hb0, rfl⟩ := List.mem_map.1 hb
    obtain ⟨l0, hl0, rfl⟩ := List.mem_map.1 hl
    refine ⟨(b0, toC l0), ?_, fun i hi => ?_⟩
    · simp only [pairs, prod, List.mem_flatMap, List.mem_map]
      exact ⟨b0, (mem_truths1 h.y.f h.m1).2 hb0, toC l0, (mem_truths3 h.b).2 ⟨l0, hl0, rfl⟩, rfl⟩
    · rw [e]; exact (mudRow_nth h hb0 hl0 hi).1
  · intro p hp
    simp only [pairs, prod, List.mem_flatMap, List.mem_map] at hp
    obtain ⟨b0, hb0, c0, hc0, rfl⟩ := hp
    obtain ⟨l0, hl0, rfl⟩ := (mem_truths3 h.b).1 hc0
    have hb1 := (mem_truths1 h.y.f h.m1).1 hb0
    exact ⟨_, hT.to _ (List.mem_map.2 ⟨b0, hb1, rfl⟩) _ (List.mem_map.2 ⟨l0, hl0, rfl⟩), fun i hi => (mudRow_nth h hb1 hl0 hi).1⟩
theorem mudR_bd {k : Wk} (h : OkK k) {p : List Int × Crs} (hp : p ∈ pairs k) {i : Nat} (hi : i < k.yard.vats.length) : 0 ≤ mudR k p.1 p.2 (i : Int) ∧ mudR k p.1 p.2 (i : Int) ≤ 900 := by
  simp only [pairs, prod, List.mem_flatMap, List.mem_map] at hp
  obtain ⟨b0, hb0, c0, hc0, rfl⟩ := hp
  obtain ⟨l0, hl0, rfl⟩ := (mem_truths3 h.b).1 hc0
  exact (mudRow_nth h ((mem_truths1 h.y.f h.m1).1 hb0) hl0 hi).2
theorem pairs_ne {k : Wk} (h : OkK k) : pairs k ≠ [] := by
  obtain ⟨b0, hb0⟩ := List.exists_mem_of_ne_nil _ h.t1
  obtain ⟨l0, hl0⟩ := List.exists_mem_of_ne_nil _ h.t3
  intro e
  have : (b0, toC l0) ∈ pairs k := by
    simp only [pairs, prod, List.mem_flatMap, List.mem_map]
    exact ⟨b0, (mem_truths1 h.y.f h.m1).2 hb0, toC l0, (mem_truths3 h.b).2 ⟨l0, hl0, rfl⟩, rfl⟩
  rw [e] at this; cases this
/-- The bounds of what is asked of all muds. -/
def mudsV (k : Wk) (val : Int → Int) : List Rg := bnds k.yard.vats.length fun i => (pairs k).map fun p => val (mudR k p.1 p.2 (i : Int))
theorem mudsV_rows {k : Wk} (h : OkK k) {rows : List (List Int)} (hT : MudT k.yard.vats.length ((truthsX k.yard).map (blueRow k.yard)) ((truthsW k.beat).map fun l => lossRow k.beat (toC l) k.ends) rows) (val : Int → Int) :
    bnds k.yard.vats.length (fun i => rows.map fun t => val (nth t i)) = mudsV k val := by
  obtain ⟨h1, h2⟩ := mudT_mem h hT
  simp only [bnds, mudsV, List.map_inj_left, List.mem_range]
  intro i hi
  refine hull_eq fun x => ?_
  simp only [List.mem_map]
  constructor
  · rintro ⟨t, ht, rfl⟩
    obtain ⟨p, hp, e⟩ := h1 t ht
    exact ⟨p, hp, by rw [e i hi]⟩
  · rintro ⟨p, hp, rfl⟩
    obtain ⟨t, ht, e⟩ := h2 p hp
    exact ⟨t, ht, by rw [e i hi]⟩
theorem rows_bd {k : Wk} (h : OkK k) {rows : List (List Int)} (hT : MudT k.yard.vats.length ((truthsX k.yard).map (blueRow k.yard)) ((truthsW k.beat).map fun l => lossRow k.beat (toC l) k.ends) rows) :
    0 < rows.length ∧ ∀ t ∈ rows, ∀ i, i < k.yard.vats.length → 0 ≤ nth t i ∧ nth t i ≤ 900 := by
  obtain ⟨h1, h2⟩ := mudT_mem h hT
  constructor
  · obtain ⟨p, hp⟩ := List.exists_mem_of_ne_nil _ (pairs_ne h)
    obtain ⟨t, ht, _⟩ := h2 p hp
    exact List.length_pos_of_mem ht
  · intro t ht i hi
    obtain ⟨p, hp, e⟩ := h1 t ht
    rw [e i hi]; exact mudR_bd h hp hi
section
variable {n d : Nat} {full : List Oper} {b0 : World} {R : Rgs} {H : Hp} {fr : Slots} {K : Kt} {ty : TypeId} {ps : String} {af : Array Edge} {w : World} {a b c dv e f : Value} {hs : List Value} {k : Wk}
/-- A call of asked. -/
theorem JO_asked {ar : List Operand} {ts : Array TypeId} {fine : Bool} (hd : Nat.blt d n = true) (hx : evs fr ar = some [wkV a b c dv e f k, .bool fine]) (hm : ((fun _ => True), b0) ∈ R) (hk : WkA All b0 a b c hs dv e f k)
    (h1 : fault9 k ≠ 0 → K R H ((d, .tuple #[.pointer none, .int .i64 (fault9 k)]) :: fr)) (h2 : fault9 k = 0 → fine = false → K R H ((d, .tuple #[.pointer none, .int .i64 2]) :: fr))
    (h3 : fault9 k = 0 → fine = true → ∀ (pw : Nat) (tv : Value) (r : Nat) (rows : List (List Int)) (u0 u1 : World), b0.heap.size ≤ u0.heap.size → (u0.heap.size ≤ pw ∧ pw ≠ r) → u1.heap[pw]? = some (.cells (wkC a b c dv e f k ++ [tv, .map (some r)]).toArray 188) →
      Arr (fun b => u0.heap.size ≤ b ∧ b ≠ r) u1 3 (encA 3) tv rows → MudT k.yard.vats.length ((truthsX k.yard).map (blueRow k.yard)) ((truthsW k.beat).map fun l => lossRow k.beat (toC l) k.ends) rows →
      K ((fun b => u0.heap.size ≤ b ∧ b ≠ r, u1) :: R) ((r, .map #[] 0) :: H) ((d, .tuple #[pt pw, .int .i64 0]) :: fr)) :
    JO n full b0 R H ⟨some d, .call ⟨.value (.func 88), ar.toArray, ts⟩, ty, ps, af, none⟩ fr K := by
  refine JO_callS (β := Option (Nat × Value × Nat × List (List Int) × World × World)) (S := fun s v => match s with
    | none => (fault9 k ≠ 0 ∧ v = .tuple #[.pointer none, .int .i64 (fault9 k)]) ∨ (fault9 k = 0 ∧ fine = false ∧ v = .tuple #[.pointer none, .int .i64 2])
    | some (pw, tv, r, rows, u0, u1) => (fault9 k = 0 ∧ fine = true ∧ v = .tuple #[pt pw, .int .i64 0]) ∧ b0.heap.size ≤ u0.heap.size ∧ (u0.heap.size ≤ pw ∧ pw ≠ r) ∧ u1.heap[pw]? = some (.cells (wkC a b c dv e f k ++ [tv, .map (some r)]).toArray 188) ∧
      Arr (fun b => u0.heap.size ≤ b ∧ b ≠ r) u1 3 (encA 3) tv rows ∧ MudT k.yard.vats.length ((truthsX k.yard).map (blueRow k.yard)) ((truthsW k.beat).map fun l => lossRow k.beat (toC l) k.ends) rows)
    (R' := fun s => match s with | none => R | some (pw, tv, r, rows, u0, u1) => (fun b => u0.heap.size ≤ b ∧ b ≠ r, u1) :: R) (H' := fun s => match s with | none => H | some (pw, tv, r, rows, u0, u1) => (r, .map #[] 0) :: H) hd hx (fun w5 hw5 => ?_) ?_
  · refine (c88 (hw5.wk hm hk) fine).mono ?_
    rintro v w6 ⟨kp, (⟨g1, rfl⟩ | ⟨g1, g2, rfl⟩ | ⟨g1, g2, pw, tv, r, rows, rfl, g3, g4, g5, g6, g7⟩)⟩
    · exact ⟨none, .inl ⟨g1, rfl⟩, fun _ h => h, hw5.keep kp⟩
    · exact ⟨none, .inr ⟨g1, g2, rfl⟩, fun _ h => h, hw5.keep kp⟩
    · refine ⟨some (pw, tv, r, rows, w5, w6), ⟨⟨g1, g2, rfl⟩, hw5.b0le, ⟨g3.1, g3.2.2⟩, g4, g6, g7⟩, fun _ h => .tail _ h, (hw5.own1 kp g3.2.1 g5).add _ fun p hp hG => ?_⟩
      rcases List.mem_cons.1 hp with rfl | hp
      · exact hG.2 rfl
      · have := hw5.lt hp; have := hG.1; omega
  · intro s v hs
    cases s with
    | none =>
      rcases hs with ⟨g1, rfl⟩ | ⟨g1, g2, rfl⟩
      · exact h1 g1
      · exact h2 g1 g2
    | some s =>
      obtain ⟨pw, tv, r, rows, u0, u1⟩ := s
      obtain ⟨⟨g1, g2, rfl⟩, g3, g4, g5, g6, g7⟩ := hs
      exact h3 g1 g2 pw tv r rows u0 u1 g3 g4 g5 g6 g7
end
end Go.Proofs.YtkbaaikidhbfmaaGreat
/- Contracts: the program's Muds, Hours and Cakes. No statement is proved here. -/
set_option linter.unusedVariables false
set_option linter.unusedSimpArgs false
namespace Go.Proofs.YtkbaaikidhbfmaaGreat
open Go.RowKit
section
variable {w : World} {a b c d e f : Value} {hs : List Value} {k : Wk}
/-- What a question about all muds hands back. -/
def AnsW (w : World) (k : Wk) (res : List Rg) (v : Value) (w' : World) : Prop :=
  (fault9 k ≠ 0 ∧ v = .tuple #[.slice none 0 0, .int .i64 (fault9 k)]) ∨ (fault9 k = 0 ∧ ∃ u, v = .tuple #[u, .int .i64 0] ∧ Arr (New w) w' 2 encR u res)
set_option maxHeartbeats 1000000 in
theorem c70 (h : WkA All w a b c hs d e f k) (g : FuncId) [hE : Ent g] (val : Int → Int) (hof : OkK k → ∀ (R : Rgs) (G : Nat → Prop) (w1 : World) (tv : Value) (pw r : Nat), (G, w1) ∈ R → G pw → w1.heap[pw]? = some (.cells (wkC a b c d e f k ++ [tv, .map (some r)]).toArray 188) → OfC w R g pw r k.force val)
    (hvb : OkK k → ∀ m, 0 ≤ m → m ≤ 900 → 0 ≤ val m ∧ val m ≤ 1000000) : Rt 70 [.agg #[.func (.func g) #[] #[]], wkV a b c d e f k] w fun v w' => Keep w w' ∧ AnsW w k (mudsV k val) v w' := by
  have i1 := h.yard.fields.v1
  have i2 := h.yard.vats.arr.v1
  have i3 := h.yard.smps.v1
  have i4 := h.beat.vats.v1
  have i5 := h.beat.smps.v1
  have i6 := h.ends.v1
  refine Rt_of Tryz.func70 rfl Tryz.ntmps70 rfl ?_
  repeat' (first | apply s_ | (apply JO_ob; exact rfl; first | exact ob1) | ((first | apply b_ | apply a_ | apply i_); exact z_; intro _) | ((first | apply p_ | apply JO_yes | apply GC_t); exact z_) | (apply n_; exact z_) | (apply GC_f; exact z_) | (apply GX_block_on; exact z_) | (apply c_; exact z_; all_goals intro _))
  rename_i p2 p3
  refine JO_asked (hs := hs) rfl rfl (.head _) h (fun hf => ?_) (fun _ hq => by cases hq) (fun hf _ pw tv r rows u0 u1 hb0 hpr hpw hT hMT => ?_)
  · repeat' (first | apply s_ | (apply JO_ob; exact rfl; first | exact ob1) | ((first | apply b_ | apply a_ | apply i_); exact z_; intro _) | ((first | apply p_ | apply JO_yes | apply GC_t); exact z_) | (apply n_; exact z_) | (apply GC_f; exact z_) | (apply GX_block_on; exact z_) | (apply c_; exact z_; all_goals intro _))
    exact GX_ret2 rfl rfl rfl fun w' hw' => ⟨hw'.kp mem_, .inl ⟨hf, rfl⟩⟩
  · have hK := okK_of hf
    obtain ⟨hne, hrb⟩ := rows_bd hK hMT
    have iT := hT.v1
    repeat' (first | apply s_ | (apply JO_ob; exact rfl; first | exact ob1) | ((first | apply b_ | apply a_ | apply i_); exact z_; intro _) | ((first | apply p_ | apply JO_yes | apply GC_t); exact z_) | (apply n_; exact z_) | (apply GC_f; exact z_) | (apply GX_block_on; exact z_) | (apply c_; exact z_; all_goals intro _))
    refine JO_callS (β := Obj × (Nat → Prop) × World) (S := fun s v => HrsOK k.force s.1 ∧ (∀ b, s.2.1 b → w.heap.size ≤ b) ∧ Arr s.2.1 s.2.2 2 encR v (bnds k.yard.vats.length fun i => rows.map fun t => val (nth t i))) (R' := fun s => (s.2.1, s.2.2) :: [(fun b => u0.heap.size ≤ b ∧ b ≠ r, u1), ((fun _ => True), w)]) (H' := fun s => (r, s.1) :: [(p3, .cells (wkC a b c d e f k).toArray 52), (p2, .cells #[.func (.func g) #[] #[]] 125)]) rfl rfl (fun w5 hw5 => ?_) ?_
    · exact (c115 (.tail _ (.head _)) h (.head _) hpr hpw (.head _) hT hne hK.v3 hrb g k.force val (hof hK _ _ _ _ _ _ (.head _) hpr hpw) (hvb hK) _ _ w5 hw5 (HrsOK.empty _))
    · rintro ⟨o', G', w9⟩ u ⟨g1, g2, g3⟩
      simp only at g1 g2 g3 ⊢
      have iu := g3.v1
      repeat' (first | apply s_ | (apply JO_ob; exact rfl; first | exact ob1) | ((first | apply b_ | apply a_ | apply i_); exact z_; intro _) | ((first | apply p_ | apply JO_yes | apply GC_t); exact z_) | (apply n_; exact z_) | (apply GC_f; exact z_) | (apply GX_block_on; exact z_) | (apply c_; exact z_; all_goals intro _))
      refine GX_ret2 rfl rfl rfl fun w' hw' => ⟨hw'.kp mem_, .inr ⟨hf, u, rfl, ?_⟩⟩
      rw [← mudsV_rows hK hMT]
      exact (hw'.arr (.head _) g3).weaken fun b hb _ => g2 b hb
theorem c22 (h : WkA All w a b c hs d e f k) : Rt 22 [wkV a b c d e f k] w fun v w' => Keep w w' ∧ AnsW w k (mudsV k fun m => m) v w' := by
  have i1 := h.yard.fields.v1
  have i2 := h.yard.vats.arr.v1
  have i3 := h.yard.smps.v1
  have i4 := h.beat.vats.v1
  have i5 := h.beat.smps.v1
  have i6 := h.ends.v1
  refine Rt_of Tryz.func22 rfl Tryz.ntmps22 rfl ?_
  repeat' (first | apply s_ | (apply JO_ob; exact rfl; first | exact ob1) | ((first | apply b_ | apply a_ | apply i_); exact z_; intro _) | ((first | apply p_ | apply JO_yes | apply GC_t); exact z_) | (apply n_; exact z_) | (apply GC_f; exact z_) | (apply GX_block_on; exact z_) | (apply c_; exact z_; all_goals intro _))
  refine JO_call (S := fun w0 v w' => AnsW w0 k (mudsV k fun m => m) v w') rfl rfl (fun w5 hw5 => c70 (hw5.wk mem_ h) 69 _ (fun _ R G w1 tv pw r _ _ _ => of69 _) (fun _ m h0 h1 => by omega)) ?_
  rintro v u0 u1 hu0 hu1 hk01 (⟨hf, rfl⟩ | ⟨hf, u, rfl, hu⟩)
  · repeat' (first | apply s_ | (apply JO_ob; exact rfl; first | exact ob1) | ((first | apply b_ | apply a_ | apply i_); exact z_; intro _) | ((first | apply p_ | apply JO_yes | apply GC_t); exact z_) | (apply n_; exact z_) | (apply GC_f; exact z_) | (apply GX_block_on; exact z_) | (apply c_; exact z_; all_goals intro _))
    exact GX_ret2 rfl rfl rfl fun w' hw' => ⟨hw'.kp mem_, .inl ⟨hf, rfl⟩⟩
  · have iu := hu.v1
    repeat' (first | apply s_ | (apply JO_ob; exact rfl; first | exact ob1) | ((first | apply b_ | apply a_ | apply i_); exact z_; intro _) | ((first | apply p_ | apply JO_yes | apply GC_t); exact z_) | (apply n_; exact z_) | (apply GC_f; exact z_) | (apply GX_block_on; exact z_) | (apply c_; exact z_; all_goals intro _))
    exact GX_ret2 rfl rfl rfl fun w' hw' => ⟨hw'.kp mem_, .inr ⟨hf, u, rfl, (hw'.arr (.head _) hu).weaken fun b hb _ => Nat.le_trans hu0.b0le hb⟩⟩
theorem hours_bd {f m : Int} (hf : 1 ≤ f) (h0 : 0 ≤ m) (h1 : m ≤ 900) : 0 ≤ (hoursR f m : Int) ∧ (hoursR f m : Int) ≤ 1000000 := by
  have := hours_le hf ⟨h0, h1⟩ 1000 0 (by omega) (by omega)
  simp only [hoursR]; omega
theorem c29 (h : WkA All w a b c hs d e f k) : Rt 29 [wkV a b c d e f k] w fun v w' => Keep w w' ∧ AnsW w k (mudsV k fun m => (hoursR k.force m : Int)) v w' := by
  have i1 := h.yard.fields.v1
  have i2 := h.yard.vats.arr.v1
  have i3 := h.yard.smps.v1
  have i4 := h.beat.vats.v1
  have i5 := h.beat.smps.v1
  have i6 := h.ends.v1
  refine Rt_of Tryz.func29 rfl Tryz.ntmps29 rfl ?_
  repeat' (first | apply s_ | (apply JO_ob; exact rfl; first | exact ob1) | ((first | apply b_ | apply a_ | apply i_); exact z_; intro _) | ((first | apply p_ | apply JO_yes | apply GC_t); exact z_) | (apply n_; exact z_) | (apply GC_f; exact z_) | (apply GX_block_on; exact z_) | (apply c_; exact z_; all_goals intro _))
  refine JO_call (S := fun w0 v w' => AnsW w0 k (mudsV k fun m => (hoursR k.force m : Int)) v w') rfl rfl (fun w5 hw5 => c70 (hw5.wk mem_ h) 85 _ (fun hK R G w1 tv pw r g1 g2 g3 => of85 g1 g2 g3 hK.force) (fun hK m h0 h1 => hours_bd hK.force.1 h0 h1)) ?_
  rintro v u0 u1 hu0 hu1 hk01 (⟨hf, rfl⟩ | ⟨hf, u, rfl, hu⟩)
  · repeat' (first | apply s_ | (apply JO_ob; exact rfl; first | exact ob1) | ((first | apply b_ | apply a_ | apply i_); exact z_; intro _) | ((first | apply p_ | apply JO_yes | apply GC_t); exact z_) | (apply n_; exact z_) | (apply GC_f; exact z_) | (apply GX_block_on; exact z_) | (apply c_; exact z_; all_goals intro _))
    exact GX_ret2 rfl rfl rfl fun w' hw' => ⟨hw'.kp mem_, .inl ⟨hf, rfl⟩⟩
  · have iu := hu.v1
    repeat' (first | apply s_ | (apply JO_ob; exact rfl; first | exact ob1) | ((first | apply b_ | apply a_ | apply i_); exact z_; intro _) | ((first | apply p_ | apply JO_yes | apply GC_t); exact z_) | (apply n_; exact z_) | (apply GC_f; exact z_) | (apply GX_block_on; exact z_) | (apply c_; exact z_; all_goals intro _))
    exact GX_ret2 rfl rfl rfl fun w' hw' => ⟨hw'.kp mem_, .inr ⟨hf, u, rfl, (hw'.arr (.head _) hu).weaken fun b hb _ => Nat.le_trans hu0.b0le hb⟩⟩
theorem c30 (h : WkA All w a b c hs d e f k) : Rt 30 [wkV a b c d e f k] w fun v w' => Keep w w' ∧ AnsW w k (mudsV k fun m => m / k.cake) v w' := by
  have i1 := h.yard.fields.v1
  have i2 := h.yard.vats.arr.v1
  have i3 := h.yard.smps.v1
  have i4 := h.beat.vats.v1
  have i5 := h.beat.smps.v1
  have i6 := h.ends.v1
  refine Rt_of Tryz.func30 rfl Tryz.ntmps30 rfl ?_
  repeat' (first | apply s_ | (apply JO_ob; exact rfl; first | exact ob1) | ((first | apply b_ | apply a_ | apply i_); exact z_; intro _) | ((first | apply p_ | apply JO_yes | apply GC_t); exact z_) | (apply n_; exact z_) | (apply GC_f; exact z_) | (apply GX_block_on; exact z_) | (apply c_; exact z_; all_goals intro _))
  refine JO_call (S := fun w0 v w' => AnsW w0 k (mudsV k fun m => m / k.cake) v w') rfl rfl (fun w5 hw5 => c70 (hw5.wk mem_ h) 86 _ (fun hK R G w1 tv pw r g1 g2 g3 => of86 g1 g2 g3 hK.cake _) (fun hK m h0 h1 => ?_)) ?_
  · have := Int.ediv_nonneg h0 (by have := hK.cake.1; omega : 0 ≤ k.cake)
    have := Int.ediv_le_self k.cake h0
    omega
  rintro v u0 u1 hu0 hu1 hk01 (⟨hf, rfl⟩ | ⟨hf, u, rfl, hu⟩)
  · repeat' (first | apply s_ | (apply JO_ob; exact rfl; first | exact ob1) | ((first | apply b_ | apply a_ | apply i_); exact z_; intro _) | ((first | apply p_ | apply JO_yes | apply GC_t); exact z_) | (apply n_; exact z_) | (apply GC_f; exact z_) | (apply GX_block_on; exact z_) | (apply c_; exact z_; all_goals intro _))
    exact GX_ret2 rfl rfl rfl fun w' hw' => ⟨hw'.kp mem_, .inl ⟨hf, rfl⟩⟩
  · have iu := hu.v1
    repeat' (first | apply s_ | (apply JO_ob; exact rfl; first | exact ob1) | ((first | apply b_ | apply a_ | apply i_); exact z_; intro _) | ((first | apply p_ | apply JO_yes | apply GC_t); exact z_) | (apply n_; exact z_) | (apply GC_f; exact z_) | (apply GX_block_on; exact z_) | (apply c_; exact z_; all_goals intro _))
    exact GX_ret2 rfl rfl rfl fun w' hw' => ⟨hw'.kp mem_, .inr ⟨hf, u, rfl, (hw'.arr (.head _) hu).weaken fun b hb _ => Nat.le_trans hu0.b0le hb⟩⟩
end
end Go.Proofs.YtkbaaikidhbfmaaGreat
/- Contracts: when all vats are pressed. No statement is proved here. -/
set_option linter.unusedVariables false
set_option linter.unusedSimpArgs false
namespace Go.Proofs.YtkbaaikidhbfmaaGreat
open Go.RowKit
/-- The hours of the vats in a box, of the first ones. -/
def atN (hr : Nat → Int) (l : List Int) (v : Int) : Nat → Int
  | 0 => 0
  | i + 1 => atN hr l v i + (if nth l i = v then hr i else 0)
/-- When a vat is pressed. -/
def atV (hr : Nat → Int) (l : List Int) (i : Nat) : Int := atN hr l (nth l i) (i + 1)
theorem atN_bd {hr : Nat → Int} {l : List Int} {M : Int} (hM : 0 ≤ M) (v : Int) : ∀ n, (∀ i, i < n → 0 ≤ hr i ∧ hr i ≤ M) → 0 ≤ atN hr l v n ∧ atN hr l v n ≤ n * M := by
  intro n
  induction n with
  | zero => intro _; simp [atN]
  | succ n ih =>
    intro h
    have h1 := ih fun i hi => h i (by omega)
    have h2 := h n (by omega)
    have e : ((n + 1 : Nat) : Int) * M = n * M + M := by rw [show ((n + 1 : Nat) : Int) = (n : Int) + 1 by omega, Int.add_mul, Int.one_mul]
    simp only [atN]
    rw [e]
    split <;> omega
section
variable {b0 : World} {R : Rgs} {G Gp : Nat → Prop} {w1 wp : World} {a b c d e f tv : Value} {k : Wk} {pw r : Nat}
theorem c125 (hR : (G, w1) ∈ R) (hG : G pw) (hpw : w1.heap[pw]? = some (.cells (wkC a b c d e f k ++ [tv, .map (some r)]).toArray 188)) (hf : 1 ≤ k.force ∧ k.force ≤ 9) {n : Nat} (hn : n ≤ 3) (t : List Int) (ht : ∀ i, i < n → 0 ≤ nth t i ∧ nth t i ≤ 900)
    {v : Value} {l : List Int} (hRp : (Gp, wp) ∈ R) (hl : Arr Gp wp 1 encI v l) (hln : l.length = n) (hlb : ∀ i, i < n → 0 ≤ nth l i ∧ nth l i ≤ 3) (o : Obj) (H : Hp) (w : World) (hw : SH b0 R ((r, o) :: H) w) (ho : HrsOK k.force o) :
    Rt 125 [pt pw, kA 3 t, v] w fun u w' => u = kA 3 ((List.range n).map (atV (fun i => (hoursR k.force (nth t i) : Int)) l)) ∧ ∃ o', HrsOK k.force o' ∧ (∀ q ∈ R, q ∈ R) ∧ SH b0 R ((r, o') :: H) w' := by
  have i4 := hl.v1
  have bl := hl.bound
  let hr : Nat → Int := fun i => (hoursR k.force (nth t i) : Int)
  have hrb : ∀ i, i < n → 0 ≤ hr i ∧ hr i ≤ 901 := fun i hi => by
    have h1 := ht i hi
    have h2 := hours_le hf.1 h1 1000 0 (by omega) (by omega)
    simp only [hr, hoursR]; omega
  refine Rt_ofS Tryz.func125 rfl Tryz.ntmps125 rfl hw ?_
  repeat' (first | apply s_ | ((first | apply JO_ob | apply GD_ex | apply GL_ex); exact rfl; first | exact ob1 | exact Ob_indexa rfl rfl (by omega) | exact Ob_load_a rfl mem_ (by omega) | exact Ob_sliceA rfl) | (apply pA_; exact zA_) | ((first | apply b_ | apply a_ | apply i_); exact z_; intro _) | ((first | apply p_ | apply JO_yes | apply GC_t); exact z_) | (apply n_; exact z_) | (apply GC_f; exact z_) | (apply GX_block_on; exact z_) | refine GC_drawB (id := 5) [3, 4, 5, 6] [0, 1, 2] [7, 8, 9, 10] _ (by kernel_rfl) (List.Sublist.refl _) ?_ | ((first | apply GD_at | apply GL_at | apply GD_no | apply GL_no); exact rfl) | apply DFin_0 | (apply q1_; exact z_) | (apply q0_; exact z_) | (apply q2_; exact z_) | (apply c_; exact z_; all_goals intro _) | (apply g_; exact z_; all_goals intro _))
  rename_i p4 p6 p7
  refine GC_loop (α := Nat × List Int × List Int × Obj) (fun s => n - s.1) (fun s => [(0, pt pw), (4, pt p4), (6, pt p6), (7, pt p7), (10, v), (11, .int .i64 (n : Int)), (12, .int .i64 (s.1 : Int))]) (fun _ => R)
    (fun s => (p7, .cells (encA 4 s.2.1).toArray 241) :: (p6, .cells (encA 3 s.2.2.1).toArray 195) :: (p4, .cells (encA 3 t).toArray 195) :: (r, s.2.2.2) :: H)
    (fun s => s.1 ≤ n ∧ s.2.1.length = 4 ∧ s.2.2.1.length = 3 ∧ (∀ x : Nat, x < 4 → nth s.2.1 x = atN hr l (x : Int) s.1) ∧ (∀ j, j < s.1 → nth s.2.2.1 j = atV hr l j) ∧ (∀ j, s.1 ≤ j → nth s.2.2.1 j = 0) ∧ HrsOK k.force s.2.2.2) (0, [0, 0, 0, 0], [0, 0, 0], o)
    ⟨rfl, rfl, rfl, rfl, rfl, by rw [← hln]; rfl, rfl, trivial⟩ ⟨Nat.zero_le _, rfl, rfl, fun x hx => ?_, fun j hj => absurd hj (Nat.not_lt_zero j), fun j _ => ?_, ho⟩ (fun w hw => hw) ?_
  · match x, hx with
    | 0, _ => rfl
    | 1, _ => rfl
    | 2, _ => rfl
    | 3, _ => rfl
  · match j with
    | 0 => rfl
    | 1 => rfl
    | 2 => rfl
    | j + 3 => simp [nth]
  rintro ⟨i, xs, ys, oi⟩ ⟨hi, hx4, hy3, hxs, hys, hyz, hoi⟩
  simp only at hi hx4 hy3 hxs hys hyz hoi ⊢
  by_cases hlt : i < n
  · have q1 := hlb i hlt
    have q2 := hxs (nth l i).toNat (by omega)
    have q3 := atN_bd (l := l) (M := 901) (by omega) (((nth l i).toNat : Nat) : Int) i (fun j hj => hrb j (by omega))
    have q4 := hrb i hlt
    have q5 := ht i hlt
    have q6 : (i : Int) * 901 ≤ 3 * 901 := Int.mul_le_mul_of_nonneg_right (by omega) (by omega)
    rw [← q2] at q3
    repeat' (first | apply s_ | (apply JO_ob; exact rfl; first | exact ob1 | exact Ob_loadn rfl hl hRp rfl (by omega) (by decide) rfl | exact Ob_indexa rfl rfl (by omega) | exact Ob_load_a rfl mem_ (by omega) | exact Ob_sliceA rfl) | (apply pA_; exact zA_) | ((first | apply b_ | apply a_ | apply i_); exact z_; intro _) | ((first | apply p_ | apply JO_yes | apply GC_t); exact z_) | (apply n_; exact z_) | (apply GC_f; exact z_) | (apply GX_block_on; exact z_) | (apply c_; exact z_; all_goals intro _))
    refine GC_drawB (id := 5) [3, 4, 5, 6] [0, 1, 2] [7, 8, 9, 10] [(p7, .cells (encA 4 xs).toArray 241)] (by kernel_rfl) sub_ ?_
    repeat' (first | apply s_ | ((first | apply JO_ob | apply GD_ex | apply GL_ex); exact rfl; first | exact ob1 | exact Ob_indexai rfl rfl q1.1 (by omega) | exact Ob_indexa rfl rfl (by omega) | exact Ob_load_a rfl mem_ (by omega) | exact Ob_sliceA rfl) | (apply pA_; exact zA_) | ((first | apply b_ | apply a_ | apply i_); exact z_; intro _) | ((first | apply p_ | apply JO_yes | apply GC_t); exact z_) | (apply n_; exact z_) | (apply GC_f; exact z_) | (apply GX_block_on; exact z_) | refine GC_drawB (id := 5) [3, 4, 5, 6] [0, 1, 2] [7, 8, 9, 10] _ (by kernel_rfl) (List.Sublist.refl _) ?_ | ((first | apply GD_at | apply GL_at | apply GD_no | apply GL_no); exact rfl) | apply DFin_0 | (apply q1_; exact z_) | (apply q0_; exact z_) | (apply q2_; exact z_) | (apply c_; exact z_; all_goals intro _) | (apply g_; exact z_; all_goals intro _))
    refine JO_callS (β := Obj) (S := fun o' v => v = .int .i64 (hr i) ∧ HrsOK k.force o') (R' := fun _ => R) (H' := fun o' => (p7, .cells (encA 4 xs).toArray 241) :: (p6, .cells (encA 3 ys).toArray 195) :: (p4, .cells (encA 3 t).toArray 195) :: (r, o') :: H) rfl rfl (fun w5 hw5 => ?_) ?_
    · have hpm : ∀ {o : Obj}, List.Perm ((p7, Obj.cells (encA 4 xs).toArray 241) :: (p6, .cells (encA 3 ys).toArray 195) :: (p4, .cells (encA 3 t).toArray 195) :: (r, o) :: H) ((r, o) :: (p7, .cells (encA 4 xs).toArray 241) :: (p6, .cells (encA 3 ys).toArray 195) :: (p4, .cells (encA 3 t).toArray 195) :: H) := List.perm_middle (l₁ := [_, _, _])
      refine (c85 hR hG hpw hf _ q5 oi _ w5 (hw5.perm hpm) hoi).mono ?_
      rintro u w6 ⟨e1, o', h1, h2, h3⟩
      exact ⟨o', ⟨e1, h1⟩, h2, h3.perm hpm.symm⟩
    · rintro o' u ⟨rfl, ho'⟩
      repeat' (first | apply s_ | ((first | apply JO_ob | apply GD_ex | apply GL_ex); exact rfl; first | exact ob1 | exact Ob_indexai rfl rfl q1.1 (by omega) | exact Ob_indexa rfl rfl (by omega) | exact Ob_load_a rfl mem_ (by omega) | exact Ob_sliceA rfl) | (apply pA_; exact zA_) | ((first | apply b_ | apply a_ | apply i_); exact z_; intro _) | ((first | apply p_ | apply JO_yes | apply GC_t); exact z_) | (apply n_; exact z_) | (apply GC_f; exact z_) | (apply GX_block_on; exact z_) | refine GC_drawB (id := 5) [3, 4, 5, 6] [0, 1, 2] [7, 8, 9, 10] _ (by kernel_rfl) (List.Sublist.refl _) ?_ | ((first | apply GD_at | apply GL_at | apply GD_no | apply GL_no); exact rfl) | apply DFin_0 | (apply q1_; exact z_) | (apply q0_; exact z_) | (apply q2_; exact z_) | (apply c_; exact z_; all_goals intro _) | (apply g_; exact z_; all_goals intro _))
      refine JO_store_a (j := 0) (xs := xs) rfl rfl rfl (by omega) (by omega) ?_
      repeat' (first | apply s_ | ((first | apply JO_ob | apply GD_ex | apply GL_ex); exact rfl; first | exact ob1 | exact Ob_indexai rfl rfl q1.1 (by omega) | exact Ob_indexa rfl rfl (by omega) | exact Ob_load_a rfl mem_ (by omega) | exact Ob_sliceA rfl) | (apply pA_; exact zA_) | ((first | apply b_ | apply a_ | apply i_); exact z_; intro _) | ((first | apply p_ | apply JO_yes | apply GC_t); exact z_) | (apply n_; exact z_) | (apply GC_f; exact z_) | (apply GX_block_on; exact z_) | refine GC_drawB (id := 5) [3, 4, 5, 6] [0, 1, 2] [7, 8, 9, 10] _ (by kernel_rfl) (List.Sublist.refl _) ?_ | ((first | apply GD_at | apply GL_at | apply GD_no | apply GL_no); exact rfl) | apply DFin_0 | (apply q1_; exact z_) | (apply q0_; exact z_) | (apply q2_; exact z_) | (apply c_; exact z_; all_goals intro _) | (apply g_; exact z_; all_goals intro _))
      refine JO_store_a (j := 1) (xs := ys) rfl rfl rfl (by omega) (by omega) ?_
      repeat' (first | apply s_ | ((first | apply JO_ob | apply GD_ex | apply GL_ex); exact rfl; first | exact ob1 | exact Ob_indexa rfl rfl (by omega) | exact Ob_load_a rfl mem_ (by omega) | exact Ob_sliceA rfl) | (apply pA_; exact zA_) | ((first | apply b_ | apply a_ | apply i_); exact z_; intro _) | ((first | apply p_ | apply JO_yes | apply GC_t); exact z_) | (apply n_; exact z_) | (apply GC_f; exact z_) | (apply GX_block_on; exact z_) | refine GC_drawB (id := 5) [3, 4, 5, 6] [0, 1, 2] [7, 8, 9, 10] _ (by kernel_rfl) (List.Sublist.refl _) ?_ | ((first | apply GD_at | apply GL_at | apply GD_no | apply GL_no); exact rfl) | apply DFin_0 | (apply q1_; exact z_) | (apply q0_; exact z_) | (apply q2_; exact z_) | (apply c_; exact z_; all_goals intro _) | (apply g_; exact z_; all_goals intro _))
      have e1 : nth (xs.set (nth l i).toNat (nth xs (nth l i).toNat + hr i)) (nth l i).toNat = atV hr l i := by
        rw [nth_set (by omega), if_pos rfl, q2, atV, atN, if_pos rfl]
        rw [Int.toNat_of_nonneg q1.1]
      rw [e1]
      refine GX_loop (i + 1, xs.set (nth l i).toNat (nth xs (nth l i).toNat + hr i), ys.set i (atV hr l i), o') ⟨rfl, rfl, rfl, rfl, rfl, rfl, rfl, trivial⟩ (by simp only; omega) ⟨by simp only; omega, by simp only [List.length_set]; exact hx4, by simp only [List.length_set]; exact hy3, fun x hx => ?_, fun j hj => ?_, fun j hj => ?_, ho'⟩ fun w hw => hw
      · simp only
        rw [nth_set (by omega), atN]
        by_cases e : x = (nth l i).toNat
        · rw [if_pos e, if_pos (by omega), q2, ← e]
        · rw [if_neg e, if_neg (by omega), hxs x hx, Int.add_zero]
      · simp only at hj ⊢
        rw [nth_set (by omega)]
        by_cases e : j = i
        · subst e; rw [if_pos rfl]
        · rw [if_neg e]; exact hys j (by omega)
      · simp only at hj ⊢
        rw [nth_set (by omega), if_neg (by omega)]; exact hyz j (by omega)
  · have hie : i = n := by omega
    subst hie
    repeat' (first | apply s_ | ((first | apply JO_ob | apply GD_ex | apply GL_ex); exact rfl; first | exact ob1 | exact Ob_indexa rfl rfl (by omega) | exact Ob_load_a rfl mem_ (by omega) | exact Ob_sliceA rfl) | (apply pA_; exact zA_) | ((first | apply b_ | apply a_ | apply i_); exact z_; intro _) | ((first | apply p_ | apply JO_yes | apply GC_t); exact z_) | (apply n_; exact z_) | (apply GC_f; exact z_) | (apply GX_block_on; exact z_) | refine GC_drawB (id := 5) [3, 4, 5, 6] [0, 1, 2] [7, 8, 9, 10] _ (by kernel_rfl) (List.Sublist.refl _) ?_ | ((first | apply GD_at | apply GL_at | apply GD_no | apply GL_no); exact rfl) | apply DFin_0 | (apply q1_; exact z_) | (apply q0_; exact z_) | (apply q2_; exact z_) | (apply c_; exact z_; all_goals intro _) | (apply g_; exact z_; all_goals intro _))
    refine GX_retc (cs := encA 3 ys) rfl rfl (.tail _ (.head _)) rfl fun w' hw' => ⟨?_, oi, hoi, fun _ h => h, hw'.weak (fun r h => h) (List.Sublist.cons _ (List.Sublist.cons _ (List.Sublist.cons _ (List.Sublist.refl _))))⟩
    have e : encA 3 ys = encA 3 ((List.range i).map (atV hr l)) := encA_ext fun j hj => by
      by_cases hj2 : j < i
      · rw [hys j hj2]; simp [nth, hj2]
      · rw [hyz j (by omega)]; simp [nth, hj2]
    simp only [kA, e]; rfl
end
end Go.Proofs.YtkbaaikidhbfmaaGreat
/- Contracts: when all vats are pressed, at the least and at the most. No statement is proved here. -/
set_option linter.unusedVariables false
set_option linter.unusedSimpArgs false
namespace Go.Proofs.YtkbaaikidhbfmaaGreat
open Go.RowKit
/-- When all vats are pressed, as the program keeps it. -/
def T3 (fo : Int) (n : Nat) (l row : List Int) : List Int := padL 3 ((List.range n).map (atV (fun i => (hoursR fo (nth row i) : Int)) l))
theorem T3_nth {fo : Int} {n : Nat} (hn : n ≤ 3) {l row : List Int} {i : Nat} (hi : i < n) : nth (T3 fo n l row) i = atV (fun i => (hoursR fo (nth row i) : Int)) l i := by
  rw [T3, padL_nth (by omega)]; simp [nth, hi]
theorem bE_in {L : List Int} {k q : Nat} (h : q < k) (hk : k ≤ L.length) : (bE L k).1 ≤ nth L q ∧ nth L q ≤ (bE L k).2 := by
  rw [bE, if_neg (by omega)]
  have hm : nth L q ∈ L.take k := by
    have e : nth L q = nth (L.take k) q := by simp [nth, List.getElem?_take, h]
    rw [e]; exact nth_mem (by rw [List.length_take]; omega)
  exact ⟨(foldl_min_le _ _).2.1 _ hm, (foldl_max_le _ _).2.1 _ hm⟩
section
variable {b0 : World} {R : Rgs} {G Gt Gp : Nat → Prop} {w1 wt wp : World} {a b c d e f tv : Value} {hs : List Value} {k : Wk} {pw r : Nat} {rows : List (List Int)}
set_option maxHeartbeats 2000000 in
theorem c90 (hm : ((fun _ => True), b0) ∈ R) (hk : WkA All b0 a b c hs d e f k) (hR : (G, w1) ∈ R) (hG : G pw) (hpw : w1.heap[pw]? = some (.cells (wkC a b c d e f k ++ [tv, .map (some r)]).toArray 188))
    (hRt : (Gt, wt) ∈ R) (hT : Arr Gt wt 3 (encA 3) tv rows) (hne : 0 < rows.length) (h3 : k.yard.vats.length ≤ 3) (hrows : ∀ t ∈ rows, ∀ i, i < k.yard.vats.length → 0 ≤ nth t i ∧ nth t i ≤ 900) (hf : 1 ≤ k.force ∧ k.force ≤ 9)
    {v : Value} {l : List Int} (hRp : (Gp, wp) ∈ R) (hl : Arr Gp wp 1 encI v l) (hln : l.length = k.yard.vats.length) (hlb : ∀ i, i < k.yard.vats.length → 0 ≤ nth l i ∧ nth l i ≤ 3) (o : Obj) (H : Hp) (w : World) (hw : SH b0 R ((r, o) :: H) w) (ho : HrsOK k.force o) :
    Rt 90 [pt pw, v] w fun v w' => ∃ s : Obj × (Nat → Prop) × World, (HrsOK k.force s.1 ∧ (∀ b, s.2.1 b → b0.heap.size ≤ b) ∧ Arr s.2.1 s.2.2 2 encR v (bnds k.yard.vats.length fun i => rows.map fun t => atV (fun i => (hoursR k.force (nth t i) : Int)) l i)) ∧ (∀ q ∈ R, q ∈ (s.2.1, s.2.2) :: R) ∧ SH b0 ((s.2.1, s.2.2) :: R) ((r, s.1) :: H) w' := by
  have i1 := hk.yard.fields.v1
  have i2 := hk.yard.vats.arr.v1
  have i3 := hk.yard.smps.v1
  have i4 := hk.beat.vats.v1
  have i5 := hk.beat.smps.v1
  have i6 := hk.ends.v1
  have i7 := hT.v1
  have i8 := hl.v1
  have bT := hT.bound
  refine Rt_ofS Tryz.func90 rfl Tryz.ntmps90 rfl hw ?_
  repeat' (first | apply s_ | (apply JO_ob; exact rfl; first | exact ob1 | exact Ob_loads_blk rfl hR hG hpw (vs := wkC a b c d e f k) rfl rfl | exact Ob_call rfl (fun w5 hw5 => c75w (hw5.wk hm hk)) | exact Ob_indexa rfl rfl (by omega) | exact Ob_load_a rfl mem_ (by omega) | exact Ob_sliceA rfl) | (apply pA_; exact zA_) | ((first | apply b_ | apply a_ | apply i_); exact z_; intro _) | ((first | apply p_ | apply JO_yes | apply GC_t); exact z_) | (apply n_; exact z_) | (apply GC_f; exact z_) | (apply GX_block_on; exact z_) | (apply c_; exact z_; all_goals intro _))
  let n := k.yard.vats.length
  let T : List Int → List Int := T3 k.force n l
  let L : Nat → List Int := fun i => rows.map fun t => nth (T t) i
  have lL : ∀ i, (L i).length = rows.length := fun i => by simp [L]
  have eL : ∀ i q, q < rows.length → nth (L i) q = nth (T (nth rows q)) i := fun i q hq => nth_map _ hq
  have lT : ∀ t, (T t).length = 3 := fun t => padL_len _ _
  refine JO_make (m := n) (x0 := ((0, 0) : Rg)) (enc := encR) rfl rfl rfl (fun _ => rfl) rfl (by decide) (by omega) (by omega) ?_
  intro bo hob
  have e0 : List.replicate n ((0, 0) : Rg) = bS n L 0 0 := by
    refine List.ext_getElem (by simp [bS]) fun j h1 h2 => by simp [bS, bE]
  rw [e0]
  repeat' (first | apply s_ | (apply JO_ob; exact rfl; first | exact ob1 | exact Ob_load_blk rfl hR hG hpw rfl | exact Ob_indexa rfl rfl (by omega) | exact Ob_load_a rfl mem_ (by omega) | exact Ob_sliceA rfl) | (apply pA_; exact zA_) | ((first | apply b_ | apply a_ | apply i_); exact z_; intro _) | ((first | apply p_ | apply JO_yes | apply GC_t); exact z_) | (apply n_; exact z_) | (apply GC_f; exact z_) | (apply GX_block_on; exact z_) | (apply c_; exact z_; all_goals intro _))
  rename_i p6
  refine GC_loop (α := Nat × Obj × List Int) (fun s => rows.length - s.1) (fun s => [(0, pt pw), (1, v), (5, .slice (some ⟨bo, 0, none⟩) n n), (6, pt p6), (20, tv), (21, .int .i64 (rows.length : Int)), (22, .int .i64 (s.1 : Int))]) (fun _ => R)
    (fun s => (p6, .cells (encA 3 s.2.2).toArray 195) :: (r, s.2.1) :: (bo, .cells ((bS n L s.1 0).flatMap encR).toArray 59) :: H) (fun s => s.1 ≤ rows.length ∧ HrsOK k.force s.2.1 ∧ s.2.2.length = 3 ∧ (s.1 ≠ 0 → s.2.2 = T (nth rows (s.1 - 1)))) (0, o, [0, 0, 0]) ⟨rfl, rfl, rfl, rfl, rfl, rfl, rfl, trivial⟩ ⟨Nat.zero_le _, ho, rfl, fun h => absurd rfl h⟩ (fun w hw => hw.perm ((List.Perm.swap _ _ _).cons _)) ?_
  rintro ⟨q, oq, la⟩ ⟨hq, hoq, hla3, hla⟩
  simp only at hq hoq hla3 hla ⊢
  by_cases hlt : q < rows.length
  · have hrq := hrows _ (nth_mem hlt)
    repeat' (first | apply s_ | (apply JO_ob; exact rfl; first | exact ob1 | exact Ob_load_A (m := 0) (i := q) rfl hT hRt rfl hlt | exact Ob_indexa rfl rfl (by omega) | exact Ob_load_a rfl mem_ (by omega) | exact Ob_sliceA rfl) | (apply pA_; exact zA_) | ((first | apply b_ | apply a_ | apply i_); exact z_; intro _) | ((first | apply p_ | apply JO_yes | apply GC_t); exact z_) | (apply n_; exact z_) | (apply GC_f; exact z_) | (apply GX_block_on; exact z_) | (apply c_; exact z_; all_goals intro _))
    rename_i p8
    refine JO_callS (β := Obj) (S := fun o' v => v = kA 3 (T (nth rows q)) ∧ HrsOK k.force o') (R' := fun _ => R) (H' := fun o' => (p8, .cells (encA 3 (nth rows q)).toArray 195) :: (p6, .cells (encA 3 la).toArray 195) :: (r, o') :: (bo, .cells ((bS n L q 0).flatMap encR).toArray 59) :: H) rfl rfl (fun w5 hw5 => ?_) ?_
    · have hpm : ∀ {o : Obj}, List.Perm ((p8, Obj.cells (encA 3 (nth rows q)).toArray 195) :: (p6, .cells (encA 3 la).toArray 195) :: (r, o) :: (bo, .cells ((bS n L q 0).flatMap encR).toArray 59) :: H) ((r, o) :: (p8, .cells (encA 3 (nth rows q)).toArray 195) :: (p6, .cells (encA 3 la).toArray 195) :: (bo, .cells ((bS n L q 0).flatMap encR).toArray 59) :: H) := List.perm_middle (l₁ := [_, _])
      refine (c125 hR hG hpw hf h3 _ hrq hRp hl hln hlb oq _ w5 (hw5.perm hpm) hoq).mono ?_
      rintro u w6 ⟨e1, o', h1, h2, h3⟩
      exact ⟨o', ⟨by rw [e1]; simp only [kA, T, T3, encA_pad]; rfl, h1⟩, h2, h3.perm hpm.symm⟩
    · rintro o' u ⟨rfl, ho'⟩
      repeat' (first | apply s_ | (apply JO_ob; exact rfl; first | exact ob1 | exact Ob_indexa rfl rfl (by omega) | exact Ob_load_a rfl mem_ (by omega) | exact Ob_sliceA rfl) | (apply pA_; exact zA_) | ((first | apply b_ | apply a_ | apply i_); exact z_; intro _) | ((first | apply p_ | apply JO_yes | apply GC_t); exact z_) | (apply n_; exact z_) | (apply GC_f; exact z_) | (apply GX_block_on; exact z_))
      rename_i p9
      by_cases h0 : q = 0
      · subst h0
        repeat' (first | apply s_ | (apply JO_ob; exact rfl; first | exact ob1 | exact Ob_indexa rfl rfl (by omega) | exact Ob_load_a rfl mem_ (by omega) | exact Ob_sliceA rfl) | (apply pA_; exact zA_) | ((first | apply b_ | apply a_ | apply i_); exact z_; intro _) | ((first | apply p_ | apply JO_yes | apply GC_t); exact z_) | (apply n_; exact z_) | (apply GC_f; exact z_) | (apply GX_block_on; exact z_) | (apply c_; exact z_; all_goals intro _))
        refine GC_loop (α := Nat) (fun s => n - s) (fun s => [(0, pt pw), (1, v), (5, .slice (some ⟨bo, 0, none⟩) n n), (6, pt p6), (7, .int .i64 ((0 : Nat) : Int)), (9, pt p9), (20, tv), (21, .int .i64 (rows.length : Int)), (22, .int .i64 ((0 : Nat) : Int)), (40, .int .i64 (n : Int)), (41, .int .i64 (s : Int))]) (fun _ => R)
          (fun s => (p9, .cells (encA 3 (T (nth rows 0))).toArray 195) :: (p6, .cells (encA 3 (T (nth rows 0))).toArray 195) :: (r, o') :: (bo, .cells ((bS n L 0 s).flatMap encR).toArray 59) :: H) (fun s => s ≤ n) 0 ⟨rfl, rfl, rfl, rfl, rfl, rfl, rfl, rfl, rfl, rfl, rfl, trivial⟩ (Nat.zero_le _) (fun w hw => hw.weak (fun r h => h) ((List.Sublist.cons _ (List.Sublist.refl _)).cons_cons _)) ?_
        intro i hi
        by_cases hli : i < n
        · have lb : i < (bS n L 0 i).length := by rw [bS_len]; exact hli
          have hsome : (bS n L 0 i)[i]? = some (bE (L i) 0) := by rw [nth_some lb, bS_nth hli, if_neg (Nat.lt_irrefl i)]
          have hsucc := bE_succ (L := L i) (k := 0) (by rw [lL]; exact hlt)
          rw [eL i 0 hlt, if_pos rfl, if_pos rfl] at hsucc
          repeat' (first | apply s_ | ((first | apply JO_ob | apply GD_ex | apply GL_ex); exact rfl; first | exact ob1 | exact Ob_index_row rfl rfl hli | exact Ob_indexa rfl rfl (by omega) | exact Ob_load_a rfl mem_ (by omega) | exact Ob_sliceA rfl) | (apply pA_; exact zA_) | ((first | apply b_ | apply a_ | apply i_); exact z_; intro _) | ((first | apply p_ | apply JO_yes | apply GC_t); exact z_) | (apply n_; exact z_) | (apply GC_f; exact z_) | (apply GX_block_on; exact z_) | refine GC_drawA (id := 13) [0, 1, 2, 3, 4, 5, 6, 7, 8, 9] [10] (by kernel_rfl) ?_ | refine GC_drawA (id := 14) [0, 1, 2, 3, 4, 5, 6, 7, 8, 9, 10] [11] (by kernel_rfl) ?_ | ((first | apply GD_at | apply GL_at | apply GD_no | apply GL_no); exact rfl) | apply DFin_0 | (apply q1_; exact z_) | (apply q0_; exact z_) | (apply q2_; exact z_) | (apply c_; exact z_; all_goals intro _) | (apply g_; exact z_; all_goals intro _))
          refine JO_store_r (m := 2) (sz := 2) (k := 0) (enc := encR) (j := 3) (xs := bS n L 0 i) (a := bE (L i) 0) (a' := (nth (T (nth rows 0)) i, nth (T (nth rows 0)) i)) (fun _ => rfl) rfl rfl rfl inferInstance rfl hsome (Nat.le_refl _) rfl ?_
          repeat' (first | apply s_ | ((first | apply JO_ob | apply GD_ex | apply GL_ex); exact rfl; first | exact ob1 | exact Ob_index_row rfl rfl hli | exact Ob_loads_r (enc := encR) (sz := 2) (i := i) (k := 0) (vs := [.int .i64 (nth (T (nth rows 0)) i), .int .i64 (nth (T (nth rows 0)) i)]) (fun _ => rfl) rfl (.tail _ (.tail _ (.tail _ (.head _)))) (by rw [List.getElem?_set_self lb]) (Nat.le_refl _) rfl rfl | exact Ob_call rfl (fun w5 hw5 => c126 _ _ _ w5) | exact Ob_indexa rfl rfl (by omega) | exact Ob_load_a rfl mem_ (by omega) | exact Ob_sliceA rfl) | (apply pA_; exact zA_) | ((first | apply b_ | apply a_ | apply i_); exact z_; intro _) | ((first | apply p_ | apply JO_yes | apply GC_t); exact z_) | (apply n_; exact z_) | (apply GC_f; exact z_) | (apply GX_block_on; exact z_) | refine GC_drawA (id := 13) [0, 1, 2, 3, 4, 5, 6, 7, 8, 9] [10] (by kernel_rfl) ?_ | refine GC_drawA (id := 14) [0, 1, 2, 3, 4, 5, 6, 7, 8, 9, 10] [11] (by kernel_rfl) ?_ | ((first | apply GD_at | apply GL_at | apply GD_no | apply GL_no); exact rfl) | apply DFin_0 | (apply q1_; exact z_) | (apply q0_; exact z_) | (apply q2_; exact z_) | (apply c_; exact z_; all_goals intro _) | (apply g_; exact z_; all_goals intro _))
          refine JO_store_r (m := 2) (sz := 2) (k := 0) (enc := encR) (j := 3) (xs := (bS n L 0 i).set i (nth (T (nth rows 0)) i, nth (T (nth rows 0)) i)) (a := (nth (T (nth rows 0)) i, nth (T (nth rows 0)) i)) (a' := bE (L i) (0 + 1)) (fun _ => rfl) rfl rfl rfl inferInstance rfl (by rw [List.getElem?_set_self lb]) (Nat.le_refl _) (by rw [hsucc]; rfl) ?_
          rw [List.set_set, bS_step hli]
          repeat' (first | apply s_ | ((first | apply JO_ob | apply GD_ex | apply GL_ex); exact rfl; first | exact ob1 | exact Ob_indexa rfl rfl (by omega) | exact Ob_load_a rfl mem_ (by omega) | exact Ob_sliceA rfl) | (apply pA_; exact zA_) | ((first | apply b_ | apply a_ | apply i_); exact z_; intro _) | ((first | apply p_ | apply JO_yes | apply GC_t); exact z_) | (apply n_; exact z_) | (apply GC_f; exact z_) | (apply GX_block_on; exact z_) | refine GC_drawA (id := 13) [0, 1, 2, 3, 4, 5, 6, 7, 8, 9] [10] (by kernel_rfl) ?_ | refine GC_drawA (id := 14) [0, 1, 2, 3, 4, 5, 6, 7, 8, 9, 10] [11] (by kernel_rfl) ?_ | ((first | apply GD_at | apply GL_at | apply GD_no | apply GL_no); exact rfl) | apply DFin_0 | (apply q1_; exact z_) | (apply q0_; exact z_) | (apply q2_; exact z_) | (apply c_; exact z_; all_goals intro _) | (apply g_; exact z_; all_goals intro _))
          exact GX_loop (i + 1) ⟨rfl, rfl, rfl, rfl, rfl, rfl, rfl, rfl, rfl, rfl, rfl, trivial⟩ (by omega) (by omega) fun w hw => hw
        · have hie : i = n := by omega
          rw [hie, bS_next]
          repeat' (first | apply s_ | (apply JO_ob; exact rfl; first | exact ob1 | exact Ob_indexa rfl rfl (by omega) | exact Ob_load_a rfl mem_ (by omega) | exact Ob_sliceA rfl) | (apply pA_; exact zA_) | ((first | apply b_ | apply a_ | apply i_); exact z_; intro _) | ((first | apply p_ | apply JO_yes | apply GC_t); exact z_) | (apply n_; exact z_) | (apply GC_f; exact z_) | (apply GX_block_on; exact z_) | (apply c_; exact z_; all_goals intro _))
          exact GX_loop (0 + 1, o', T (nth rows 0)) ⟨rfl, rfl, rfl, rfl, rfl, rfl, rfl, trivial⟩ (by simp only; omega) ⟨by simp only; omega, ho', lT _, fun _ => rfl⟩ fun w hw => hw.weak (fun r h => h) (List.Sublist.cons _ (List.Sublist.refl _))
      · have hla' := hla h0
        repeat' (first | apply s_ | (apply JO_ob; exact rfl; first | exact ob1 | exact Ob_eqA rfl rfl (lT _) hla3 | exact Ob_indexa rfl rfl (by omega) | exact Ob_load_a rfl mem_ (by omega) | exact Ob_sliceA rfl) | (apply pA_; exact zA_) | ((first | apply b_ | apply a_ | apply i_); exact z_; intro _) | ((first | apply p_ | apply JO_yes | apply GC_t); exact z_) | (apply n_; exact z_) | (apply GC_f; exact z_) | (apply GX_block_on; exact z_) | (apply c_; exact z_; all_goals intro _))
        cases heq : decide (T (nth rows q) = la)
        · repeat' (first | apply s_ | (apply JO_ob; exact rfl; first | exact ob1 | exact Ob_eqA rfl rfl (lT _) hla3 | exact Ob_indexa rfl rfl (by omega) | exact Ob_load_a rfl mem_ (by omega) | exact Ob_sliceA rfl) | (apply pA_; exact zA_) | ((first | apply b_ | apply a_ | apply i_); exact z_; intro _) | ((first | apply p_ | apply JO_yes | apply GC_t); exact z_) | (apply n_; exact z_) | (apply GC_f; exact z_) | (apply GX_block_on; exact z_) | (apply c_; exact z_; all_goals intro _))
          refine GC_loop (α := Nat) (fun s => n - s) (fun s => [(0, pt pw), (1, v), (5, .slice (some ⟨bo, 0, none⟩) n n), (6, pt p6), (7, .int .i64 (q : Int)), (9, pt p9), (20, tv), (21, .int .i64 (rows.length : Int)), (22, .int .i64 (q : Int)), (40, .int .i64 (n : Int)), (41, .int .i64 (s : Int))]) (fun _ => R)
            (fun s => (p9, .cells (encA 3 (T (nth rows q))).toArray 195) :: (p6, .cells (encA 3 (T (nth rows q))).toArray 195) :: (r, o') :: (bo, .cells ((bS n L q s).flatMap encR).toArray 59) :: H) (fun s => s ≤ n) 0 ⟨rfl, rfl, rfl, rfl, rfl, rfl, rfl, rfl, rfl, rfl, rfl, trivial⟩ (Nat.zero_le _) (fun w hw => hw.weak (fun r h => h) ((List.Sublist.cons _ (List.Sublist.refl _)).cons_cons _)) ?_
          intro i hi
          by_cases hli : i < n
          · have lb : i < (bS n L q i).length := by rw [bS_len]; exact hli
            have hsome : (bS n L q i)[i]? = some (bE (L i) q) := by rw [nth_some lb, bS_nth hli, if_neg (Nat.lt_irrefl i)]
            have hsucc := bE_succ (L := L i) (k := q) (by rw [lL]; exact hlt)
            rw [eL i q hlt, if_neg h0, if_neg h0] at hsucc
            repeat' (first | apply s_ | ((first | apply JO_ob | apply GD_ex | apply GL_ex); exact rfl; first | exact ob1 | exact Ob_index_row rfl rfl hli | exact Ob_loads_r (enc := encR) (sz := 2) (i := i) (k := 0) (vs := [.int .i64 (bE (L i) q).1, .int .i64 (bE (L i) q).2]) (fun _ => rfl) rfl (.tail _ (.tail _ (.tail _ (.head _)))) hsome (Nat.le_refl _) rfl rfl | exact Ob_call rfl (fun w5 hw5 => c126 _ _ _ w5) | exact Ob_indexa rfl rfl (by omega) | exact Ob_load_a rfl mem_ (by omega) | exact Ob_sliceA rfl) | (apply pA_; exact zA_) | ((first | apply b_ | apply a_ | apply i_); exact z_; intro _) | ((first | apply p_ | apply JO_yes | apply GC_t); exact z_) | (apply n_; exact z_) | (apply GC_f; exact z_) | (apply GX_block_on; exact z_) | refine GC_drawA (id := 13) [0, 1, 2, 3, 4, 5, 6, 7, 8, 9] [10] (by kernel_rfl) ?_ | refine GC_drawA (id := 14) [0, 1, 2, 3, 4, 5, 6, 7, 8, 9, 10] [11] (by kernel_rfl) ?_ | ((first | apply GD_at | apply GL_at | apply GD_no | apply GL_no); exact rfl) | apply DFin_0 | (apply q1_; exact z_) | (apply q0_; exact z_) | (apply q2_; exact z_) | (apply c_; exact z_; all_goals intro _) | (apply g_; exact z_; all_goals intro _))
            refine JO_store_r (m := 2) (sz := 2) (k := 0) (enc := encR) (j := 3) (xs := bS n L q i) (a := bE (L i) q) (a' := bE (L i) (q + 1)) (fun _ => rfl) rfl rfl rfl inferInstance rfl hsome (Nat.le_refl _) (by rw [hsucc]; rfl) ?_
            rw [bS_step hli]
            repeat' (first | apply s_ | ((first | apply JO_ob | apply GD_ex | apply GL_ex); exact rfl; first | exact ob1 | exact Ob_indexa rfl rfl (by omega) | exact Ob_load_a rfl mem_ (by omega) | exact Ob_sliceA rfl) | (apply pA_; exact zA_) | ((first | apply b_ | apply a_ | apply i_); exact z_; intro _) | ((first | apply p_ | apply JO_yes | apply GC_t); exact z_) | (apply n_; exact z_) | (apply GC_f; exact z_) | (apply GX_block_on; exact z_) | refine GC_drawA (id := 13) [0, 1, 2, 3, 4, 5, 6, 7, 8, 9] [10] (by kernel_rfl) ?_ | refine GC_drawA (id := 14) [0, 1, 2, 3, 4, 5, 6, 7, 8, 9, 10] [11] (by kernel_rfl) ?_ | ((first | apply GD_at | apply GL_at | apply GD_no | apply GL_no); exact rfl) | apply DFin_0 | (apply q1_; exact z_) | (apply q0_; exact z_) | (apply q2_; exact z_) | (apply c_; exact z_; all_goals intro _) | (apply g_; exact z_; all_goals intro _))
            exact GX_loop (i + 1) ⟨rfl, rfl, rfl, rfl, rfl, rfl, rfl, rfl, rfl, rfl, rfl, trivial⟩ (by omega) (by omega) fun w hw => hw
          · have hie : i = n := by omega
            rw [hie, bS_next]
            repeat' (first | apply s_ | (apply JO_ob; exact rfl; first | exact ob1 | exact Ob_indexa rfl rfl (by omega) | exact Ob_load_a rfl mem_ (by omega) | exact Ob_sliceA rfl) | (apply pA_; exact zA_) | ((first | apply b_ | apply a_ | apply i_); exact z_; intro _) | ((first | apply p_ | apply JO_yes | apply GC_t); exact z_) | (apply n_; exact z_) | (apply GC_f; exact z_) | (apply GX_block_on; exact z_) | (apply c_; exact z_; all_goals intro _))
            exact GX_loop (q + 1, o', T (nth rows q)) ⟨rfl, rfl, rfl, rfl, rfl, rfl, rfl, trivial⟩ (by simp only; omega) ⟨by simp only; omega, ho', lT _, fun _ => rfl⟩ fun w hw => hw.weak (fun r h => h) (List.Sublist.cons _ (List.Sublist.refl _))
        · have heq2 := of_decide_eq_true heq
          have hbs : bS n L q 0 = bS n L (q + 1) 0 := by
            simp only [bS, List.map_inj_left, List.mem_range]
            intro j hj
            rw [if_neg (Nat.not_lt_zero j), if_neg (Nat.not_lt_zero j)]
            have h5 := bE_in (L := L j) (k := q) (q := q - 1) (by omega) (by rw [lL]; omega)
            have h6 := bE_succ (L := L j) (k := q) (by rw [lL]; exact hlt)
            rw [if_neg h0, if_neg h0, eL j q hlt, heq2, hla', ← eL j (q - 1) (by omega)] at h6
            rw [h6]
            refine Prod.ext ?_ ?_
            · simp only; omega
            · simp only; omega
          rw [hbs]
          repeat' (first | apply s_ | (apply JO_ob; exact rfl; first | exact ob1 | exact Ob_indexa rfl rfl (by omega) | exact Ob_load_a rfl mem_ (by omega) | exact Ob_sliceA rfl) | (apply pA_; exact zA_) | ((first | apply b_ | apply a_ | apply i_); exact z_; intro _) | ((first | apply p_ | apply JO_yes | apply GC_t); exact z_) | (apply n_; exact z_) | (apply GC_f; exact z_) | (apply GX_block_on; exact z_) | (apply c_; exact z_; all_goals intro _))
          exact GX_loop (q + 1, o', la) ⟨rfl, rfl, rfl, rfl, rfl, rfl, rfl, trivial⟩ (by simp only; omega) ⟨by simp only; omega, ho', hla3, fun _ => heq2.symm⟩ fun w hw => hw.weak (fun r h => h) (List.Sublist.cons _ (List.Sublist.cons _ (List.Sublist.refl _)))
  · have hqe : q = rows.length := by omega
    subst hqe
    have hres : bS n L rows.length 0 = bnds n fun i => rows.map fun t => atV (fun i => (hoursR k.force (nth t i) : Int)) l i := by
      simp only [bS, bnds, List.map_inj_left, List.mem_range]
      intro j hj
      have eLj : L j = rows.map fun t => atV (fun i => (hoursR k.force (nth t i) : Int)) l j := by
        simp only [L, T]
        exact List.map_congr_left fun t _ => T3_nth h3 hj
      rw [if_neg (Nat.not_lt_zero j), bE, if_neg (by omega), List.take_of_length_le (by rw [lL]; exact Nat.le_refl _), ← eLj]
      refine hull_from (nth_mem (by rw [lL]; exact hne)) fun x hx => ?_
      rw [eLj] at hx
      simp only [List.mem_map] at hx
      obtain ⟨t, ht, rfl⟩ := hx
      have h5 := atN_bd (hr := fun i => (hoursR k.force (nth t i) : Int)) (l := l) (M := 901) (by omega) (nth l j) (j + 1) (fun i hi => by
        have h7 := hrows t ht i (by omega)
        have h6 := hours_le hf.1 h7 1000 0 (by omega) (by omega)
        simp only [hoursR]; omega)
      have h8 : ((j + 1 : Nat) : Int) * 901 ≤ 3 * 901 := Int.mul_le_mul_of_nonneg_right (by omega) (by omega)
      simp only [atV]; omega
    rw [hres]
    repeat' (first | apply s_ | (apply JO_ob; exact rfl; first | exact ob1 | exact Ob_indexa rfl rfl (by omega) | exact Ob_load_a rfl mem_ (by omega) | exact Ob_sliceA rfl) | (apply pA_; exact zA_) | ((first | apply b_ | apply a_ | apply i_); exact z_; intro _) | ((first | apply p_ | apply JO_yes | apply GC_t); exact z_) | (apply n_; exact z_) | (apply GC_f; exact z_) | (apply GX_block_on; exact z_) | (apply c_; exact z_; all_goals intro _))
    refine GX_ret1 rfl rfl fun w' hw' => ?_
    have lb : (bnds n fun i => rows.map fun t => atV (fun i => (hoursR k.force (nth t i) : Int)) l i).length = n := by simp [bnds]
    obtain ⟨g1, g2, g3⟩ := (hw'.perm (List.perm_middle (l₁ := [_, _]))).retLit (enc := encR) (sz := 2) (fun _ => rfl) (by rw [lb]; omega) hm
    rw [lb] at g2
    exact ⟨(oq, _, _), ⟨hoq, fun b hb => by rw [hb]; exact g3, g2⟩, fun q hq => .tail _ hq, g1.weak (fun r h => h) (List.Sublist.cons _ (List.Sublist.refl _))⟩
end
end Go.Proofs.YtkbaaikidhbfmaaGreat
/- Contracts: the program's Play and Late, and the ending of a plan. No statement is proved here. -/
set_option linter.unusedVariables false
set_option linter.unusedSimpArgs false
namespace Go.Proofs.YtkbaaikidhbfmaaGreat
open Go.RowKit
theorem atN_congr {h1 h2 : Nat → Int} {l : List Int} {v : Int} : ∀ n, (∀ i, i < n → h1 i = h2 i) → atN h1 l v n = atN h2 l v n
  | 0, _ => rfl
  | n + 1, h => by simp only [atN]; rw [atN_congr n fun i hi => h i (by omega), h n (by omega)]
/-- When a vat is pressed by a plan, in two truths. -/
def atP (k : Wk) (l : List Int) (p : List Int × Crs) (i : Nat) : Int := atV (fun j => (hoursR k.force (mudR k p.1 p.2 (j : Int)) : Int)) l i
/-- The bounds of when all vats are pressed. -/
def timesV (k : Wk) (l : List Int) : List Rg := bnds k.yard.vats.length fun i => (pairs k).map fun p => atP k l p i
theorem timesV_len (k : Wk) (l : List Int) : (timesV k l).length = k.yard.vats.length := by simp [timesV, bnds]
theorem timesV_rows {k : Wk} (h : OkK k) {rows : List (List Int)} (hT : MudT k.yard.vats.length ((truthsX k.yard).map (blueRow k.yard)) ((truthsW k.beat).map fun l => lossRow k.beat (toC l) k.ends) rows) (l : List Int) :
    bnds k.yard.vats.length (fun i => rows.map fun t => atV (fun i => (hoursR k.force (nth t i) : Int)) l i) = timesV k l := by
  obtain ⟨h1, h2⟩ := mudT_mem h hT
  simp only [bnds, timesV, List.map_inj_left, List.mem_range]
  intro i hi
  refine hull_eq fun x => ?_
  simp only [List.mem_map]
  constructor
  · rintro ⟨t, ht, rfl⟩
    obtain ⟨p, hp, e⟩ := h1 t ht
    exact ⟨p, hp, by simp only [atP, atV]; exact atN_congr _ fun j hj => by rw [e j (by omega)]⟩
  · rintro ⟨p, hp, rfl⟩
    obtain ⟨t, ht, e⟩ := h2 p hp
    exact ⟨t, ht, by simp only [atP, atV]; exact atN_congr _ fun j hj => by rw [e j (by omega)]⟩
theorem atP_bd {k : Wk} (h : OkK k) (l : List Int) {p : List Int × Crs} (hp : p ∈ pairs k) {i : Nat} (hi : i < k.yard.vats.length) : 0 ≤ atP k l p i ∧ atP k l p i ≤ 2703 := by
  have h3 := h.v3
  have h5 := atN_bd (hr := fun j => (hoursR k.force (mudR k p.1 p.2 (j : Int)) : Int)) (l := l) (M := 901) (by omega) (nth l i) (i + 1) (fun j hj => by
    have h7 := mudR_bd h hp (i := j) (by omega)
    have h6 := hours_le h.force.1 h7 1000 0 (by omega) (by omega)
    simp only [hoursR]; omega)
  have h8 : ((i + 1 : Nat) : Int) * 901 ≤ 3 * 901 := Int.mul_le_mul_of_nonneg_right (by omega) (by omega)
  simp only [atP, atV]; omega
theorem timesV_bd {k : Wk} (h : OkK k) (l : List Int) {i : Nat} (hi : i < k.yard.vats.length) : 0 ≤ (nth (timesV k l) i).1 ∧ (nth (timesV k l) i).1 ≤ (nth (timesV k l) i).2 ∧ (nth (timesV k l) i).2 ≤ 2703 := by
  rw [timesV, bnds_nth hi]
  have hb : ∀ x ∈ (pairs k).map (fun p => atP k l p i), 0 ≤ x ∧ x ≤ 2703 := fun x hx => by
    obtain ⟨p, hp, rfl⟩ := List.mem_map.1 hx
    exact atP_bd h l hp hi
  obtain ⟨h1, h2⟩ := hull_ends (l := (pairs k).map fun p => atP k l p i) (by simp [pairs_ne h]) (fun x hx => by have := hb x hx; omega)
  have h3 := hb _ h1
  have h4 := hb _ h2
  have h5 := (hull_in h1).2
  omega
/-- The ending of a plan. -/
def endR (rs : List Rg) : Int := rs.foldl (fun n r => max n r.2) 0
def endV (k : Wk) (l : List Int) : Int := endR (timesV k l)
theorem endR_bd : ∀ (rs : List Rg) (n : Int), 0 ≤ n → n ≤ 2703 → (∀ r ∈ rs, r.2 ≤ 2703) → 0 ≤ rs.foldl (fun n r => max n r.2) n ∧ rs.foldl (fun n r => max n r.2) n ≤ 2703
  | [], n, h0, h1, _ => ⟨h0, h1⟩
  | r :: rs, n, h0, h1, h => by
    have h2 := h r (List.mem_cons_self ..)
    exact endR_bd rs (max n r.2) (by omega) (by omega) fun q hq => h q (List.mem_cons_of_mem _ hq)
theorem endV_bd {k : Wk} (h : OkK k) (l : List Int) : 0 ≤ endV k l ∧ endV k l ≤ 2703 := by
  refine endR_bd _ 0 (by omega) (by omega) fun r hr => ?_
  obtain ⟨i, hi⟩ := List.getElem?_of_mem hr
  have hlt := (List.getElem?_eq_some_iff.1 hi).1
  have e : nth (timesV k l) i = r := by simp [nth, hi]
  rw [← e]
  exact (timesV_bd h l (by rw [timesV_len] at hlt; exact hlt)).2.2
theorem planP_bd {k : Wk} (h : OkK k) {l : List Int} (hp : planP k l = true) : l.length = k.yard.vats.length ∧ ∀ i, i < k.yard.vats.length → 0 ≤ nth l i ∧ nth l i ≤ 3 := by
  rw [planP_eq h.boxes] at hp
  simp only [isPlan, Bool.and_eq_true, decide_eq_true_eq] at hp
  have hb := h.boxes
  refine ⟨hp.2, fun i hi => ?_⟩
  have := of_decide_eq_true (all_nth.1 hp.1 i (by omega))
  omega
section
variable {w : World} {a b c d e f : Value} {hs : List Value} {k : Wk}
def PlayW (w : World) (k : Wk) (l : List Int) (v : Value) (w' : World) : Prop :=
  (fault9 k ≠ 0 ∧ v = .tuple #[.slice none 0 0, .int .i64 (fault9 k)]) ∨ (fault9 k = 0 ∧ planP k l = false ∧ v = .tuple #[.slice none 0 0, .int .i64 2]) ∨ (fault9 k = 0 ∧ planP k l = true ∧ ∃ u, v = .tuple #[u, .int .i64 0] ∧ Arr (New w) w' 2 encR u (timesV k l))
set_option maxHeartbeats 2000000 in
theorem c33 (h : WkA All w a b c hs d e f k) {pv : Value} {l : List Int} (hl : Arr All w 1 encI pv l) : Rt 33 [wkV a b c d e f k, pv] w fun v w' => Keep w w' ∧ PlayW w k l v w' := by
  have i1 := h.yard.fields.v1
  have i2 := h.yard.vats.arr.v1
  have i3 := h.yard.smps.v1
  have i4 := h.beat.vats.v1
  have i5 := h.beat.smps.v1
  have i6 := h.ends.v1
  have i7 := hl.v1
  refine Rt_of Tryz.func33 rfl Tryz.ntmps33 rfl ?_
  repeat' (first | apply s_ | ((first | apply JO_ob | apply GD_ex | apply GL_ex); exact rfl; first | exact ob1 | exact Ob_call rfl (fun w5 hw5 => c89 (hw5.wk mem_ h) (hw5.arr mem_ hl))) | ((first | apply b_ | apply a_ | apply i_); exact z_; intro _) | ((first | apply p_ | apply JO_yes | apply GC_t); exact z_) | (apply n_; exact z_) | (apply GC_f; exact z_) | (apply GX_block_on; exact z_) | refine GC_drawA (id := 1) [0, 1, 2, 3] [4, 5, 6, 7, 8, 9] (by kernel_rfl) ?_ | ((first | apply GD_at | apply GL_at | apply GD_no | apply GL_no); exact rfl) | apply DFin_0 | (apply q1_; exact z_) | (apply q0_; exact z_) | (apply q2_; exact z_) | (apply c_; exact z_; all_goals intro _) | (apply g_; exact z_; all_goals intro _))
  rename_i p2
  refine JO_asked (hs := hs) rfl rfl (.head _) h (fun hf => ?_) (fun hf hq => ?_) (fun hf hq pw tv r rows u0 u1 hb0 hpr hpw hT hMT => ?_)
  · repeat' (first | apply s_ | ((first | apply JO_ob | apply GD_ex | apply GL_ex); exact rfl; first | exact ob1) | ((first | apply b_ | apply a_ | apply i_); exact z_; intro _) | ((first | apply p_ | apply JO_yes | apply GC_t); exact z_) | (apply n_; exact z_) | (apply GC_f; exact z_) | (apply GX_block_on; exact z_) | refine GC_drawA (id := 1) [0, 1, 2, 3] [4, 5, 6, 7, 8, 9] (by kernel_rfl) ?_ | ((first | apply GD_at | apply GL_at | apply GD_no | apply GL_no); exact rfl) | apply DFin_0 | (apply q1_; exact z_) | (apply q0_; exact z_) | (apply q2_; exact z_) | (apply c_; exact z_; all_goals intro _) | (apply g_; exact z_; all_goals intro _))
    all_goals exact GX_ret2 rfl rfl rfl fun w' hw' => ⟨hw'.kp mem_, .inl ⟨hf, rfl⟩⟩
  · repeat' (first | apply s_ | ((first | apply JO_ob | apply GD_ex | apply GL_ex); exact rfl; first | exact ob1) | ((first | apply b_ | apply a_ | apply i_); exact z_; intro _) | ((first | apply p_ | apply JO_yes | apply GC_t); exact z_) | (apply n_; exact z_) | (apply GC_f; exact z_) | (apply GX_block_on; exact z_) | refine GC_drawA (id := 1) [0, 1, 2, 3] [4, 5, 6, 7, 8, 9] (by kernel_rfl) ?_ | ((first | apply GD_at | apply GL_at | apply GD_no | apply GL_no); exact rfl) | apply DFin_0 | (apply q1_; exact z_) | (apply q0_; exact z_) | (apply q2_; exact z_) | (apply c_; exact z_; all_goals intro _) | (apply g_; exact z_; all_goals intro _))
    all_goals exact GX_ret2 rfl rfl rfl fun w' hw' => ⟨hw'.kp mem_, .inr (.inl ⟨hf, hq, rfl⟩)⟩
  · have hK := okK_of hf
    obtain ⟨hne, hrb⟩ := rows_bd hK hMT
    obtain ⟨hln, hlb⟩ := planP_bd hK hq
    have iT := hT.v1
    repeat' (first | apply s_ | ((first | apply JO_ob | apply GD_ex | apply GL_ex); exact rfl; first | exact ob1 | exact Ob_indexa rfl rfl (by omega) | exact Ob_load_a rfl mem_ (by omega) | exact Ob_sliceA rfl) | (apply pA_; exact zA_) | ((first | apply b_ | apply a_ | apply i_); exact z_; intro _) | ((first | apply p_ | apply JO_yes | apply GC_t); exact z_) | (apply n_; exact z_) | (apply GC_f; exact z_) | (apply GX_block_on; exact z_) | refine GC_drawA (id := 1) [0, 1, 2, 3] [4, 5, 6, 7, 8, 9] (by kernel_rfl) ?_ | ((first | apply GD_at | apply GL_at | apply GD_no | apply GL_no); exact rfl) | apply DFin_0 | (apply q1_; exact z_) | (apply q0_; exact z_) | (apply q2_; exact z_) | (apply c_; exact z_; all_goals intro _) | (apply g_; exact z_; all_goals intro _))
    all_goals
      refine JO_callS (β := Obj × (Nat → Prop) × World) (S := fun s v => HrsOK k.force s.1 ∧ (∀ b, s.2.1 b → w.heap.size ≤ b) ∧ Arr s.2.1 s.2.2 2 encR v (bnds k.yard.vats.length fun i => rows.map fun t => atV (fun i => (hoursR k.force (nth t i) : Int)) l i)) (R' := fun s => (s.2.1, s.2.2) :: [(fun b => u0.heap.size ≤ b ∧ b ≠ r, u1), ((fun _ => True), w)]) (H' := fun s => (r, s.1) :: [(p2, .cells (wkC a b c d e f k).toArray 52)]) rfl rfl (fun w5 hw5 => ?_) ?_
      · exact c90 (.tail _ (.head _)) h (.head _) hpr hpw (.head _) hT hne hK.v3 hrb hK.force (.tail _ (.head _)) hl hln hlb _ _ w5 hw5 (HrsOK.empty _)
      · rintro ⟨o', G', w9⟩ u ⟨g1, g2, g3⟩
        simp only at g1 g2 g3 ⊢
        have iu := g3.v1
        repeat' (first | apply s_ | (apply JO_ob; exact rfl; first | exact ob1 | exact Ob_indexa rfl rfl (by omega) | exact Ob_load_a rfl mem_ (by omega) | exact Ob_sliceA rfl) | (apply pA_; exact zA_) | ((first | apply b_ | apply a_ | apply i_); exact z_; intro _) | ((first | apply p_ | apply JO_yes | apply GC_t); exact z_) | (apply n_; exact z_) | (apply GC_f; exact z_) | (apply GX_block_on; exact z_) | (apply c_; exact z_; all_goals intro _))
        refine GX_ret2 rfl rfl rfl fun w' hw' => ⟨hw'.kp mem_, .inr (.inr ⟨hf, hq, u, rfl, ?_⟩)⟩
        rw [← timesV_rows hK hMT]
        exact (hw'.arr (.head _) g3).weaken fun b hb _ => g2 b hb
end
end Go.Proofs.YtkbaaikidhbfmaaGreat
/- Contracts: the reference of the layer 9, bounds of muds, hours, cakes, times. No statement is proved here. -/
set_option linter.unusedVariables false
set_option linter.unusedSimpArgs false
namespace Go.Proofs.YtkbaaikidhbfmaaGreat
open Go.RowKit
/-- Any two truths that can be asked of works. -/
def PsOk (k : Wk) (ps : List (List Int × Crs)) : Prop := ∀ j, j < ps.length → (nth ps j).1.length = k.yard.fields.length ∧ Bd 20 (nth ps j).1 ∧ InC k.beat (nth ps j).2
theorem SH.pn {G : Nat → Prop} {b0 : World} {R : Rgs} {H : Hp} {w w1 : World} {v : Value} {es : List (Value × Int × Value)} {ps : List (List Int × Crs)} (hw : SH b0 R H w) (hr : (G, w1) ∈ R) (h : PNest G w1 v es ps) : PNest G w v es ps :=
  ⟨h.len, hw.arr hr h.arr, fun i hi => ⟨hw.arr hr (h.row i hi).1, (h.row i hi).2.1, hw.arr hr (h.row i hi).2.2⟩⟩
theorem OkK.w {k : Wk} (h : OkK k) : OkW k := ⟨h.y, h.b, h.len, h.ends⟩
theorem psOk_pairs {k : Wk} (h : OkK k) : PsOk k (pairs k) := fun j hj => by
  have hm := nth_mem hj
  generalize nth (pairs k) j = p at hm ⊢
  simp only [pairs, prod, List.mem_flatMap, List.mem_map] at hm
  obtain ⟨b0, hb0, c0, hc0, rfl⟩ := hm
  obtain ⟨l0, hl0, rfl⟩ := (mem_truths3 h.b).1 hc0
  obtain ⟨g1, g2⟩ := InL_bd h.y.f (mem_lex.1 (List.mem_filter.1 ((mem_truths1 h.y.f h.m1).1 hb0)).1)
  exact ⟨g2, g1, InC_of (mem_lex.1 (List.mem_filter.1 hl0).1)⟩
theorem hull_take {α : Type} [Inhabited α] {ps : List α} (g : α → Int) {i : Nat} (hi : i < ps.length) : hull ((ps.map g).take (i + 1)) = (min (hull ((ps.map g).take i)).1 (g (nth ps i)), max (hull ((ps.map g).take i)).2 (g (nth ps i))) := by
  rw [take_snoc (by simpa using hi), hull_snoc, nth_map _ hi]
theorem hull_nil : hull [] = (1099511627776, -1) := rfl
section
variable {w : World} {a b c d e f v : Value} {hs : List Value} {k : Wk} {ps : List (List Int × Crs)} {es : List (Value × Int × Value)}
theorem c50e (h : WkA All w a b c hs d e f k) (ho : OkW k) (hP : PNest All w v es ps) (hp : PsOk k ps) {i : Nat} (hi : i < ps.length) (vat : Nat) (hv : vat < k.yard.vats.length) :
    Ex 50 [wkV a b c d e f k, .agg #[(nth es i).1, .int .i64 (nth es i).2.1, (nth es i).2.2], .int .i64 (vat : Int)] w (.int .i64 (mudR k (nth ps i).1 (nth ps i).2 (vat : Int))) := by
  obtain ⟨g1, g2, g3⟩ := hP.row i hi
  obtain ⟨p1, p2, p3⟩ := hp i hi
  rw [g2]
  exact c50 w a b c hs d e f _ _ k _ _ _ h g1 g3 ho p1 p2 p3 (by omega) (by omega)
theorem mudW_bd (ho : OkW k) (hp : PsOk k ps) {i : Nat} (hi : i < ps.length) {vat : Nat} (hv : vat < k.yard.vats.length) : 0 ≤ mudR k (nth ps i).1 (nth ps i).2 (vat : Int) ∧ mudR k (nth ps i).1 (nth ps i).2 (vat : Int) ≤ 900 := by
  obtain ⟨p1, p2, p3⟩ := hp i hi
  have f5 := ho.y.f5
  have e1 := ho.y.v vat hv
  have e2 := ho.end_ hv
  have e3 := lostC_bd ho.b p3 (vat := (vat : Int)) (by omega) (by have := ho.len; omega) e2.2
  have e4 := dotN_bd p2 e1.2 (by omega) (nth ps i).1.length (Nat.le_refl _)
  have e5 : dotN (nth ps i).1 (nth k.yard.vats vat) (nth ps i).1.length = dot (nth ps i).1 (nth k.yard.vats vat) := rfl
  rw [e5] at e4
  simp only [mudR, Int.toNat_natCast]; omega
theorem c28 (h : WkA All w a b c hs d e f k) (ho : OkW k) (hP : PNest All w v es ps) (hp : PsOk k ps) (vat : Nat) (hv : vat < k.yard.vats.length) :
    Ex 28 [wkV a b c d e f k, v, .int .i64 (vat : Int)] w (.agg (encR (hull (ps.map fun p => mudR k p.1 p.2 (vat : Int)))).toArray) := by
  have i1 := h.yard.fields.v1
  have i2 := h.yard.vats.arr.v1
  have i3 := h.yard.smps.v1
  have i4 := h.beat.vats.v1
  have i5 := h.beat.smps.v1
  have i6 := h.ends.v1
  have i7 := hP.arr.v1
  have ha := hP.arr
  have b1 := ha.bound
  have hl := hP.len
  let L := ps.map fun p => mudR k p.1 p.2 (vat : Int)
  refine Rt_of Tryz.func28 rfl Tryz.ntmps28 rfl ?_
  repeat' (first | apply s_ | ((first | apply JO_ob | apply GD_ex | apply GL_ex); exact rfl; first | exact ob1 | exact Ob_call rfl (fun w5 _ => c83 w5)) | ((first | apply b_ | apply a_ | apply i_); exact z_; intro _) | ((first | apply p_ | apply JO_yes | apply GC_t); exact z_) | (apply n_; exact z_) | (apply GC_f; exact z_) | (apply GX_block_on; exact z_) | refine GC_drawA (id := 5) [0, 1, 2, 3, 4, 5, 6, 7, 8] [9] (by kernel_rfl) ?_ | ((first | apply GD_at | apply GL_at | apply GD_no | apply GL_no); exact rfl) | apply DFin_0 | (apply q1_; exact z_) | (apply q0_; exact z_) | (apply q2_; exact z_) | (apply c_; exact z_; all_goals intro _) | (apply g_; exact z_; all_goals intro _))
  rename_i p3 p6 p7
  refine GC_loop (α := Nat) (fun i => ps.length - i) (fun i => [(3, pt p3), (6, pt p6), (7, pt p7), (1, v), (2, .int .i64 (vat : Int)), (8, .int .i64 (i : Int))]) (fun _ => [((fun _ => True), w)])
    (fun i => [(p7, .cells #[.int .i64 (hull (L.take i)).1, .int .i64 (hull (L.take i)).2] 61), (p6, .cells #[.int .i64 0, .int .i64 0] 61), (p3, .cells (wkC a b c d e f k).toArray 35)]) (fun i => i ≤ ps.length) 0 ⟨rfl, rfl, rfl, rfl, rfl, rfl, trivial⟩ (Nat.zero_le _) (fun w hw => hw) ?_
  intro i hi
  by_cases hlt : i < ps.length
  · have hle : i < es.length := by omega
    have g1 := (hP.row i hlt).1.v1
    have g2 := (hP.row i hlt).2.2.v1
    repeat' (first | apply s_ | ((first | apply JO_ob | apply GD_ex | apply GL_ex); exact rfl; first | exact ob1 | exact Ob_call rfl (fun w5 hw5 => c50e (hw5.wk (.head _) h) ho (hw5.pn (.head _) hP) hp hlt vat hv) | exact Ob_call rfl (fun w5 _ => c84 _ _ _ w5)) | ((first | apply b_ | apply a_ | apply i_); exact z_; intro _) | ((first | apply p_ | apply JO_yes | apply GC_t); exact z_) | (apply n_; exact z_) | (apply GC_f; exact z_) | (apply GX_block_on; exact z_) | refine GC_drawA (id := 5) [0, 1, 2, 3, 4, 5, 6, 7, 8] [9] (by kernel_rfl) ?_ | ((first | apply GD_at | apply GL_at | apply GD_no | apply GL_no); exact rfl) | apply DFin_0 | (apply q1_; exact z_) | (apply q0_; exact z_) | (apply q2_; exact z_) | (apply c_; exact z_; all_goals intro _) | (apply g_; exact z_; all_goals intro _))
    refine GX_loop (i + 1) ⟨rfl, rfl, rfl, rfl, rfl, rfl, trivial⟩ (by omega) (by omega) fun w5 hw5 => ?_
    have e9 : hull (L.take (i + 1)) = _ := hull_take (fun p : List Int × Crs => mudR k p.1 p.2 (vat : Int)) hlt
    rw [e9]
    exact hw5.weak (fun r h => h) (List.Sublist.refl _)
  · have e9 : L.take i = L := List.take_of_length_le (by simp only [L, List.length_map]; omega)
    rw [e9]
    repeat' (first | apply s_ | ((first | apply JO_ob | apply GD_ex | apply GL_ex); exact rfl; first | exact ob1) | ((first | apply b_ | apply a_ | apply i_); exact z_; intro _) | ((first | apply p_ | apply JO_yes | apply GC_t); exact z_) | (apply n_; exact z_) | (apply GC_f; exact z_) | (apply GX_block_on; exact z_) | refine GC_drawA (id := 5) [0, 1, 2, 3, 4, 5, 6, 7, 8] [9] (by kernel_rfl) ?_ | ((first | apply GD_at | apply GL_at | apply GD_no | apply GL_no); exact rfl) | apply DFin_0 | (apply q1_; exact z_) | (apply q0_; exact z_) | (apply q2_; exact z_) | (apply c_; exact z_; all_goals intro _) | (apply g_; exact z_; all_goals intro _))
    exact GX_exc rfl rfl mem_ rfl mem_ rfl
theorem c31 (h : WkA All w a b c hs d e f k) (ho : OkW k) (hF : 1 ≤ k.force ∧ k.force ≤ 9) (hP : PNest All w v es ps) (hp : PsOk k ps) (vat : Nat) (hv : vat < k.yard.vats.length) :
    Ex 31 [wkV a b c d e f k, v, .int .i64 (vat : Int)] w (.agg (encR (hull (ps.map fun p => (hoursR k.force (mudR k p.1 p.2 (vat : Int)) : Int)))).toArray) := by
  have i1 := h.yard.fields.v1
  have i2 := h.yard.vats.arr.v1
  have i3 := h.yard.smps.v1
  have i4 := h.beat.vats.v1
  have i5 := h.beat.smps.v1
  have i6 := h.ends.v1
  have i7 := hP.arr.v1
  have ha := hP.arr
  have b1 := ha.bound
  have hl := hP.len
  let L := ps.map fun p => (hoursR k.force (mudR k p.1 p.2 (vat : Int)) : Int)
  refine Rt_of Tryz.func31 rfl Tryz.ntmps31 rfl ?_
  repeat' (first | apply s_ | ((first | apply JO_ob | apply GD_ex | apply GL_ex); exact rfl; first | exact ob1 | exact Ob_call rfl (fun w5 _ => c83 w5)) | ((first | apply b_ | apply a_ | apply i_); exact z_; intro _) | ((first | apply p_ | apply JO_yes | apply GC_t); exact z_) | (apply n_; exact z_) | (apply GC_f; exact z_) | (apply GX_block_on; exact z_) | refine GC_drawA (id := 5) [0, 1, 2, 3, 4, 5, 6, 7, 8, 9, 10, 11] [12] (by kernel_rfl) ?_ | ((first | apply GD_at | apply GL_at | apply GD_no | apply GL_no); exact rfl) | apply DFin_0 | (apply q1_; exact z_) | (apply q0_; exact z_) | (apply q2_; exact z_) | (apply c_; exact z_; all_goals intro _) | (apply g_; exact z_; all_goals intro _))
  rename_i p3 p6 p7
  refine GC_loop (α := Nat) (fun i => ps.length - i) (fun i => [(3, pt p3), (6, pt p6), (7, pt p7), (1, v), (2, .int .i64 (vat : Int)), (8, .int .i64 (i : Int))]) (fun _ => [((fun _ => True), w)])
    (fun i => [(p7, .cells #[.int .i64 (hull (L.take i)).1, .int .i64 (hull (L.take i)).2] 61), (p6, .cells #[.int .i64 0, .int .i64 0] 61), (p3, .cells (wkC a b c d e f k).toArray 35)]) (fun i => i ≤ ps.length) 0 ⟨rfl, rfl, rfl, rfl, rfl, rfl, trivial⟩ (Nat.zero_le _) (fun w hw => hw) ?_
  intro i hi
  by_cases hlt : i < ps.length
  · have hle : i < es.length := by omega
    have mb := mudW_bd ho hp hlt hv
    have g1 := (hP.row i hlt).1.v1
    have g2 := (hP.row i hlt).2.2.v1
    repeat' (first | apply s_ | ((first | apply JO_ob | apply GD_ex | apply GL_ex); exact rfl; first | exact ob1 | exact Ob_call rfl (fun w5 hw5 => c50e (hw5.wk (.head _) h) ho (hw5.pn (.head _) hP) hp hlt vat hv) | exact Ob_call rfl (fun w5 hw5 => c87 w5 _ _ hF mb) | exact Ob_call rfl (fun w5 _ => c84 _ _ _ w5)) | ((first | apply b_ | apply a_ | apply i_); exact z_; intro _) | ((first | apply p_ | apply JO_yes | apply GC_t); exact z_) | (apply n_; exact z_) | (apply GC_f; exact z_) | (apply GX_block_on; exact z_) | refine GC_drawA (id := 5) [0, 1, 2, 3, 4, 5, 6, 7, 8, 9, 10, 11] [12] (by kernel_rfl) ?_ | ((first | apply GD_at | apply GL_at | apply GD_no | apply GL_no); exact rfl) | apply DFin_0 | (apply q1_; exact z_) | (apply q0_; exact z_) | (apply q2_; exact z_) | (apply c_; exact z_; all_goals intro _) | (apply g_; exact z_; all_goals intro _))
    refine GX_loop (i + 1) ⟨rfl, rfl, rfl, rfl, rfl, rfl, trivial⟩ (by omega) (by omega) fun w5 hw5 => ?_
    have e9 : hull (L.take (i + 1)) = _ := hull_take (fun p : List Int × Crs => (hoursR k.force (mudR k p.1 p.2 (vat : Int)) : Int)) hlt
    rw [e9]
    exact hw5.weak (fun r h => h) (List.Sublist.refl _)
  · have e9 : L.take i = L := List.take_of_length_le (by simp only [L, List.length_map]; omega)
    rw [e9]
    repeat' (first | apply s_ | ((first | apply JO_ob | apply GD_ex | apply GL_ex); exact rfl; first | exact ob1) | ((first | apply b_ | apply a_ | apply i_); exact z_; intro _) | ((first | apply p_ | apply JO_yes | apply GC_t); exact z_) | (apply n_; exact z_) | (apply GC_f; exact z_) | (apply GX_block_on; exact z_) | refine GC_drawA (id := 5) [0, 1, 2, 3, 4, 5, 6, 7, 8, 9, 10, 11] [12] (by kernel_rfl) ?_ | ((first | apply GD_at | apply GL_at | apply GD_no | apply GL_no); exact rfl) | apply DFin_0 | (apply q1_; exact z_) | (apply q0_; exact z_) | (apply q2_; exact z_) | (apply c_; exact z_; all_goals intro _) | (apply g_; exact z_; all_goals intro _))
    exact GX_exc rfl rfl mem_ rfl mem_ rfl
theorem c32 (h : WkA All w a b c hs d e f k) (ho : OkW k) (hF : 1 ≤ k.cake ∧ k.cake ≤ 50) (hP : PNest All w v es ps) (hp : PsOk k ps) (vat : Nat) (hv : vat < k.yard.vats.length) :
    Ex 32 [wkV a b c d e f k, v, .int .i64 (vat : Int)] w (.agg (encR (hull (ps.map fun p => mudR k p.1 p.2 (vat : Int) / k.cake))).toArray) := by
  have i1 := h.yard.fields.v1
  have i2 := h.yard.vats.arr.v1
  have i3 := h.yard.smps.v1
  have i4 := h.beat.vats.v1
  have i5 := h.beat.smps.v1
  have i6 := h.ends.v1
  have i7 := hP.arr.v1
  have ha := hP.arr
  have b1 := ha.bound
  have hl := hP.len
  let L := ps.map fun p => mudR k p.1 p.2 (vat : Int) / k.cake
  refine Rt_of Tryz.func32 rfl Tryz.ntmps32 rfl ?_
  repeat' (first | apply s_ | ((first | apply JO_ob | apply GD_ex | apply GL_ex); exact rfl; first | exact ob1 | exact Ob_call rfl (fun w5 _ => c83 w5)) | ((first | apply b_ | apply a_ | apply i_); exact z_; intro _) | ((first | apply p_ | apply JO_yes | apply GC_t); exact z_) | (apply n_; exact z_) | (apply GC_f; exact z_) | (apply GX_block_on; exact z_) | refine GC_drawA (id := 5) [0, 1, 2, 3, 4, 5, 6, 7, 8, 9, 10, 11] [12] (by kernel_rfl) ?_ | ((first | apply GD_at | apply GL_at | apply GD_no | apply GL_no); exact rfl) | apply DFin_0 | (apply q1_; exact z_) | (apply q0_; exact z_) | (apply q2_; exact z_) | (apply c_; exact z_; all_goals intro _) | (apply g_; exact z_; all_goals intro _))
  rename_i p3 p6 p7
  refine GC_loop (α := Nat) (fun i => ps.length - i) (fun i => [(3, pt p3), (6, pt p6), (7, pt p7), (1, v), (2, .int .i64 (vat : Int)), (8, .int .i64 (i : Int))]) (fun _ => [((fun _ => True), w)])
    (fun i => [(p7, .cells #[.int .i64 (hull (L.take i)).1, .int .i64 (hull (L.take i)).2] 61), (p6, .cells #[.int .i64 0, .int .i64 0] 61), (p3, .cells (wkC a b c d e f k).toArray 35)]) (fun i => i ≤ ps.length) 0 ⟨rfl, rfl, rfl, rfl, rfl, rfl, trivial⟩ (Nat.zero_le _) (fun w hw => hw) ?_
  intro i hi
  by_cases hlt : i < ps.length
  · have hle : i < es.length := by omega
    have mb := mudW_bd ho hp hlt hv
    have g1 := (hP.row i hlt).1.v1
    have g2 := (hP.row i hlt).2.2.v1
    repeat' (first | apply s_ | ((first | apply JO_ob | apply GD_ex | apply GL_ex); exact rfl; first | exact ob1 | exact Ob_call rfl (fun w5 hw5 => c50e (hw5.wk (.head _) h) ho (hw5.pn (.head _) hP) hp hlt vat hv) | exact Ob_quo rfl rfl (by omega) (by omega) (by omega) | exact Ob_call rfl (fun w5 _ => c84 _ _ _ w5)) | ((first | apply b_ | apply a_ | apply i_); exact z_; intro _) | ((first | apply p_ | apply JO_yes | apply GC_t); exact z_) | (apply n_; exact z_) | (apply GC_f; exact z_) | (apply GX_block_on; exact z_) | refine GC_drawA (id := 5) [0, 1, 2, 3, 4, 5, 6, 7, 8, 9, 10, 11] [12] (by kernel_rfl) ?_ | ((first | apply GD_at | apply GL_at | apply GD_no | apply GL_no); exact rfl) | apply DFin_0 | (apply q1_; exact z_) | (apply q0_; exact z_) | (apply q2_; exact z_) | (apply c_; exact z_; all_goals intro _) | (apply g_; exact z_; all_goals intro _))
    refine GX_loop (i + 1) ⟨rfl, rfl, rfl, rfl, rfl, rfl, trivial⟩ (by omega) (by omega) fun w5 hw5 => ?_
    have e9 : hull (L.take (i + 1)) = _ := hull_take (fun p : List Int × Crs => mudR k p.1 p.2 (vat : Int) / k.cake) hlt
    rw [e9]
    exact hw5.weak (fun r h => h) (List.Sublist.refl _)
  · have e9 : L.take i = L := List.take_of_length_le (by simp only [L, List.length_map]; omega)
    rw [e9]
    repeat' (first | apply s_ | ((first | apply JO_ob | apply GD_ex | apply GL_ex); exact rfl; first | exact ob1) | ((first | apply b_ | apply a_ | apply i_); exact z_; intro _) | ((first | apply p_ | apply JO_yes | apply GC_t); exact z_) | (apply n_; exact z_) | (apply GC_f; exact z_) | (apply GX_block_on; exact z_) | refine GC_drawA (id := 5) [0, 1, 2, 3, 4, 5, 6, 7, 8, 9, 10, 11] [12] (by kernel_rfl) ?_ | ((first | apply GD_at | apply GL_at | apply GD_no | apply GL_no); exact rfl) | apply DFin_0 | (apply q1_; exact z_) | (apply q0_; exact z_) | (apply q2_; exact z_) | (apply c_; exact z_; all_goals intro _) | (apply g_; exact z_; all_goals intro _))
    exact GX_exc rfl rfl mem_ rfl mem_ rfl
theorem c91 (h : WkA All w a b c hs d e f k) (ho : OkW k) (hF : 1 ≤ k.force ∧ k.force ≤ 9) (h3 : k.yard.vats.length ≤ 3) (hP : PNest All w v es ps) (hp : PsOk k ps) {i : Nat} (hi : i < ps.length) {lv : Value} {l : List Int} (hl : Arr All w 1 encI lv l) (hll : l.length = k.yard.vats.length) (vat : Nat) (hv : vat < k.yard.vats.length) :
    Ex 91 [wkV a b c d e f k, .agg #[(nth es i).1, .int .i64 (nth es i).2.1, (nth es i).2.2], lv, .int .i64 (vat : Int)] w (.int .i64 (atP k l (nth ps i) vat)) := by
  have i1 := h.yard.fields.v1
  have i2 := h.yard.vats.arr.v1
  have i3 := h.yard.smps.v1
  have i4 := h.beat.vats.v1
  have i5 := h.beat.smps.v1
  have i6 := h.ends.v1
  have i7 := hP.arr.v1
  have i8 := hl.v1
  have g1 := (hP.row i hi).1.v1
  have g2 := (hP.row i hi).2.2.v1
  have bl := hl.bound
  have ei : i < es.length := by rw [hP.len]; exact hi
  let hr : Nat → Int := fun j => (hoursR k.force (mudR k (nth ps i).1 (nth ps i).2 (j : Int)) : Int)
  have hrb : ∀ j, j < k.yard.vats.length → 0 ≤ hr j ∧ hr j ≤ 901 := fun j hj => by
    have h1 := mudW_bd ho hp hi hj
    have h2 := hours_le hF.1 h1 1000 0 (by omega) (by omega)
    simp only [hr, hoursR]; omega
  have e0 : atP k l (nth ps i) vat = atN hr l (nth l vat) (vat + 1) := rfl
  rw [e0]
  refine Rt_of Tryz.func91 rfl Tryz.ntmps91 rfl ?_
  repeat' (first | apply s_ | ((first | apply JO_ob | apply GD_ex | apply GL_ex); exact rfl; first | exact ob1) | ((first | apply b_ | apply a_ | apply i_); exact z_; intro _) | ((first | apply p_ | apply JO_yes | apply GC_t); exact z_) | (apply n_; exact z_) | (apply GC_f; exact z_) | (apply GX_block_on; exact z_) | refine GC_drawA (id := 5) [0, 1, 2, 3, 4, 5, 6, 7, 8] [] (by kernel_rfl) ?_ | refine GC_drawA (id := 6) [0, 1, 2, 3, 4, 5, 6, 7, 8] [9] (by kernel_rfl) ?_ | ((first | apply GD_at | apply GL_at | apply GD_no | apply GL_no); exact rfl) | apply DFin_0 | (apply q1_; exact z_) | (apply q0_; exact z_) | (apply q2_; exact z_) | (apply c_; exact z_; all_goals intro _) | (apply g_; exact z_; all_goals intro _))
  rename_i p4 p5
  refine GC_loop (α := Nat) (fun j => vat + 1 - j) (fun j => [(4, pt p4), (5, pt p5), (2, lv), (3, .int .i64 (vat : Int)), (9, .int .i64 (atN hr l (nth l vat) j)), (10, .int .i64 (j : Int))]) (fun _ => [((fun _ => True), w)])
    (fun _ => [(p5, .cells #[(nth es i).1, .int .i64 (nth es i).2.1, (nth es i).2.2] 86), (p4, .cells (wkC a b c d e f k).toArray 35)]) (fun j => j ≤ vat + 1) 0 ⟨rfl, rfl, rfl, rfl, rfl, rfl, trivial⟩ (Nat.zero_le _) (fun w hw => hw) ?_
  intro j hj
  by_cases hlt : j ≤ vat
  · have hjv : j < k.yard.vats.length := by omega
    have mb := mudW_bd ho hp hi hjv
    have q3 := atN_bd (hr := hr) (l := l) (M := 901) (by omega) (nth l vat) j (fun q hq => hrb q (by omega))
    have q4 := hrb j hjv
    have q5 : (j : Int) * 901 ≤ 3 * 901 := Int.mul_le_mul_of_nonneg_right (by omega) (by omega)
    by_cases he : nth l j = nth l vat
    · have e9 : atN hr l (nth l vat) (j + 1) = atN hr l (nth l vat) j + hr j := by simp only [atN, if_pos he]
      repeat' (first | apply s_ | ((first | apply JO_ob | apply GD_ex | apply GL_ex); exact rfl; first | exact ob1 | exact Ob_call rfl (fun w5 hw5 => c50e (hw5.wk mem_ h) ho (hw5.pn mem_ hP) hp hi j hjv) | exact Ob_call rfl (fun w5 hw5 => c87 w5 _ _ hF mb) | exact Ob_add rfl rfl (show -9223372036854775808 ≤ atN hr l (nth l vat) j + hr j ∧ atN hr l (nth l vat) j + hr j ≤ 9223372036854775807 by omega)) | ((first | apply b_ | apply a_ | apply i_); exact z_; intro _) | ((first | apply p_ | apply JO_yes | apply GC_t); exact z_) | (apply n_; exact z_) | (apply GC_f; exact z_) | (apply GX_block_on; exact z_) | refine GC_drawA (id := 5) [0, 1, 2, 3, 4, 5, 6, 7, 8] [] (by kernel_rfl) ?_ | refine GC_drawA (id := 6) [0, 1, 2, 3, 4, 5, 6, 7, 8] [9] (by kernel_rfl) ?_ | ((first | apply GD_at | apply GL_at | apply GD_no | apply GL_no); exact rfl) | apply DFin_0 | (apply q1_; exact z_) | (apply q0_; exact z_) | (apply q2_; exact z_) | (apply c_; exact z_; all_goals intro _) | (apply g_; exact z_; all_goals intro _))
      refine GX_loop (j + 1) ⟨rfl, rfl, rfl, rfl, ?_, rfl, trivial⟩ (by omega) (by omega) (fun w hw => hw)
      rw [e9]; rfl
    · have e9 : atN hr l (nth l vat) (j + 1) = atN hr l (nth l vat) j := by simp only [atN, if_neg he, Int.add_zero]
      repeat' (first | apply s_ | ((first | apply JO_ob | apply GD_ex | apply GL_ex); exact rfl; first | exact ob1) | ((first | apply b_ | apply a_ | apply i_); exact z_; intro _) | ((first | apply p_ | apply JO_yes | apply GC_t); exact z_) | (apply n_; exact z_) | (apply GC_f; exact z_) | (apply GX_block_on; exact z_) | refine GC_drawA (id := 5) [0, 1, 2, 3, 4, 5, 6, 7, 8] [] (by kernel_rfl) ?_ | refine GC_drawA (id := 6) [0, 1, 2, 3, 4, 5, 6, 7, 8] [9] (by kernel_rfl) ?_ | ((first | apply GD_at | apply GL_at | apply GD_no | apply GL_no); exact rfl) | apply DFin_0 | (apply q1_; exact z_) | (apply q0_; exact z_) | (apply q2_; exact z_) | (apply c_; exact z_; all_goals intro _) | (apply g_; exact z_; all_goals intro _))
      refine GX_loop (j + 1) ⟨rfl, rfl, rfl, rfl, ?_, rfl, trivial⟩ (by omega) (by omega) (fun w hw => hw)
      rw [e9]; rfl
  · have e9 : j = vat + 1 := by omega
    subst e9
    repeat' (first | apply s_ | ((first | apply JO_ob | apply GD_ex | apply GL_ex); exact rfl; first | exact ob1) | ((first | apply b_ | apply a_ | apply i_); exact z_; intro _) | ((first | apply p_ | apply JO_yes | apply GC_t); exact z_) | (apply n_; exact z_) | (apply GC_f; exact z_) | (apply GX_block_on; exact z_) | refine GC_drawA (id := 5) [0, 1, 2, 3, 4, 5, 6, 7, 8] [] (by kernel_rfl) ?_ | refine GC_drawA (id := 6) [0, 1, 2, 3, 4, 5, 6, 7, 8] [9] (by kernel_rfl) ?_ | ((first | apply GD_at | apply GL_at | apply GD_no | apply GL_no); exact rfl) | apply DFin_0 | (apply q1_; exact z_) | (apply q0_; exact z_) | (apply q2_; exact z_) | (apply c_; exact z_; all_goals intro _) | (apply g_; exact z_; all_goals intro _))
    exact GX_ex rfl rfl mem_ rfl
theorem c37 (h : WkA All w a b c hs d e f k) (ho : OkW k) (hF : 1 ≤ k.force ∧ k.force ≤ 9) (h3 : k.yard.vats.length ≤ 3) {lv : Value} {l : List Int} (hq : Arr All w 1 encI lv l) (hll : l.length = k.yard.vats.length) (hP : PNest All w v es ps) (hp : PsOk k ps) (vat : Nat) (hv : vat < k.yard.vats.length) :
    Ex 37 [wkV a b c d e f k, v, lv, .int .i64 (vat : Int)] w (.agg (encR (hull (ps.map fun p => atP k l p vat))).toArray) := by
  have i1 := h.yard.fields.v1
  have i2 := h.yard.vats.arr.v1
  have i3 := h.yard.smps.v1
  have i4 := h.beat.vats.v1
  have i5 := h.beat.smps.v1
  have i6 := h.ends.v1
  have i7 := hP.arr.v1
  have i8 := hq.v1
  have ha := hP.arr
  have b1 := ha.bound
  have hl := hP.len
  let L := ps.map fun p => atP k l p vat
  refine Rt_of Tryz.func37 rfl Tryz.ntmps37 rfl ?_
  repeat' (first | apply s_ | ((first | apply JO_ob | apply GD_ex | apply GL_ex); exact rfl; first | exact ob1 | exact Ob_call rfl (fun w5 _ => c83 w5)) | ((first | apply b_ | apply a_ | apply i_); exact z_; intro _) | ((first | apply p_ | apply JO_yes | apply GC_t); exact z_) | (apply n_; exact z_) | (apply GC_f; exact z_) | (apply GX_block_on; exact z_) | refine GC_drawA (id := 5) [0, 1, 2, 3, 4, 5, 6, 7, 8, 9] [10] (by kernel_rfl) ?_ | ((first | apply GD_at | apply GL_at | apply GD_no | apply GL_no); exact rfl) | apply DFin_0 | (apply q1_; exact z_) | (apply q0_; exact z_) | (apply q2_; exact z_) | (apply c_; exact z_; all_goals intro _) | (apply g_; exact z_; all_goals intro _))
  rename_i p4 p8 p9
  refine GC_loop (α := Nat) (fun i => ps.length - i) (fun i => [(4, pt p4), (8, pt p8), (9, pt p9), (1, v), (2, lv), (3, .int .i64 (vat : Int)), (10, .int .i64 (i : Int))]) (fun _ => [((fun _ => True), w)])
    (fun i => [(p9, .cells #[.int .i64 (hull (L.take i)).1, .int .i64 (hull (L.take i)).2] 61), (p8, .cells #[.int .i64 0, .int .i64 0] 61), (p4, .cells (wkC a b c d e f k).toArray 35)]) (fun i => i ≤ ps.length) 0 ⟨rfl, rfl, rfl, rfl, rfl, rfl, rfl, trivial⟩ (Nat.zero_le _) (fun w hw => hw) ?_
  intro i hi
  by_cases hlt : i < ps.length
  · have hle : i < es.length := by omega
    have g1 := (hP.row i hlt).1.v1
    have g2 := (hP.row i hlt).2.2.v1
    repeat' (first | apply s_ | ((first | apply JO_ob | apply GD_ex | apply GL_ex); exact rfl; first | exact ob1 | exact Ob_call rfl (fun w5 hw5 => c91 (hw5.wk (.head _) h) ho hF h3 (hw5.pn (.head _) hP) hp hlt (hw5.arr (.head _) hq) hll vat hv) | exact Ob_call rfl (fun w5 _ => c84 _ _ _ w5)) | ((first | apply b_ | apply a_ | apply i_); exact z_; intro _) | ((first | apply p_ | apply JO_yes | apply GC_t); exact z_) | (apply n_; exact z_) | (apply GC_f; exact z_) | (apply GX_block_on; exact z_) | refine GC_drawA (id := 5) [0, 1, 2, 3, 4, 5, 6, 7, 8, 9] [10] (by kernel_rfl) ?_ | ((first | apply GD_at | apply GL_at | apply GD_no | apply GL_no); exact rfl) | apply DFin_0 | (apply q1_; exact z_) | (apply q0_; exact z_) | (apply q2_; exact z_) | (apply c_; exact z_; all_goals intro _) | (apply g_; exact z_; all_goals intro _))
    refine GX_loop (i + 1) ⟨rfl, rfl, rfl, rfl, rfl, rfl, rfl, trivial⟩ (by omega) (by omega) fun w5 hw5 => ?_
    have e9 : hull (L.take (i + 1)) = _ := hull_take (fun p : List Int × Crs => atP k l p vat) hlt
    rw [e9]
    exact hw5.weak (fun r h => h) (List.Sublist.refl _)
  · have e9 : L.take i = L := List.take_of_length_le (by simp only [L, List.length_map]; omega)
    rw [e9]
    repeat' (first | apply s_ | ((first | apply JO_ob | apply GD_ex | apply GL_ex); exact rfl; first | exact ob1) | ((first | apply b_ | apply a_ | apply i_); exact z_; intro _) | ((first | apply p_ | apply JO_yes | apply GC_t); exact z_) | (apply n_; exact z_) | (apply GC_f; exact z_) | (apply GX_block_on; exact z_) | refine GC_drawA (id := 5) [0, 1, 2, 3, 4, 5, 6, 7, 8, 9] [10] (by kernel_rfl) ?_ | ((first | apply GD_at | apply GL_at | apply GD_no | apply GL_no); exact rfl) | apply DFin_0 | (apply q1_; exact z_) | (apply q0_; exact z_) | (apply q2_; exact z_) | (apply c_; exact z_; all_goals intro _) | (apply g_; exact z_; all_goals intro _))
    exact GX_exc rfl rfl mem_ rfl mem_ rfl
end
end Go.Proofs.YtkbaaikidhbfmaaGreat
/- Contracts: the program's Late and ProvePlan, the ending of a plan, copies. No statement is proved here. -/
set_option linter.unusedVariables false
set_option linter.unusedSimpArgs false
namespace Go.Proofs.YtkbaaikidhbfmaaGreat
open Go.RowKit
/-- The first vat that may be too late, and whether there is none. -/
def lateR (k : Wk) (l : List Int) : Int × Int := match (timesV k l).findIdx? (fun r => decide (k.last < r.2)) with
  | some i => ((i : Int), 0)
  | none => (0, 7)
section
variable {w : World} {a b c d e f : Value} {hs : List Value} {k : Wk}
theorem c35 (h : WkA All w a b c hs d e f k) {pv : Value} {l : List Int} (hl : Arr All w 1 encI pv l) : Rt 35 [wkV a b c d e f k, pv] w fun v w' => Keep w w' ∧
    v = .tuple #[.int .i64 (if fault9 k ≠ 0 then 0 else if planP k l = false then 0 else (lateR k l).1), .int .i64 (if fault9 k ≠ 0 then fault9 k else if planP k l = false then 2 else (lateR k l).2)] := by
  have i1 := h.yard.fields.v1
  have i2 := h.yard.vats.arr.v1
  have i3 := h.yard.smps.v1
  have i4 := h.beat.vats.v1
  have i5 := h.beat.smps.v1
  have i6 := h.ends.v1
  have i7 := hl.v1
  refine Rt_of Tryz.func35 rfl Tryz.ntmps35 rfl ?_
  repeat' (first | apply s_ | (apply JO_ob; exact rfl; first | exact ob1) | ((first | apply b_ | apply a_ | apply i_); exact z_; intro _) | ((first | apply p_ | apply JO_yes | apply GC_t); exact z_) | (apply n_; exact z_) | (apply GC_f; exact z_) | (apply GX_block_on; exact z_) | (apply c_; exact z_; all_goals intro _))
  refine JO_call (S := fun w0 v w' => PlayW w0 k l v w') rfl rfl (fun w5 hw5 => c33 (hw5.wk mem_ h) (hw5.arr mem_ hl)) ?_
  rintro v u0 u1 hu0 hu1 hk01 (⟨hf, rfl⟩ | ⟨hf, hp, rfl⟩ | ⟨hf, hp, u, rfl, hu⟩)
  · repeat' (first | apply s_ | (apply JO_ob; exact rfl; first | exact ob1) | ((first | apply b_ | apply a_ | apply i_); exact z_; intro _) | ((first | apply p_ | apply JO_yes | apply GC_t); exact z_) | (apply n_; exact z_) | (apply GC_f; exact z_) | (apply GX_block_on; exact z_) | (apply c_; exact z_; all_goals intro _))
    exact GX_ret2 rfl rfl rfl fun w' hw' => ⟨hw'.kp mem_, by rw [if_pos hf, if_pos hf]⟩
  · have n0 : ¬ (fault9 k ≠ 0) := fun h => h hf
    repeat' (first | apply s_ | (apply JO_ob; exact rfl; first | exact ob1) | ((first | apply b_ | apply a_ | apply i_); exact z_; intro _) | ((first | apply p_ | apply JO_yes | apply GC_t); exact z_) | (apply n_; exact z_) | (apply GC_f; exact z_) | (apply GX_block_on; exact z_) | (apply c_; exact z_; all_goals intro _))
    exact GX_ret2 rfl rfl rfl fun w' hw' => ⟨hw'.kp mem_, by rw [if_neg n0, if_neg n0, if_pos hp, if_pos hp]⟩
  · have n0 : ¬ (fault9 k ≠ 0) := fun h => h hf
    have n1 : ¬ (planP k l = false) := by rw [hp]; decide
    rw [if_neg n0, if_neg n0, if_neg n1, if_neg n1]
    have iu := hu.v1
    have hK := okK_of hf
    have v3 := hK.v3
    have lt := timesV_len k l
    repeat' (first | apply s_ | (apply JO_ob; exact rfl; first | exact ob1) | ((first | apply b_ | apply a_ | apply i_); exact z_; intro _) | ((first | apply p_ | apply JO_yes | apply GC_t); exact z_) | (apply n_; exact z_) | (apply GC_f; exact z_) | (apply GX_block_on; exact z_) | (apply c_; exact z_; all_goals intro _))
    rename_i p2
    refine GC_loop0 (fun i => (timesV k l).length - i) (fun i => [(2, pt p2), (19, u), (20, .int .i64 ((timesV k l).length : Int)), (21, .int .i64 (i : Int))]) (fun i => i ≤ (timesV k l).length ∧ ∀ j, j < i → (nth (timesV k l) j).2 ≤ k.last) 0 ⟨rfl, rfl, rfl, rfl, trivial⟩ ⟨Nat.zero_le _, fun j hj => absurd hj (Nat.not_lt_zero j)⟩ ?_
    rintro i ⟨hi, hno⟩
    by_cases hlt : i < (timesV k l).length
    · by_cases hge : k.last < (nth (timesV k l) i).2
      · repeat' (first | apply s_ | (apply JO_ob; exact rfl; first | exact ob1) | ((first | apply b_ | apply a_ | apply i_); exact z_; intro _) | ((first | apply p_ | apply JO_yes | apply GC_t); exact z_) | (apply n_; exact z_) | (apply GC_f; exact z_) | (apply GX_block_on; exact z_) | (apply c_; exact z_; all_goals intro _))
        have e1 : lateR k l = ((i : Int), 0) := by
          have : (timesV k l).findIdx? (fun r => decide (k.last < r.2)) = some i := by
            rw [List.findIdx?_eq_some_iff_getElem]
            refine ⟨hlt, ?_, fun j hj => ?_⟩
            · have e : nth (timesV k l) i = (timesV k l)[i] := by simp [nth, hlt]
              rw [← e]; simpa using hge
            · have e : nth (timesV k l) j = (timesV k l)[j] := by simp [nth, show j < (timesV k l).length by omega]
              rw [← e]; simpa using hno j hj
          simp only [lateR, this]
        rw [e1]
        exact GX_ret2 rfl rfl rfl fun w' hw' => ⟨hw'.kp mem_, rfl⟩
      · repeat' (first | apply s_ | (apply JO_ob; exact rfl; first | exact ob1) | ((first | apply b_ | apply a_ | apply i_); exact z_; intro _) | ((first | apply p_ | apply JO_yes | apply GC_t); exact z_) | (apply n_; exact z_) | (apply GC_f; exact z_) | (apply GX_block_on; exact z_) | (apply c_; exact z_; all_goals intro _))
        refine GX_loop (i + 1) ⟨rfl, rfl, rfl, rfl, trivial⟩ (by omega) ⟨by omega, fun j hj => ?_⟩ (fun w hw => hw.weak (fun r h => h) (List.Sublist.cons _ (List.Sublist.refl _)))
        by_cases e : j < i
        · exact hno j e
        · rw [show j = i by omega]; omega
    · have e1 : lateR k l = (0, 7) := by
        have : (timesV k l).findIdx? (fun r => decide (k.last < r.2)) = none := by
          rw [List.findIdx?_eq_none_iff]
          intro x hx
          obtain ⟨j, hj⟩ := List.getElem?_of_mem hx
          have hjl := (List.getElem?_eq_some_iff.1 hj).1
          have e : nth (timesV k l) j = x := by simp [nth, hj]
          rw [← e]; simpa using hno j (by omega)
        simp only [lateR, this]
      rw [e1]
      repeat' (first | apply s_ | (apply JO_ob; exact rfl; first | exact ob1) | ((first | apply b_ | apply a_ | apply i_); exact z_; intro _) | ((first | apply p_ | apply JO_yes | apply GC_t); exact z_) | (apply n_; exact z_) | (apply GC_f; exact z_) | (apply GX_block_on; exact z_) | (apply c_; exact z_; all_goals intro _))
      exact GX_ret2 rfl rfl rfl fun w' hw' => ⟨hw'.kp mem_, rfl⟩
end
section
variable {b0 : World} {R : Rgs} {G Gt Gp : Nat → Prop} {w1 wt wp : World} {a b c d e f tv : Value} {hs : List Value} {k : Wk} {pw r : Nat} {rows : List (List Int)}
theorem c113 (hm : ((fun _ => True), b0) ∈ R) (hk : WkA All b0 a b c hs d e f k) (hK : OkK k) (hR : (G, w1) ∈ R) (hG : G pw) (hpw : w1.heap[pw]? = some (.cells (wkC a b c d e f k ++ [tv, .map (some r)]).toArray 188))
    (hRt : (Gt, wt) ∈ R) (hT : Arr Gt wt 3 (encA 3) tv rows) (hMT : MudT k.yard.vats.length ((truthsX k.yard).map (blueRow k.yard)) ((truthsW k.beat).map fun l => lossRow k.beat (toC l) k.ends) rows)
    {v : Value} {l : List Int} (hRp : (Gp, wp) ∈ R) (hl : Arr Gp wp 1 encI v l) (hln : l.length = k.yard.vats.length) (hlb : ∀ i, i < k.yard.vats.length → 0 ≤ nth l i ∧ nth l i ≤ 3) (o : Obj) (H : Hp) (w : World) (hw : SH b0 R ((r, o) :: H) w) (ho : HrsOK k.force o) :
    Rt 113 [pt pw, v] w fun v w' => ∃ o', (v = .int .i64 (endV k l) ∧ HrsOK k.force o') ∧ (∀ q ∈ R, q ∈ R) ∧ SH b0 R ((r, o') :: H) w' := by
  have i8 := hl.v1
  obtain ⟨hne, hrb⟩ := rows_bd hK hMT
  refine Rt_ofS Tryz.func113 rfl Tryz.ntmps113 rfl hw ?_
  repeat' (first | apply s_ | (apply JO_ob; exact rfl; first | exact ob1) | ((first | apply b_ | apply a_ | apply i_); exact z_; intro _) | ((first | apply p_ | apply JO_yes | apply GC_t); exact z_) | (apply n_; exact z_) | (apply GC_f; exact z_) | (apply GX_block_on; exact z_) | (apply c_; exact z_; all_goals intro _))
  refine JO_callS (β := Obj × (Nat → Prop) × World) (S := fun s v => HrsOK k.force s.1 ∧ (∀ b, s.2.1 b → b0.heap.size ≤ b) ∧ Arr s.2.1 s.2.2 2 encR v (bnds k.yard.vats.length fun i => rows.map fun t => atV (fun i => (hoursR k.force (nth t i) : Int)) l i)) (R' := fun s => (s.2.1, s.2.2) :: R) (H' := fun s => (r, s.1) :: H) rfl rfl (fun w5 hw5 => ?_) ?_
  · exact c90 hm hk hR hG hpw hRt hT hne hK.v3 hrb hK.force hRp hl hln hlb _ _ w5 hw5 ho
  · rintro ⟨o', G', w9⟩ u ⟨g1, g2, g3⟩
    rw [timesV_rows hK hMT] at g3
    simp only at g1 g2 g3 ⊢
    have iu := g3.v1
    have lt := timesV_len k l
    have v3 := hK.v3
    repeat' (first | apply s_ | (apply JO_ob; exact rfl; first | exact ob1) | ((first | apply b_ | apply a_ | apply i_); exact z_; intro _) | ((first | apply p_ | apply JO_yes | apply GC_t); exact z_) | (apply n_; exact z_) | (apply GC_f; exact z_) | (apply GX_block_on; exact z_) | (apply c_; exact z_; all_goals intro _))
    refine GC_loop0 (fun i => (timesV k l).length - i) (fun i => [(4, .int .i64 (endR ((timesV k l).take i))), (9, u), (10, .int .i64 ((timesV k l).length : Int)), (11, .int .i64 (i : Int))]) (fun i => i ≤ (timesV k l).length) 0 ⟨rfl, rfl, rfl, rfl, trivial⟩ (Nat.zero_le _) ?_
    intro i hi
    by_cases hlt : i < (timesV k l).length
    · repeat' (first | apply s_ | (apply JO_ob; exact rfl; first | exact ob1) | ((first | apply b_ | apply a_ | apply i_); exact z_; intro _) | ((first | apply p_ | apply JO_yes | apply GC_t); exact z_) | (apply n_; exact z_) | (apply GC_f; exact z_) | (apply GX_block_on; exact z_) | (apply c_; exact z_; all_goals intro _))
      refine GX_loop (i + 1) ⟨?_, rfl, rfl, rfl, trivial⟩ (by omega) (by omega) (fun w hw => hw.weak (fun r h => h) (List.Sublist.cons _ (List.Sublist.refl _)))
      have e : endR ((timesV k l).take (i + 1)) = max (endR ((timesV k l).take i)) (nth (timesV k l) i).2 := by
        simp only [endR]; rw [take_snoc hlt, List.foldl_append]; rfl
      rw [e]; rfl
    · have hie : i = (timesV k l).length := by omega
      rw [hie, List.take_length]
      repeat' (first | apply s_ | (apply JO_ob; exact rfl; first | exact ob1) | ((first | apply b_ | apply a_ | apply i_); exact z_; intro _) | ((first | apply p_ | apply JO_yes | apply GC_t); exact z_) | (apply n_; exact z_) | (apply GC_f; exact z_) | (apply GX_block_on; exact z_) | (apply c_; exact z_; all_goals intro _))
      exact GX_ret1 rfl rfl fun w' hw' => ⟨o', ⟨rfl, g1⟩, fun _ h => h, hw'.weak (fun r h => .tail _ h) (List.Sublist.refl _)⟩
end
section
variable {w : World} {a b c d e f : Value} {hs : List Value} {k : Wk}
set_option maxHeartbeats 1000000 in
theorem c61 (h : WkA All w a b c hs d e f k) {pv : Value} {l : List Int} (hl : Arr All w 1 encI pv l) (x : Int) : Ex 61 [wkV a b c d e f k, pv, .int .i64 x] w (.bool (decide (fault9 k = 0) && (planP k l && decide (endV k l ≤ x)))) := by
  have i1 := h.yard.fields.v1
  have i2 := h.yard.vats.arr.v1
  have i3 := h.yard.smps.v1
  have i4 := h.beat.vats.v1
  have i5 := h.beat.smps.v1
  have i6 := h.ends.v1
  have i7 := hl.v1
  refine Rt_of Tryz.func61 rfl Tryz.ntmps61 rfl ?_
  repeat' (first | apply s_ | ((first | apply JO_ob | apply GD_ex | apply GL_ex); exact rfl; first | exact ob1 | exact Ob_call rfl (fun w5 hw5 => c89 (hw5.wk mem_ h) (hw5.arr mem_ hl))) | ((first | apply b_ | apply a_ | apply i_); exact z_; intro _) | ((first | apply p_ | apply JO_yes | apply GC_t); exact z_) | (apply n_; exact z_) | (apply GC_f; exact z_) | (apply GX_block_on; exact z_) | refine GC_drawA (id := 1) [0, 1, 2, 3] [4, 5, 6, 7, 8, 9] (by kernel_rfl) ?_ | ((first | apply GD_at | apply GL_at | apply GD_no | apply GL_no); exact rfl) | apply DFin_0 | (apply q1_; exact z_) | (apply q0_; exact z_) | (apply q2_; exact z_) | (apply c_; exact z_; all_goals intro _) | (apply g_; exact z_; all_goals intro _))
  rename_i p2
  refine JO_asked (hs := hs) rfl rfl (.head _) h (fun hf => ?_) (fun hf hq => ?_) (fun hf hq pw tv r rows u0 u1 hb0 hpr hpw hT hMT => ?_)
  · rw [decide_eq_false hf, Bool.false_and]
    repeat' (first | apply s_ | ((first | apply JO_ob | apply GD_ex | apply GL_ex); exact rfl; first | exact ob1) | ((first | apply b_ | apply a_ | apply i_); exact z_; intro _) | ((first | apply p_ | apply JO_yes | apply GC_t); exact z_) | (apply n_; exact z_) | (apply GC_f; exact z_) | (apply GX_block_on; exact z_) | refine GC_drawA (id := 1) [0, 1, 2, 3] [4, 5, 6, 7, 8, 9] (by kernel_rfl) ?_ | ((first | apply GD_at | apply GL_at | apply GD_no | apply GL_no); exact rfl) | apply DFin_0 | (apply q1_; exact z_) | (apply q0_; exact z_) | (apply q2_; exact z_) | (apply c_; exact z_; all_goals intro _) | (apply g_; exact z_; all_goals intro _))
    all_goals exact GX_ex rfl rfl mem_ rfl
  · rw [hq, Bool.false_and, Bool.and_false]
    repeat' (first | apply s_ | ((first | apply JO_ob | apply GD_ex | apply GL_ex); exact rfl; first | exact ob1) | ((first | apply b_ | apply a_ | apply i_); exact z_; intro _) | ((first | apply p_ | apply JO_yes | apply GC_t); exact z_) | (apply n_; exact z_) | (apply GC_f; exact z_) | (apply GX_block_on; exact z_) | refine GC_drawA (id := 1) [0, 1, 2, 3] [4, 5, 6, 7, 8, 9] (by kernel_rfl) ?_ | ((first | apply GD_at | apply GL_at | apply GD_no | apply GL_no); exact rfl) | apply DFin_0 | (apply q1_; exact z_) | (apply q0_; exact z_) | (apply q2_; exact z_) | (apply c_; exact z_; all_goals intro _) | (apply g_; exact z_; all_goals intro _))
    all_goals exact GX_ex rfl rfl mem_ rfl
  · have hK := okK_of hf
    obtain ⟨hln, hlb⟩ := planP_bd hK hq
    have iT := hT.v1
    rw [hq, decide_eq_true hf, Bool.true_and, Bool.true_and]
    repeat' (first | apply s_ | ((first | apply JO_ob | apply GD_ex | apply GL_ex); exact rfl; first | exact ob1 | exact Ob_indexa rfl rfl (by omega) | exact Ob_load_a rfl mem_ (by omega) | exact Ob_sliceA rfl) | (apply pA_; exact zA_) | ((first | apply b_ | apply a_ | apply i_); exact z_; intro _) | ((first | apply p_ | apply JO_yes | apply GC_t); exact z_) | (apply n_; exact z_) | (apply GC_f; exact z_) | (apply GX_block_on; exact z_) | refine GC_drawA (id := 1) [0, 1, 2, 3] [4, 5, 6, 7, 8, 9] (by kernel_rfl) ?_ | ((first | apply GD_at | apply GL_at | apply GD_no | apply GL_no); exact rfl) | apply DFin_0 | (apply q1_; exact z_) | (apply q0_; exact z_) | (apply q2_; exact z_) | (apply c_; exact z_; all_goals intro _) | (apply g_; exact z_; all_goals intro _))
    all_goals
      refine JO_callS (β := Obj) (S := fun o' v => v = .int .i64 (endV k l) ∧ HrsOK k.force o') (R' := fun s => [(fun b => u0.heap.size ≤ b ∧ b ≠ r, u1), ((fun _ => True), w)]) (H' := fun s => (r, s) :: [(p2, .cells (wkC a b c d e f k).toArray 52)]) rfl rfl (fun w5 hw5 => ?_) ?_
      · exact c113 (.tail _ (.head _)) h hK (.head _) hpr hpw (.head _) hT hMT (.tail _ (.head _)) hl hln hlb _ _ w5 hw5 (HrsOK.empty _)
      · rintro o' u ⟨rfl, g1⟩
        repeat' (first | apply s_ | (apply JO_ob; exact rfl; first | exact ob1 | exact Ob_indexa rfl rfl (by omega) | exact Ob_load_a rfl mem_ (by omega) | exact Ob_sliceA rfl) | (apply pA_; exact zA_) | ((first | apply b_ | apply a_ | apply i_); exact z_; intro _) | ((first | apply p_ | apply JO_yes | apply GC_t); exact z_) | (apply n_; exact z_) | (apply GC_f; exact z_) | (apply GX_block_on; exact z_) | (apply c_; exact z_; all_goals intro _))
        all_goals (first | exact GX_ex rfl rfl mem_ (dT (by omega)) | exact GX_ex rfl rfl mem_ (dF (by omega)))
theorem run_eq33 (A : Option Addr) (n c : Nat) (w : World) : (Op.equal 33 (.slice A n c) (.slice none 0 0)).run P w = .ok A.isNone w := by
  cases A <;> kernel_rfl
theorem Ob_slnil {b0 : World} {R : Rgs} {H : Hp} {fr : Slots} {dst : Option Nat} {g : Option (Nat × Bool)} {ty : TypeId} {ps : String} {af : Array Edge} {yt : TypeId} {x y : Operand} {A : Option Addr} {n c : Nat} (hx : ev fr x = some (.slice A n c)) (hy : ev fr y = some (.slice none 0 0)) :
    Ob b0 R H ⟨dst, .binOp .eql 33 x y yt, ty, ps, af, g⟩ fr (.bool A.isNone) := .pure fun w f hf => by
  simp only [execOp]
  rw [hf x _ hx, hf y _ hy]
  have e4 : eqGuard .eql 33 x y (.slice A n c) (.slice none 0 0) = pure () := rfl
  have e3 : binOp .eql 33 (.slice A n c) (.slice none 0 0) = (do pure (.bool (← Op.equal 33 (.slice A n c) (.slice none 0 0)))) := rfl
  rw [e4, e3]
  simp only [Sem.run_bind, Sem.run_pure, Result.andThen, run_eq33]
theorem c145 (w : World) (v : Value) (xs : List Int) (hA : Arr All w 1 encI v xs) (hl : xs.length ≤ 1000) : Rt 145 [v] w fun r w' => Keep w w' ∧ Arr (New w) w' 1 encI r xs := by
  obtain ⟨A, c, rfl, hc, hm, hcs⟩ := hA.h
  refine Rt_of Tryz.func145 rfl Tryz.ntmps145 rfl ?_
  cases A with
  | none =>
    have hx0 : xs = [] := by
      rcases hcs with h0 | ⟨b, off, h1, _⟩
      · have := flatMap_len (enc := encI) (sz := 1) (fun _ => rfl) xs
        rw [h0] at this; simp at this; exact List.eq_nil_of_length_eq_zero this.symm
      · cases h1
    subst hx0
    repeat' (first | apply s_ | (apply JO_ob; exact rfl; first | exact ob1 | exact Ob_slnil rfl rfl) | ((first | apply b_ | apply a_ | apply i_); exact z_; intro _) | ((first | apply p_ | apply JO_yes | apply GC_t); exact z_) | (apply n_; exact z_) | (apply GC_f; exact z_) | (apply GX_block_on; exact z_) | (apply c_; exact z_; all_goals intro _))
    exact GX_ret1 rfl rfl fun w' hw' => ⟨hw'.kp mem_, arr_nil fun _ => rfl⟩
  | some A =>
    repeat' (first | apply s_ | (apply JO_ob; exact rfl; first | exact ob1 | exact Ob_slnil rfl rfl) | ((first | apply b_ | apply a_ | apply i_); exact z_; intro _) | ((first | apply p_ | apply JO_yes | apply GC_t); exact z_) | (apply n_; exact z_) | (apply GC_f; exact z_) | (apply GX_block_on; exact z_) | (apply c_; exact z_; all_goals intro _))
    rename_i q
    refine JO_append (xs := []) (sp := []) [] rfl rfl rfl (Own.lit [] (fun _ => rfl) rfl rfl) (List.Perm.refl _) (fun w hw => hw.slArr (.head _) hA (by decide)) (allOne_flat (fun _ => rfl) _) (by simp; omega) ?_
    intro v2 s2 ho2
    have j2 := ho2.v1
    repeat' (first | apply s_ | (apply JO_ob; exact rfl; first | exact ob1) | ((first | apply b_ | apply a_ | apply i_); exact z_; intro _) | ((first | apply p_ | apply JO_yes | apply GC_t); exact z_) | (apply n_; exact z_) | (apply GC_f; exact z_) | (apply GX_block_on; exact z_) | (apply c_; exact z_; all_goals intro _))
    exact GX_ret1 rfl rfl fun w' hw' => ⟨hw'.kp mem_, ho2.ret (A := []) (by decide) hw' mem_⟩
end
end Go.Proofs.YtkbaaikidhbfmaaGreat
/- Contracts: the reference of the layer 9, endings, who is late, works with another ending. No statement is proved here. -/
set_option linter.unusedVariables false
set_option linter.unusedSimpArgs false
namespace Go.Proofs.YtkbaaikidhbfmaaGreat
open Go.RowKit
/-- A field of a value. -/
class TyFv (t i : Nat) (off : outParam Nat) : Prop where
  h : ∀ (cs : List Value) (v : Value) (w : World), cs[off]? = some v → (Instr.field t (.agg cs.toArray) i).run P w = .ok v w
theorem run_field_of {t i off u : Nat} {fs : Array Field} (h : P.underlying t = some (.struct fs)) (hf : (fs[i]?).map (fun f => (f.type, f.offset)) = some (u, off)) [hu : TyOne u] (cs : List Value) (v : Value) (w : World) (hv : cs[off]? = some v) :
    (Instr.field t (.agg cs.toArray) i).run P w = .ok v w := by
  obtain ⟨f, hf0, e⟩ := Option.map_eq_some_iff.1 hf
  cases e
  have ha : (asAgg (.agg cs.toArray)).run P w = .ok cs.toArray w := rfl
  simp [Instr.field, run_underlying h, Result.andThen, hf0, ha, part, hu.h, hv]
instance : TyFv 61 0 0 := ⟨run_field_of (u := 3) Tryz.underlying61 rfl⟩
instance : TyFv 61 1 1 := ⟨run_field_of (u := 3) Tryz.underlying61 rfl⟩
instance : TyFv 46 1 1 := ⟨run_field_of (u := 3) Tryz.underlying46 rfl⟩
theorem Ob_fv {b0 : World} {R : Rgs} {H : Hp} {fr : Slots} {dst : Option Nat} {g : Option (Nat × Bool)} {ty : TypeId} {ps : String} {af : Array Edge} {t i off : Nat} {x : Operand} {cs : List Value} {v : Value} [h : TyFv t i off] (hx : ev fr x = some (.agg cs.toArray)) (hv : cs[off]? = some v) :
    Ob b0 R H ⟨dst, .field t x i, ty, ps, af, g⟩ fr v := .pure fun w f hf => by
  simp only [execOp, hf x _ hx]
  rw [Sem.run_bind, h.h cs v w hv]
  rfl
theorem timesV_at {k : Wk} (l : List Int) {i : Nat} (hi : i < k.yard.vats.length) : hull ((pairs k).map fun p => atP k l p i) = nth (timesV k l) i := by rw [timesV, bnds_nth hi]
def endT (k : Wk) (l : List Int) (i : Nat) : Int := endR ((timesV k l).take i)
theorem endT_succ {k : Wk} {l : List Int} {i : Nat} (hi : i < k.yard.vats.length) : endT k l (i + 1) = max (endT k l i) (nth (timesV k l) i).2 := by
  simp only [endT]
  rw [take_snoc (by rw [timesV_len]; exact hi)]
  simp only [endR, List.foldl_append, List.foldl_cons, List.foldl_nil]
/-- The first vat that may be too late, or -1. -/
def lateI (k : Wk) (l : List Int) : Int := match (timesV k l).findIdx? (fun r => decide (k.last < r.2)) with
  | some i => (i : Int)
  | none => -1
section
variable {w : World} {a b c d e f v : Value} {hs : List Value} {k : Wk} {es : List (Value × Int × Value)}
theorem c63 (h : WkA All w a b c hs d e f k) (hK : OkK k) (hP : PNest All w v es (pairs k)) {lv : Value} {l : List Int} (hq : Arr All w 1 encI lv l) (hll : l.length = k.yard.vats.length) :
    Ex 63 [wkV a b c d e f k, v, lv] w (.int .i64 (endV k l)) := by
  have i1 := h.yard.fields.v1
  have i2 := h.yard.vats.arr.v1
  have i3 := h.yard.smps.v1
  have i4 := h.beat.vats.v1
  have i5 := h.beat.smps.v1
  have i6 := h.ends.v1
  have i7 := hP.arr.v1
  have i8 := hq.v1
  have bq := hq.bound
  have v3 := hK.v3
  refine Rt_of Tryz.func63 rfl Tryz.ntmps63 rfl ?_
  repeat' (first | apply s_ | (apply JO_ob; exact rfl; first | exact ob1) | ((first | apply b_ | apply a_ | apply i_); exact z_; intro _) | ((first | apply p_ | apply JO_yes | apply GC_t); exact z_) | (apply n_; exact z_) | (apply GC_f; exact z_) | (apply GX_block_on; exact z_) | (apply c_; exact z_; all_goals intro _))
  rename_i p3
  refine GC_loop (α := Nat) (fun i => l.length - i) (fun i => [(3, pt p3), (1, v), (2, lv), (7, .int .i64 (endT k l i)), (8, .int .i64 (i : Int))]) (fun _ => [((fun _ => True), w)])
    (fun i => [(p3, .cells (wkC a b c d e f k).toArray 35)]) (fun i => i ≤ l.length) 0 ⟨rfl, rfl, rfl, rfl, rfl, trivial⟩ (Nat.zero_le _) (fun w hw => hw) ?_
  intro i hi
  by_cases hlt : i < l.length
  · have hiv : i < k.yard.vats.length := by omega
    have hc : ∀ w5, SH w [((fun _ => True), w)] [(p3, .cells (wkC a b c d e f k).toArray 35)] w5 → Ex 37 [wkV a b c d e f k, v, lv, .int .i64 (i : Int)] w5 (.agg #[.int .i64 (nth (timesV k l) i).1, .int .i64 (nth (timesV k l) i).2]) := fun w5 hw5 => by
      have := c37 (hw5.wk (.head _) h) hK.w hK.force v3 (hw5.arr (.head _) hq) hll (hw5.pn (.head _) hP) (psOk_pairs hK) i hiv
      rw [timesV_at l hiv] at this; exact this
    repeat' (first | apply s_ | (apply JO_ob; exact rfl; first | exact ob1 | exact Ob_call rfl (fun w5 hw5 => hc w5 hw5) | exact Ob_fv rfl rfl) | ((first | apply b_ | apply a_ | apply i_); exact z_; intro _) | ((first | apply p_ | apply JO_yes | apply GC_t); exact z_) | (apply n_; exact z_) | (apply GC_f; exact z_) | (apply GX_block_on; exact z_) | (apply c_; exact z_; all_goals intro _))
    refine GX_loop (i + 1) ⟨rfl, rfl, rfl, ?_, rfl, trivial⟩ (by omega) (by omega) (fun w hw => hw)
    rw [endT_succ hiv]; rfl
  · have e9 : endT k l i = endV k l := by simp only [endT, endV]; rw [List.take_of_length_le (by rw [timesV_len]; omega)]
    rw [e9]
    repeat' (first | apply s_ | (apply JO_ob; exact rfl; first | exact ob1) | ((first | apply b_ | apply a_ | apply i_); exact z_; intro _) | ((first | apply p_ | apply JO_yes | apply GC_t); exact z_) | (apply n_; exact z_) | (apply GC_f; exact z_) | (apply GX_block_on; exact z_) | (apply c_; exact z_; all_goals intro _))
    exact GX_ex rfl rfl mem_ rfl
theorem c38 (h : WkA All w a b c hs d e f k) (hK : OkK k) (hP : PNest All w v es (pairs k)) {lv : Value} {l : List Int} (hq : Arr All w 1 encI lv l) (hll : l.length = k.yard.vats.length) :
    Ex 38 [wkV a b c d e f k, v, lv] w (.int .i64 (lateI k l)) := by
  have i1 := h.yard.fields.v1
  have i2 := h.yard.vats.arr.v1
  have i3 := h.yard.smps.v1
  have i4 := h.beat.vats.v1
  have i5 := h.beat.smps.v1
  have i6 := h.ends.v1
  have i7 := hP.arr.v1
  have i8 := hq.v1
  have bq := hq.bound
  have v3 := hK.v3
  have lt := timesV_len k l
  refine Rt_of Tryz.func38 rfl Tryz.ntmps38 rfl ?_
  repeat' (first | apply s_ | ((first | apply JO_ob | apply GD_ex | apply GL_ex); exact rfl; first | exact ob1) | ((first | apply b_ | apply a_ | apply i_); exact z_; intro _) | ((first | apply p_ | apply JO_yes | apply GC_t); exact z_) | (apply n_; exact z_) | (apply GC_f; exact z_) | (apply GX_block_on; exact z_) | refine GC_drawA (id := 4) [0, 1, 2, 3, 4, 5, 6, 7, 8] [] (by kernel_rfl) ?_ | ((first | apply GD_at | apply GL_at | apply GD_no | apply GL_no); exact rfl) | apply DFin_0 | (apply q1_; exact z_) | (apply q0_; exact z_) | (apply q2_; exact z_) | (apply c_; exact z_; all_goals intro _) | (apply g_; exact z_; all_goals intro _))
  rename_i p3
  refine GC_loop (α := Nat) (fun i => l.length - i) (fun i => [(3, pt p3), (1, v), (2, lv), (7, .int .i64 (i : Int))]) (fun _ => [((fun _ => True), w)])
    (fun i => [(p3, .cells (wkC a b c d e f k).toArray 35)]) (fun i => i ≤ l.length ∧ ∀ j, j < i → (nth (timesV k l) j).2 ≤ k.last) 0 ⟨rfl, rfl, rfl, rfl, trivial⟩ ⟨Nat.zero_le _, fun j hj => absurd hj (Nat.not_lt_zero j)⟩ (fun w hw => hw) ?_
  rintro i ⟨hi, hno⟩
  by_cases hlt : i < l.length
  · have hiv : i < k.yard.vats.length := by omega
    have hc : ∀ w5, SH w [((fun _ => True), w)] [(p3, .cells (wkC a b c d e f k).toArray 35)] w5 → Ex 37 [wkV a b c d e f k, v, lv, .int .i64 (i : Int)] w5 (.agg #[.int .i64 (nth (timesV k l) i).1, .int .i64 (nth (timesV k l) i).2]) := fun w5 hw5 => by
      have := c37 (hw5.wk (.head _) h) hK.w hK.force v3 (hw5.arr (.head _) hq) hll (hw5.pn (.head _) hP) (psOk_pairs hK) i hiv
      rw [timesV_at l hiv] at this; exact this
    by_cases hge : k.last < (nth (timesV k l) i).2
    · repeat' (first | apply s_ | ((first | apply JO_ob | apply GD_ex | apply GL_ex); exact rfl; first | exact ob1 | exact Ob_call rfl (fun w5 hw5 => hc w5 hw5) | exact Ob_fv rfl rfl) | ((first | apply b_ | apply a_ | apply i_); exact z_; intro _) | ((first | apply p_ | apply JO_yes | apply GC_t); exact z_) | (apply n_; exact z_) | (apply GC_f; exact z_) | (apply GX_block_on; exact z_) | refine GC_drawA (id := 4) [0, 1, 2, 3, 4, 5, 6, 7, 8] [] (by kernel_rfl) ?_ | ((first | apply GD_at | apply GL_at | apply GD_no | apply GL_no); exact rfl) | apply DFin_0 | (apply q1_; exact z_) | (apply q0_; exact z_) | (apply q2_; exact z_) | (apply c_; exact z_; all_goals intro _) | (apply g_; exact z_; all_goals intro _))
      have e1 : lateI k l = (i : Int) := by
        have : (timesV k l).findIdx? (fun r => decide (k.last < r.2)) = some i := by
          rw [List.findIdx?_eq_some_iff_getElem]
          refine ⟨by omega, ?_, fun j hj => ?_⟩
          · have e : nth (timesV k l) i = (timesV k l)[i] := by simp [nth, show i < (timesV k l).length by omega]
            rw [← e]; simpa using hge
          · have e : nth (timesV k l) j = (timesV k l)[j] := by simp [nth, show j < (timesV k l).length by omega]
            rw [← e]; simpa using hno j hj
        simp only [lateI, this]
      rw [e1]
      exact GX_ex rfl rfl mem_ rfl
    · repeat' (first | apply s_ | ((first | apply JO_ob | apply GD_ex | apply GL_ex); exact rfl; first | exact ob1 | exact Ob_call rfl (fun w5 hw5 => hc w5 hw5) | exact Ob_fv rfl rfl) | ((first | apply b_ | apply a_ | apply i_); exact z_; intro _) | ((first | apply p_ | apply JO_yes | apply GC_t); exact z_) | (apply n_; exact z_) | (apply GC_f; exact z_) | (apply GX_block_on; exact z_) | refine GC_drawA (id := 4) [0, 1, 2, 3, 4, 5, 6, 7, 8] [] (by kernel_rfl) ?_ | ((first | apply GD_at | apply GL_at | apply GD_no | apply GL_no); exact rfl) | apply DFin_0 | (apply q1_; exact z_) | (apply q0_; exact z_) | (apply q2_; exact z_) | (apply c_; exact z_; all_goals intro _) | (apply g_; exact z_; all_goals intro _))
      refine GX_loop (i + 1) ⟨rfl, rfl, rfl, rfl, trivial⟩ (by omega) ⟨by omega, fun j hj => ?_⟩ (fun w hw => hw)
      by_cases e : j < i
      · exact hno j e
      · rw [show j = i by omega]; omega
  · have e1 : lateI k l = -1 := by
      have : (timesV k l).findIdx? (fun r => decide (k.last < r.2)) = none := by
        rw [List.findIdx?_eq_none_iff]
        intro r hr
        obtain ⟨j, hj⟩ := List.getElem?_of_mem hr
        have hjl := (List.getElem?_eq_some_iff.1 hj).1
        have e : nth (timesV k l) j = r := by simp [nth, hj]
        have := hno j (by omega)
        rw [e] at this
        simpa using this
      simp only [lateI, this]
    rw [e1]
    repeat' (first | apply s_ | ((first | apply JO_ob | apply GD_ex | apply GL_ex); exact rfl; first | exact ob1) | ((first | apply b_ | apply a_ | apply i_); exact z_; intro _) | ((first | apply p_ | apply JO_yes | apply GC_t); exact z_) | (apply n_; exact z_) | (apply GC_f; exact z_) | (apply GX_block_on; exact z_) | refine GC_drawA (id := 4) [0, 1, 2, 3, 4, 5, 6, 7, 8] [] (by kernel_rfl) ?_ | ((first | apply GD_at | apply GL_at | apply GD_no | apply GL_no); exact rfl) | apply DFin_0 | (apply q1_; exact z_) | (apply q0_; exact z_) | (apply q2_; exact z_) | (apply c_; exact z_; all_goals intro _) | (apply g_; exact z_; all_goals intro _))
    exact GX_ex rfl rfl mem_ rfl
/-- Works with another ending of a vat. -/
def endedK (k : Wk) (vat : Nat) (x : Int) : Wk := { k with ends := k.ends.set vat x }
theorem c94 (h : WkA All w a b c hs d e f k) (hl : k.ends.length ≤ 1000000) (vat : Nat) (hv : vat < k.ends.length) (x : Int) :
    Rt 94 [wkV a b c d e f k, .int .i64 (vat : Int), .int .i64 x] w fun v w' => Keep w w' ∧ ∃ f', v = wkV a b c d e f' (endedK k vat x) ∧ Arr (New w) w' 1 encI f' (k.ends.set vat x) := by
  have i1 := h.yard.fields.v1
  have i2 := h.yard.vats.arr.v1
  have i3 := h.yard.smps.v1
  have i4 := h.beat.vats.v1
  have i5 := h.beat.smps.v1
  have i6 := h.ends.v1
  have he := h.ends
  refine Rt_of Tryz.func94 rfl Tryz.ntmps94 rfl ?_
  repeat' (first | apply s_ | (apply JO_ob; exact rfl; first | exact ob1) | ((first | apply b_ | apply a_ | apply i_); exact z_; intro _) | ((first | apply p_ | apply JO_yes | apply GC_t); exact z_) | (apply n_; exact z_) | (apply GC_f; exact z_) | (apply GX_block_on; exact z_) | (apply c_; exact z_; all_goals intro _))
  rename_i p3 p6 p7 b9
  refine JO_append (xs := []) (ys := k.ends) (sp := []) [_, _, _] rfl rfl rfl (Own.lit (b := b9) [] (fun _ => rfl) rfl rfl) (List.perm_append_singleton _ _).symm (fun w hw => hw.slArr (.head _) he (by decide)) (allOne_flat (fun _ => rfl) _) (by simp; omega) ?_
  intro v3 s3 ho3
  have j3 := ho3.v1
  rw [List.nil_append] at ho3
  rcases ho3.c with ⟨_, h0, _⟩ | ⟨bb, cc, rfl, g1, g2, g3, g4⟩
  · omega
  simp only [rowH, List.cons_append, List.nil_append]
  repeat' (first | apply s_ | (apply JO_ob; exact rfl; first | exact ob1 | exact Ob_index_row rfl rfl hv) | ((first | apply b_ | apply a_ | apply i_); exact z_; intro _) | ((first | apply p_ | apply JO_yes | apply GC_t); exact z_) | (apply n_; exact z_) | (apply GC_f; exact z_) | (apply GX_block_on; exact z_) | (apply c_; exact z_; all_goals intro _))
  refine JO_store_row (m := 1) (k := 0) (sz := 1) (j := 3) (xs := k.ends) (sp := s3) (a := nth k.ends vat) (a' := x) (vs := [.int .i64 x]) (fun _ => rfl) rfl rfl rfl inferInstance rfl (nth_some hv) (Nat.le_refl 1) rfl ?_
  simp only [setH]
  repeat' (first | apply s_ | (apply JO_ob; exact rfl; first | exact ob1) | ((first | apply b_ | apply a_ | apply i_); exact z_; intro _) | ((first | apply p_ | apply JO_yes | apply GC_t); exact z_) | (apply n_; exact z_) | (apply GC_f; exact z_) | (apply GX_block_on; exact z_) | (apply c_; exact z_; all_goals intro _))
  have hsl : (k.ends.set vat x).length = k.ends.length := List.length_set ..
  have hfl := flatMap_len (enc := encI) (sz := 1) (fun _ => rfl) (k.ends.set vat x)
  have ho4 : Own 1 encI (.slice (some ⟨bb, 0, none⟩) k.ends.length cc) (k.ends.set vat x) s3 := ⟨fun _ => rfl, .inr ⟨bb, cc, by rw [hsl], by omega, g2, hfl, by omega⟩⟩
  exact GX_retc (cs := wkC a b c d e (.slice (some ⟨bb, 0, none⟩) k.ends.length cc) k) rfl rfl mem_ rfl fun w' hw' => ⟨hw'.kp mem_, _, rfl, ho4.ret (A := [_, _, _]) (by decide) hw' mem_⟩
end
end Go.Proofs.YtkbaaikidhbfmaaGreat
/- Contracts: what is asked of works, the reference's wise endings. No statement is proved here. -/
set_option linter.unusedVariables false
set_option linter.unusedSimpArgs false
namespace Go.Proofs.YtkbaaikidhbfmaaGreat
open Go.RowKit
/-- What asked hands back. -/
def AskW (w : World) (k : Wk) (fine : Bool) (v : Value) (w' : World) : Prop :=
  (fault9 k ≠ 0 ∧ v = .tuple #[.slice none 0 0, .int .i64 (fault9 k)]) ∨ (fault9 k = 0 ∧ fine = false ∧ v = .tuple #[.slice none 0 0, .int .i64 2]) ∨
  (fault9 k = 0 ∧ fine = true ∧ ∃ u es, v = .tuple #[u, .int .i64 0] ∧ PNest (New w) w' u es (pairs k))
def loE (k : Wk) (i : Nat) (x : Int) : Int := (hull ((pairs k).map fun p => mudR (endedK k i x) p.1 p.2 (i : Int))).1
def refW (k : Wk) (i n : Nat) : Int × Int := (List.range n).foldl (fun (s : Int × Int) (m : Nat) => if s.2 < loE k i (m : Int) then ((m : Int), loE k i (m : Int)) else s) (0, -1)
theorem refW_succ (k : Wk) (i n : Nat) : refW k i (n + 1) = if (refW k i n).2 < loE k i (n : Int) then ((n : Int), loE k i (n : Int)) else refW k i n := by
  simp only [refW, List.range_succ, List.foldl_append, List.foldl_cons, List.foldl_nil]
  rfl
def wiseR (k : Wk) : List Int := (List.range k.yard.vats.length).map fun i => (refW k i (k.beat.last + 1).toNat).1
theorem endedK_okW {k : Wk} (h : OkK k) {i : Nat} {x : Int} (hx : 0 ≤ x ∧ x ≤ k.beat.last) : OkW (endedK k i x) := by
  have he := h.ends
  simp only [areEnd, Bool.and_eq_true, decide_eq_true_eq] at he
  refine ⟨h.y, h.b, h.len, ?_⟩
  simp only [areEnd, Bool.and_eq_true, decide_eq_true_eq, endedK, List.length_set]
  refine ⟨?_, he.2⟩
  rw [List.all_eq_true] at he ⊢
  intro y hy
  rcases List.mem_or_eq_of_mem_set hy with hy | rfl
  · exact he.1 y hy
  · exact decide_eq_true hx
section
variable {w : World} {a b c d e f v : Value} {hs : List Value} {k : Wk} {es : List (Value × Int × Value)}
theorem c24 (h : WkA All w a b c hs d e f k) (fine : Bool) : Rt 24 [wkV a b c d e f k, .bool fine] w fun v w' => Keep w w' ∧ AskW w k fine v w' := by
  have i1 := h.yard.fields.v1
  have i2 := h.yard.vats.arr.v1
  have i3 := h.yard.smps.v1
  have i4 := h.beat.vats.v1
  have i5 := h.beat.smps.v1
  have i6 := h.ends.v1
  refine Rt_of Tryz.func24 rfl Tryz.ntmps24 rfl ?_
  by_cases hf : fault9 k = 0
  · have hK := okK_of hf
    cases fine
    · repeat' (first | apply s_ | (apply JO_ob; exact rfl; first | exact ob1 | exact Ob_call rfl (fun w5 hw5 => c72 w5 a b c hs d e f k (hw5.wk (.head _) h))) | ((first | apply b_ | apply a_ | apply i_); exact z_; intro _) | ((first | apply p_ | apply JO_yes | apply GC_t); exact z_) | (apply n_; exact z_) | (apply GC_f; exact z_) | (apply GX_block_on; exact z_))
      exact GX_ret2 rfl rfl rfl fun w' hw' => ⟨hw'.kp mem_, .inr (.inl ⟨hf, rfl, rfl⟩)⟩
    · repeat' (first | apply s_ | (apply JO_ob; exact rfl; first | exact ob1 | exact Ob_call rfl (fun w5 hw5 => c72 w5 a b c hs d e f k (hw5.wk (.head _) h))) | ((first | apply b_ | apply a_ | apply i_); exact z_; intro _) | ((first | apply p_ | apply JO_yes | apply GC_t); exact z_) | (apply n_; exact z_) | (apply GC_f; exact z_) | (apply GX_block_on; exact z_))
      refine JO_call (S := fun w0 v w1 => ∃ es, PNest (New w0) w1 v es (pairs k)) rfl rfl (fun w5 hw5 => c49 w5 a b c hs d e f k (hw5.wk (.head _) h) hK.y hK.b hK.m1 hK.m3) ?_
      rintro u u0 u1 hu0 hu1 hk ⟨es, hP⟩
      have iu := hP.arr.v1
      repeat' (first | apply s_ | (apply JO_ob; exact rfl; first | exact ob1) | ((first | apply b_ | apply a_ | apply i_); exact z_; intro _) | ((first | apply p_ | apply JO_yes | apply GC_t); exact z_) | (apply n_; exact z_) | (apply GC_f; exact z_) | (apply GX_block_on; exact z_))
      exact GX_ret2 rfl rfl rfl fun w' hw' => ⟨hw'.kp mem_, .inr (.inr ⟨hf, rfl, u, es, rfl, ⟨hP.len, (hw'.arr (.head _) hP.arr).weaken fun b hb _ => Nat.le_trans hu0.b0le hb, fun i hi => ⟨(hw'.arr (.head _) (hP.row i hi).1).weaken fun b hb _ => Nat.le_trans hu0.b0le hb, (hP.row i hi).2.1, (hw'.arr (.head _) (hP.row i hi).2.2).weaken fun b hb _ => Nat.le_trans hu0.b0le hb⟩⟩⟩)⟩
  · repeat' (first | apply s_ | (apply JO_ob; exact rfl; first | exact ob1 | exact Ob_call rfl (fun w5 hw5 => c72 w5 a b c hs d e f k (hw5.wk (.head _) h))) | ((first | apply b_ | apply a_ | apply i_); exact z_; intro _) | ((first | apply p_ | apply JO_yes | apply GC_t); exact z_) | (apply n_; exact z_) | (apply GC_f; exact z_) | (apply GX_block_on; exact z_))
    exact GX_ret2 rfl rfl rfl fun w' hw' => ⟨hw'.kp mem_, .inl ⟨hf, rfl⟩⟩
theorem c28E (h : WkA All w a b c hs d e f k) (hK : OkK k) (hP : PNest All w v es (pairs k)) {i : Nat} (hi : i < k.yard.vats.length) {x : Int} (hx : 0 ≤ x ∧ x ≤ k.beat.last) {f' : Value} (hf : Arr All w 1 encI f' (k.ends.set i x)) :
    Ex 28 [wkV a b c d e f' (endedK k i x), v, .int .i64 (i : Int)] w (.agg #[.int .i64 (loE k i x), .int .i64 (hull ((pairs k).map fun p => mudR (endedK k i x) p.1 p.2 (i : Int))).2]) :=
  c28 (k := endedK k i x) (hs := hs) ⟨h.yard, h.beat, hf⟩ (endedK_okW hK hx) hP (fun j hj => psOk_pairs hK j hj) i hi
theorem c41 (h : WkA All w a b c hs d e f k) (hK : OkK k) (hP : PNest All w v es (pairs k)) : Rt 41 [wkV a b c d e f k, v] w fun v w' => Keep w w' ∧ Arr (New w) w' 1 encI v (wiseR k) := by
  have i1 := h.yard.fields.v1
  have i2 := h.yard.vats.arr.v1
  have i3 := h.yard.smps.v1
  have i4 := h.beat.vats.v1
  have i5 := h.beat.smps.v1
  have i6 := h.ends.v1
  have i7 := hP.arr.v1
  have v3 := hK.v3
  have eL := hK.endsL
  have bL := hK.b.l
  have hsl := h.yard.vats.len
  have hwl : (wiseR k).length = k.yard.vats.length := by simp [wiseR]
  have hwn : ∀ i, i < k.yard.vats.length → nth (wiseR k) i = (refW k i (k.beat.last + 1).toNat).1 := fun i hi => by simp [wiseR, nth, hi]
  refine Rt_of Tryz.func41 rfl Tryz.ntmps41 rfl ?_
  repeat' (first | apply s_ | (apply JO_ob; exact rfl; first | exact ob1) | ((first | apply b_ | apply a_ | apply i_); exact z_; intro _) | ((first | apply p_ | apply JO_yes | apply GC_t); exact z_) | (apply n_; exact z_) | (apply GC_f; exact z_) | (apply GX_block_on; exact z_) | (apply c_; exact z_; all_goals intro _))
  rename_i p2
  let Hf : Value → Nat → List Value → Hp := fun v n s => (p2, .cells (wkC a b c d e f k).toArray 35) :: rowH v 3 (((wiseR k).take n).flatMap encI ++ s)
  refine GC_loop (α := Nat × Value × List Value) (fun s => k.yard.vats.length - s.1) (fun s => [(2, pt p2), (1, v), (5, s.2.1), (6, .int .i64 (s.1 : Int))]) (fun _ => [((fun _ => True), w)])
    (fun s => Hf s.2.1 s.1 s.2.2) (fun s => s.1 ≤ k.yard.vats.length ∧ Own 1 encI s.2.1 ((wiseR k).take s.1) s.2.2) (0, .slice none 0 0, []) ⟨rfl, rfl, rfl, rfl, trivial⟩ ⟨Nat.zero_le _, Own.nil fun _ => rfl⟩ (fun w hw => hw) ?_
  rintro ⟨i, ov, sp⟩ ⟨hi, ho⟩
  simp only at hi ho ⊢
  have jo := ho.v1
  by_cases hlt : i < k.yard.vats.length
  · simp only [Hf]
    repeat' (first | apply s_ | (apply JO_ob; exact rfl; first | exact ob1 | exact Ob_call rfl (fun w hw => c26 w a b c _ _ d _ e f _ _ _ _ (hw.arr mem_ h.yard.vats.arr))) | ((first | apply b_ | apply a_ | apply i_); exact z_; intro _) | ((first | apply p_ | apply JO_yes | apply GC_t); exact z_) | (apply n_; exact z_) | (apply GC_f; exact z_) | (apply GX_block_on; exact z_) | (apply c_; exact z_; all_goals intro _))
    refine GC_loop (α := Nat) (fun s => (k.beat.last + 1).toNat - s) (fun s => [(2, pt p2), (1, v), (5, ov), (6, .int .i64 (i : Int)), (7, .int .i64 (refW k i s).1), (8, .int .i64 (refW k i s).2), (9, .int .i64 (s : Int))]) (fun _ => [((fun _ => True), w)])
      (fun s => Hf ov i sp) (fun s => (s : Int) ≤ k.beat.last + 1) 0 ⟨rfl, rfl, rfl, rfl, rfl, rfl, rfl, trivial⟩ (by omega) (fun w hw => hw) ?_
    intro s hs1
    by_cases hls : (s : Int) ≤ k.beat.last
    · simp only [Hf]
      repeat' (first | apply s_ | (apply JO_ob; exact rfl; first | exact ob1) | ((first | apply b_ | apply a_ | apply i_); exact z_; intro _) | ((first | apply p_ | apply JO_yes | apply GC_t); exact z_) | (apply n_; exact z_) | (apply GC_f; exact z_) | (apply GX_block_on; exact z_) | (apply c_; exact z_; all_goals intro _))
      refine JO_call (S := fun w0 v w1 => ∃ f', v = wkV a b c d e f' (endedK k i (s : Int)) ∧ Arr (New w0) w1 1 encI f' (k.ends.set i (s : Int))) rfl rfl (fun w5 hw5 => c94 (hw5.wk (.head _) h) (by omega) i (by omega) (s : Int)) ?_
      rintro _ u0 u1 hu0 hu1 hk01 ⟨f', rfl, hf'⟩
      have iff := hf'.v1
      by_cases hgt : (refW k i s).2 < loE k i (s : Int)
      · repeat' (first | apply s_ | (apply JO_ob; exact rfl; first | exact ob1 | exact Ob_call rfl (fun w5 hw5 => c28E (hw5.wk mem_ h) hK (hw5.pn mem_ hP) hlt ⟨by omega, hls⟩ ((hw5.arr (.head _) hf').weaken fun _ _ _ => trivial)) | exact Ob_fv rfl rfl) | ((first | apply b_ | apply a_ | apply i_); exact z_; intro _) | ((first | apply p_ | apply JO_yes | apply GC_t); exact z_) | (apply n_; exact z_) | (apply GC_f; exact z_) | (apply GX_block_on; exact z_) | (apply c_; exact z_; all_goals intro _))
        refine GX_loop (s + 1) ⟨rfl, rfl, rfl, rfl, ?_, ?_, rfl, trivial⟩ (by omega) (by omega) (fun w hw => hw.weak (fun r h => .tail _ h) (List.Sublist.refl _))
        · rw [refW_succ, if_pos hgt]; rfl
        · rw [refW_succ, if_pos hgt]; rfl
      · repeat' (first | apply s_ | (apply JO_ob; exact rfl; first | exact ob1 | exact Ob_call rfl (fun w5 hw5 => c28E (hw5.wk mem_ h) hK (hw5.pn mem_ hP) hlt ⟨by omega, hls⟩ ((hw5.arr (.head _) hf').weaken fun _ _ _ => trivial)) | exact Ob_fv rfl rfl) | ((first | apply b_ | apply a_ | apply i_); exact z_; intro _) | ((first | apply p_ | apply JO_yes | apply GC_t); exact z_) | (apply n_; exact z_) | (apply GC_f; exact z_) | (apply GX_block_on; exact z_) | (apply c_; exact z_; all_goals intro _))
        refine GX_loop (s + 1) ⟨rfl, rfl, rfl, rfl, ?_, ?_, rfl, trivial⟩ (by omega) (by omega) (fun w hw => hw.weak (fun r h => .tail _ h) (List.Sublist.refl _))
        · rw [refW_succ, if_neg hgt]; rfl
        · rw [refW_succ, if_neg hgt]; rfl
    · have es9 : s = (k.beat.last + 1).toNat := by omega
      subst es9
      simp only [Hf]
      repeat' (first | apply s_ | (apply JO_ob; exact rfl; first | exact ob1) | ((first | apply b_ | apply a_ | apply i_); exact z_; intro _) | ((first | apply p_ | apply JO_yes | apply GC_t); exact z_) | (apply n_; exact z_) | (apply GC_f; exact z_) | (apply GX_block_on; exact z_) | (apply c_; exact z_; all_goals intro _))
      refine JO_append (xs := (wiseR k).take i) (ys := [(refW k i (k.beat.last + 1).toNat).1]) [_, _] rfl rfl rfl ho (List.Perm.refl _) (fun w hw => hw.slOwn mem_ rfl) rfl (by simp; omega) ?_
      intro v3 s3 ho3
      have j3 := ho3.v1
      have e6 : (wiseR k).take i ++ [(refW k i (k.beat.last + 1).toNat).1] = (wiseR k).take (i + 1) := by
        rw [take_snoc (by omega), hwn i hlt]
      rw [e6] at ho3 ⊢
      repeat' (first | apply s_ | (apply JO_ob; exact rfl; first | exact ob1) | ((first | apply b_ | apply a_ | apply i_); exact z_; intro _) | ((first | apply p_ | apply JO_yes | apply GC_t); exact z_) | (apply n_; exact z_) | (apply GC_f; exact z_) | (apply GX_block_on; exact z_) | (apply c_; exact z_; all_goals intro _))
      exact GX_loop (i + 1, v3, s3) ⟨rfl, rfl, rfl, rfl, trivial⟩ (by simp only; omega) ⟨by simp only; omega, ho3⟩ fun w hw => hw.weak (fun r h => h) (List.Sublist.cons _ (List.Sublist.refl _))
  · have ei : (wiseR k).take i = wiseR k := List.take_of_length_le (by omega)
    simp only [Hf]
    rw [ei] at ho ⊢
    repeat' (first | apply s_ | (apply JO_ob; exact rfl; first | exact ob1 | exact Ob_call rfl (fun w hw => c26 w a b c _ _ d _ e f _ _ _ _ (hw.arr mem_ h.yard.vats.arr))) | ((first | apply b_ | apply a_ | apply i_); exact z_; intro _) | ((first | apply p_ | apply JO_yes | apply GC_t); exact z_) | (apply n_; exact z_) | (apply GC_f; exact z_) | (apply GX_block_on; exact z_) | (apply c_; exact z_; all_goals intro _))
    exact GX_ret1 rfl rfl fun w' hw' => ⟨hw'.kp mem_, ho.ret (A := [_]) (by decide) hw' mem_⟩
end
end Go.Proofs.YtkbaaikidhbfmaaGreat
