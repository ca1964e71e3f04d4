/- The walks of the functions that the laws of the chapter 09 reach, and what they compute, part 3. No statement is proved here; no condition. -/
import Derived.Lib.AppendZeros
import Derived.Test.YtkbaaikidhbfmaaGreatB2
/- Contracts: any two truths. No statement is proved here. -/
set_option linter.unusedVariables false
namespace Go.Proofs.YtkbaaikidhbfmaaGreat
open Go.RowKit
def encP (e : Value × Int × Value) : List Value := [e.1, .int .i64 e.2.1, e.2.2]
structure PNest (G : Nat → Prop) (w : World) (v : Value) (es : List (Value × Int × Value)) (ps : List (List Int × Crs)) : Prop where
  len : es.length = ps.length
  arr : Arr G w 3 encP v es
  row : ∀ i, i < ps.length → Arr G w 1 encI (nth es i).1 (nth ps i).1 ∧ (nth es i).2.1 = (nth ps i).2.sun ∧ Arr G w 1 encI (nth es i).2.2 (nth ps i).2.needs
/-- Any two of two lists. -/
def prod {α β : Type} (xs : List α) (ys : List β) : List (α × β) := xs.flatMap fun x => ys.map fun y => (x, y)
theorem prod_len {α β : Type} (xs : List α) (ys : List β) : (prod xs ys).length = xs.length * ys.length := by
  induction xs with
  | nil => simp [prod]
  | cons x xs ih => simp only [prod, List.flatMap_cons, List.length_append, List.length_map] at *; rw [ih]; simp [Nat.add_mul, Nat.add_comm]
theorem prod_nth {α β : Type} [Inhabited α] [Inhabited β] : ∀ (xs : List α) (ys : List β) (i j : Nat), i < xs.length → j < ys.length → nth (prod xs ys) (i * ys.length + j) = (nth xs i, nth ys j)
  | [], ys, i, j, hi, _ => by simp at hi
  | x :: xs, ys, 0, j, _, hj => by
    simp only [prod, List.flatMap_cons, Nat.zero_mul, Nat.zero_add]
    rw [nth_app_l (by simpa using hj)]
    simp [nth, hj]
  | x :: xs, ys, i + 1, j, hi, hj => by
    have ih := prod_nth xs ys i j (by simpa using hi) hj
    have e : (i + 1) * ys.length + j = (ys.map fun y => (x, y)).length + (i * ys.length + j) := by simp [Nat.add_mul]; omega
    simp only [prod, List.flatMap_cons]
    rw [e]
    have e2 : ∀ (us bs : List (α × β)) (n : Nat), nth (us ++ bs) (us.length + n) = nth bs n := fun us bs n => by simp [nth, List.getElem?_append_right]
    rw [e2]
    have e3 : nth (x :: xs) (i + 1) = nth xs i := by simp [nth]
    rw [e3]; exact ih
abbrev mkE (p : Value × (Int × Value)) : Value × Int × Value := (p.1, p.2.1, p.2.2)
/-- Any two truths. -/
def pairs (k : Wk) : List (List Int × Crs) := prod (truths1 k.yard) (truths3 k.beat)
theorem take_mul_snoc {α β : Type} [Inhabited α] [Inhabited β] {xs : List α} {ys : List β} {i j : Nat} (hi : i < xs.length) (hj : j < ys.length) : (prod xs ys).take (i * ys.length + (j + 1)) = (prod xs ys).take (i * ys.length + j) ++ [(nth xs i, nth ys j)] := by
  have h1 : i * ys.length + j < (prod xs ys).length := by
    rw [prod_len]
    have : (i + 1) * ys.length ≤ xs.length * ys.length := Nat.mul_le_mul_right _ hi
    rw [Nat.add_mul] at this; omega
  rw [show i * ys.length + (j + 1) = (i * ys.length + j) + 1 by omega, take_snoc h1, prod_nth xs ys i j hi hj]
theorem c49 (w : World) (a b c : Value) (hs : List Value) (d e f : Value) (k : Wk) (h : WkA All w a b c hs d e f k) (oy : OkY k.yard) (ob : OkB k.beat) (om : many1 k.yard.fields ≤ 2000) (obm : many3 k.beat ≤ 200) :
    Rt 49 [wkV a b c d e f k] w fun v w' => Keep w w' ∧ ∃ es, PNest (New w) w' v es (pairs k) := by
  have i1 := h.yard.fields.v1
  have i2 := h.yard.vats.arr.v1
  have i3 := h.yard.smps.v1
  have i4 := h.beat.vats.v1
  have i5 := h.beat.smps.v1
  have i6 := h.ends.v1
  refine Rt_of Tryz.func49 rfl Tryz.ntmps49 rfl ?_
  repeat' (first | apply s_ | ((first | apply JO_ob | apply GD_ex | apply GL_ex); exact rfl; first | exact ob1) | ((first | apply b_ | apply a_ | apply i_); exact z_; intro _) | ((first | apply p_ | apply JO_yes | apply GC_t); exact z_) | (apply n_; exact z_) | (apply GC_f; exact z_) | (apply GX_block_on; exact z_) | refine GC_drawB (id := 2) [0, 1] [3, 4] [2, 5, 6, 7] _ (by kernel_rfl) (List.Sublist.refl _) ?_ | refine GC_drawB (id := 9) [1, 2, 3, 4, 5, 6, 7, 8, 9] [0] [10, 11, 12] _ (by kernel_rfl) (List.Sublist.refl _) ?_ | ((first | apply GD_at | apply GL_at | apply GD_no | apply GL_no); exact rfl) | apply DFin_0 | (apply q1_; exact z_) | (apply q0_; exact z_) | (apply q2_; exact z_) | (apply c_; exact z_; all_goals intro _) | (apply g_; exact z_; all_goals intro _))
  rename_i p
  refine JO_call (S := fun w0 r w' => ∃ hs', Nest (New w0) w' r hs' (truths1 k.yard)) rfl rfl (fun w5 hw5 => c96 w5 a b c hs k.yard (hw5.yd mem_ h.yard) oy) ?_
  rintro r1 u0 u1 hu0 hu1 hk01 ⟨hs1, hN1⟩
  have n1 := hN1.arr
  have n2 := hN1.len
  have n3 := n1.v1
  repeat' (first | apply s_ | ((first | apply JO_ob | apply GD_ex | apply GL_ex); exact rfl; first | exact ob1) | ((first | apply b_ | apply a_ | apply i_); exact z_; intro _) | ((first | apply p_ | apply JO_yes | apply GC_t); exact z_) | (apply n_; exact z_) | (apply GC_f; exact z_) | (apply GX_block_on; exact z_) | refine GC_drawB (id := 2) [0, 1] [3, 4] [2, 5, 6, 7] _ (by kernel_rfl) (List.Sublist.refl _) ?_ | refine GC_drawB (id := 9) [1, 2, 3, 4, 5, 6, 7, 8, 9] [0] [10, 11, 12] _ (by kernel_rfl) (List.Sublist.refl _) ?_ | ((first | apply GD_at | apply GL_at | apply GD_no | apply GL_no); exact rfl) | apply DFin_0 | (apply q1_; exact z_) | (apply q0_; exact z_) | (apply q2_; exact z_) | (apply c_; exact z_; all_goals intro _) | (apply g_; exact z_; all_goals intro _))
  refine JO_call (S := fun w0 r w' => ∃ es, CNest (New w0) w' r es (truths3 k.beat)) rfl rfl (fun w5 hw5 => c98 w5 d e k.beat (hw5.bt mem_ h.beat) ob) ?_
  rintro r2 u2 u3 hu2 hu3 hk23 ⟨es, hN2⟩
  have m1 := hN2.arr
  have m2 := hN2.len
  have m3 := m1.v1
  repeat' (first | apply s_ | ((first | apply JO_ob | apply GD_ex | apply GL_ex); exact rfl; first | exact ob1) | ((first | apply b_ | apply a_ | apply i_); exact z_; intro _) | ((first | apply p_ | apply JO_yes | apply GC_t); exact z_) | (apply n_; exact z_) | (apply GC_f; exact z_) | (apply GX_block_on; exact z_) | refine GC_drawB (id := 2) [0, 1] [3, 4] [2, 5, 6, 7] _ (by kernel_rfl) (List.Sublist.refl _) ?_ | refine GC_drawB (id := 9) [1, 2, 3, 4, 5, 6, 7, 8, 9] [0] [10, 11, 12] _ (by kernel_rfl) (List.Sublist.refl _) ?_ | ((first | apply GD_at | apply GL_at | apply GD_no | apply GL_no); exact rfl) | apply DFin_0 | (apply q1_; exact z_) | (apply q0_; exact z_) | (apply q2_; exact z_) | (apply c_; exact z_; all_goals intro _) | (apply g_; exact z_; all_goals intro _))
  have nb := n1.bound
  have mb := m1.bound
  let E : List (Value × (Int × Value)) := prod hs1 es
  let Hf : Value → Nat → List Value → Hp := fun v q s2 => (p, .cells #[a, b, c, .int .i64 k.beat.sun.1, .int .i64 k.beat.sun.2, d, .int .i64 k.beat.last, e, f, .int .i64 k.boxes, .int .i64 k.force, .int .i64 k.last, .int .i64 k.cake] 35) :: rowH v 86 (((E.take q).map mkE).flatMap encP ++ s2)
  have hbE : hs1.length * es.length ≤ 400000 := by
    have z1 := truthsTo_len k.yard (many1 k.yard.fields).toNat
    have z2 := truths3To_len k.beat (many3 k.beat).toNat
    have z3 : hs1.length ≤ 2000 := by rw [n2]; exact Nat.le_trans z1 (by omega)
    have z4 : es.length ≤ 200 := by rw [m2]; exact Nat.le_trans z2 (by omega)
    exact Nat.le_trans (Nat.mul_le_mul z3 z4) (by decide)
  refine GC_loop (α := Nat × Value × List Value) (fun s => hs1.length - s.1) (fun s => [(1, .pointer (some ⟨p, 0, none⟩)), (3, s.2.1), (4, r1), (5, r2), (6, .int .i64 (s.1 : Int))]) (fun _ => [(fun b => u2.heap.size ≤ b, u3), (fun b => u0.heap.size ≤ b, u1), (fun _ => True, w)])
    (fun s => Hf s.2.1 (s.1 * es.length) s.2.2) (fun s => s.1 ≤ hs1.length ∧ Own 3 encP s.2.1 ((E.take (s.1 * es.length)).map mkE) s.2.2) (0, .slice none 0 0, []) ⟨rfl, rfl, rfl, rfl, rfl, trivial⟩ ⟨Nat.zero_le _, by simp only [Nat.zero_mul, List.take_zero, List.map_nil]; exact Own.nil fun _ => rfl⟩ (fun w hw => by simp only [Hf, Nat.zero_mul, List.take_zero, List.map_nil]; exact hw) ?_
  rintro ⟨i, v1, s1⟩ ⟨hi, ho1⟩
  simp only at hi ho1 ⊢
  have j1 := ho1.v1
  by_cases hlt : i < hs1.length
  · simp only [Hf]
    repeat' (first | apply s_ | ((first | apply JO_ob | apply GD_ex | apply GL_ex); exact rfl; first | exact ob1) | ((first | apply b_ | apply a_ | apply i_); exact z_; intro _) | ((first | apply p_ | apply JO_yes | apply GC_t); exact z_) | (apply n_; exact z_) | (apply GC_f; exact z_) | (apply GX_block_on; exact z_) | refine GC_drawB (id := 2) [0, 1] [3, 4] [2, 5, 6, 7] _ (by kernel_rfl) (List.Sublist.refl _) ?_ | refine GC_drawB (id := 9) [1, 2, 3, 4, 5, 6, 7, 8, 9] [0] [10, 11, 12] _ (by kernel_rfl) (List.Sublist.refl _) ?_ | ((first | apply GD_at | apply GL_at | apply GD_no | apply GL_no); exact rfl) | apply DFin_0 | (apply q1_; exact z_) | (apply q0_; exact z_) | (apply q2_; exact z_) | (apply c_; exact z_; all_goals intro _) | (apply g_; exact z_; all_goals intro _))
    refine GC_loop (α := Nat × Value × List Value) (fun s => es.length - s.1) (fun s => [(1, .pointer (some ⟨p, 0, none⟩)), (3, s.2.1), (4, r1), (5, r2), (6, .int .i64 (i : Int)), (7, .int .i64 (s.1 : Int))]) (fun _ => [(fun b => u2.heap.size ≤ b, u3), (fun b => u0.heap.size ≤ b, u1), (fun _ => True, w)])
      (fun s => Hf s.2.1 (i * es.length + s.1) s.2.2) (fun s => s.1 ≤ es.length ∧ Own 3 encP s.2.1 ((E.take (i * es.length + s.1)).map mkE) s.2.2) (0, v1, s1) ⟨rfl, rfl, rfl, rfl, rfl, rfl, trivial⟩ ⟨Nat.zero_le _, ho1⟩ (fun w hw => hw) ?_
    rintro ⟨j, v2, s2⟩ ⟨hj, ho2⟩
    simp only at hj ho2 ⊢
    have j2 := ho2.v1
    by_cases hlj : j < es.length
    · simp only [Hf]
      have g1 := (hN1.row i (by omega)).v1
      have g2 := (hN2.row j (by omega)).2.v1
      repeat' (first | apply s_ | ((first | apply JO_ob | apply GD_ex | apply GL_ex); exact rfl; first | exact ob1) | ((first | apply b_ | apply a_ | apply i_); exact z_; intro _) | ((first | apply p_ | apply JO_yes | apply GC_t); exact z_) | (apply n_; exact z_) | (apply GC_f; exact z_) | (apply GX_block_on; exact z_) | refine GC_drawB (id := 2) [0, 1] [3, 4] [2, 5, 6, 7] _ (by kernel_rfl) (List.Sublist.refl _) ?_ | refine GC_drawB (id := 9) [1, 2, 3, 4, 5, 6, 7, 8, 9] [0] [10, 11, 12] _ (by kernel_rfl) (List.Sublist.refl _) ?_ | ((first | apply GD_at | apply GL_at | apply GD_no | apply GL_no); exact rfl) | apply DFin_0 | (apply q1_; exact z_) | (apply q0_; exact z_) | (apply q2_; exact z_) | (apply c_; exact z_; all_goals intro _) | (apply g_; exact z_; all_goals intro _))
      have hq : i * es.length + j < hs1.length * es.length := by
        have : (i + 1) * es.length ≤ hs1.length * es.length := Nat.mul_le_mul_right _ hlt
        rw [Nat.add_mul] at this; omega
      refine JO_append (xs := (E.take (i * es.length + j)).map mkE) (ys := [mkE (nth hs1 i, nth es j)]) [_, _] rfl rfl rfl ho2 (List.Perm.refl _) (fun w hw => hw.slOwn mem_ rfl) (VA.o (cs := [nth hs1 i, .int .i64 (nth es j).1, (nth es j).2])) (by simp; omega) ?_
      intro v3 s3 ho3
      have j3 := ho3.v1
      have e6 : (E.take (i * es.length + j)).map mkE ++ [mkE (nth hs1 i, nth es j)] = (E.take (i * es.length + (j + 1))).map mkE := by
        rw [take_mul_snoc hlt hlj, List.map_append]; rfl
      rw [e6] at ho3 ⊢
      repeat' (first | apply s_ | ((first | apply JO_ob | apply GD_ex | apply GL_ex); exact rfl; first | exact ob1) | ((first | apply b_ | apply a_ | apply i_); exact z_; intro _) | ((first | apply p_ | apply JO_yes | apply GC_t); exact z_) | (apply n_; exact z_) | (apply GC_f; exact z_) | (apply GX_block_on; exact z_) | refine GC_drawB (id := 2) [0, 1] [3, 4] [2, 5, 6, 7] _ (by kernel_rfl) (List.Sublist.refl _) ?_ | refine GC_drawB (id := 9) [1, 2, 3, 4, 5, 6, 7, 8, 9] [0] [10, 11, 12] _ (by kernel_rfl) (List.Sublist.refl _) ?_ | ((first | apply GD_at | apply GL_at | apply GD_no | apply GL_no); exact rfl) | apply DFin_0 | (apply q1_; exact z_) | (apply q0_; exact z_) | (apply q2_; exact z_) | (apply c_; exact z_; all_goals intro _) | (apply g_; exact z_; all_goals intro _))
      exact GX_loop (j + 1, v3, s3) ⟨rfl, rfl, rfl, rfl, rfl, rfl, trivial⟩ (by simp only; omega) ⟨by simp only; omega, ho3⟩ fun w hw => hw.weak (fun r h => h) (List.Sublist.cons _ (List.Sublist.refl _))
    · have hje : j = es.length := by omega
      subst hje
      simp only [Hf]
      repeat' (first | apply s_ | ((first | apply JO_ob | apply GD_ex | apply GL_ex); exact rfl; first | exact ob1) | ((first | apply b_ | apply a_ | apply i_); exact z_; intro _) | ((first | apply p_ | apply JO_yes | apply GC_t); exact z_) | (apply n_; exact z_) | (apply GC_f; exact z_) | (apply GX_block_on; exact z_) | refine GC_drawB (id := 2) [0, 1] [3, 4] [2, 5, 6, 7] _ (by kernel_rfl) (List.Sublist.refl _) ?_ | refine GC_drawB (id := 9) [1, 2, 3, 4, 5, 6, 7, 8, 9] [0] [10, 11, 12] _ (by kernel_rfl) (List.Sublist.refl _) ?_ | ((first | apply GD_at | apply GL_at | apply GD_no | apply GL_no); exact rfl) | apply DFin_0 | (apply q1_; exact z_) | (apply q0_; exact z_) | (apply q2_; exact z_) | (apply c_; exact z_; all_goals intro _) | (apply g_; exact z_; all_goals intro _))
      have e7 : i * es.length + es.length = (i + 1) * es.length := by rw [Nat.add_mul, Nat.one_mul]
      rw [e7] at ho2 ⊢
      exact GX_loop (i + 1, v2, s2) ⟨rfl, rfl, rfl, rfl, rfl, trivial⟩ (by simp only; omega) ⟨by simp only; omega, ho2⟩ fun w hw => hw
  · have hie : i = hs1.length := by omega
    subst hie
    have hE : E.take (hs1.length * es.length) = E := List.take_of_length_le (by rw [show E.length = hs1.length * es.length from prod_len hs1 es]; exact Nat.le_refl _)
    simp only [Hf]
    rw [hE] at ho1 ⊢
    repeat' (first | apply s_ | ((first | apply JO_ob | apply GD_ex | apply GL_ex); exact rfl; first | exact ob1) | ((first | apply b_ | apply a_ | apply i_); exact z_; intro _) | ((first | apply p_ | apply JO_yes | apply GC_t); exact z_) | (apply n_; exact z_) | (apply GC_f; exact z_) | (apply GX_block_on; exact z_) | refine GC_drawB (id := 2) [0, 1] [3, 4] [2, 5, 6, 7] _ (by kernel_rfl) (List.Sublist.refl _) ?_ | refine GC_drawB (id := 9) [1, 2, 3, 4, 5, 6, 7, 8, 9] [0] [10, 11, 12] _ (by kernel_rfl) (List.Sublist.refl _) ?_ | ((first | apply GD_at | apply GL_at | apply GD_no | apply GL_no); exact rfl) | apply DFin_0 | (apply q1_; exact z_) | (apply q0_; exact z_) | (apply q2_; exact z_) | (apply c_; exact z_; all_goals intro _) | (apply g_; exact z_; all_goals intro _))
    have hlen : (E.map mkE).length = (pairs k).length := by
      rw [List.length_map, show E.length = hs1.length * es.length from prod_len hs1 es, pairs, prod_len, n2, m2]
    refine GX_ret1 rfl rfl fun w' hw' => ⟨hw'.kp mem_, E.map mkE, hlen, ho1.ret (A := [_]) (by decide) hw' mem_, fun q hq => ?_⟩
    have hq2 : q < (truths1 k.yard).length * (truths3 k.beat).length := by rw [pairs, prod_len] at hq; exact hq
    have hpos : 0 < (truths3 k.beat).length := by
      rcases Nat.eq_zero_or_pos (truths3 k.beat).length with h | h
      · rw [h] at hq2; simp at hq2
      · exact h
    have a1 : q / (truths3 k.beat).length < (truths1 k.yard).length := Nat.div_lt_of_lt_mul (by rw [Nat.mul_comm]; exact hq2)
    have a2 : q % (truths3 k.beat).length < (truths3 k.beat).length := Nat.mod_lt _ hpos
    have a3 : q = q / (truths3 k.beat).length * (truths3 k.beat).length + q % (truths3 k.beat).length := by rw [Nat.mul_comm]; exact (Nat.div_add_mod _ _).symm
    have b1 : nth (pairs k) q = (nth (truths1 k.yard) (q / (truths3 k.beat).length), nth (truths3 k.beat) (q % (truths3 k.beat).length)) := by
      rw [pairs]; conv => lhs; rw [a3]
      exact prod_nth _ _ _ _ a1 a2
    have b2 : nth (E.map mkE) q = mkE (nth hs1 (q / (truths3 k.beat).length), nth es (q % (truths3 k.beat).length)) := by
      have hqE : q < E.length := by rw [show E.length = hs1.length * es.length from prod_len hs1 es, n2, m2]; exact hq2
      have e1 : nth (E.map mkE) q = mkE (nth E q) := by simp [nth, hqE]
      rw [e1]; congr 1
      conv => lhs; rw [a3]
      rw [← m2]
      exact prod_nth _ _ _ _ (by rw [n2, m2]; exact a1) (by rw [m2]; exact a2)
    rw [b1, b2]
    refine ⟨?_, (hN2.row _ a2).1, ?_⟩
    · exact (hw'.arr (.tail _ (.head _)) (hN1.row _ a1)).weaken fun b hb _ => Nat.le_trans hu0.b0le hb
    · exact (hw'.arr (.head _) (hN2.row _ a2).2).weaken fun b hb _ => Nat.le_trans hu2.b0le hb
end Go.Proofs.YtkbaaikidhbfmaaGreat
/- Plain mathematics: all lists of some ranges, and the least and the greatest of some numbers. No statement is proved here. -/
set_option linter.unusedVariables false
set_option linter.unusedSimpArgs false
namespace Go.Proofs.YtkbaaikidhbfmaaGreat
open Go.RowKit
/-- The numbers of a range. -/
def rangeL (a b : Int) : List Int := (List.range (b - a + 1).toNat).map fun (i : Nat) => a + (i : Int)
theorem mem_rangeL {a b x : Int} : x ∈ rangeL a b ↔ a ≤ x ∧ x ≤ b := by
  simp only [rangeL, List.mem_map, List.mem_range]
  constructor
  · rintro ⟨i, hi, rfl⟩; omega
  · intro h; exact ⟨(x - a).toNat, by omega, by omega⟩
/-- All lists with one number of each range, in lexicographic order. -/
def lex : List Rg → List (List Int)
  | [] => [[]]
  | r :: rs => (rangeL r.1 r.2).flatMap fun n => (lex rs).map (n :: ·)
def InL : List Rg → List Int → Prop
  | [], [] => True
  | r :: rs, x :: xs => (r.1 ≤ x ∧ x ≤ r.2) ∧ InL rs xs
  | _, _ => False
theorem mem_lex : ∀ {rs : List Rg} {l : List Int}, l ∈ lex rs ↔ InL rs l
  | [], [] => by simp [lex, InL]
  | [], x :: xs => by simp [lex, InL]
  | r :: rs, [] => by simp [lex, InL]
  | r :: rs, x :: xs => by
    simp only [lex, InL, List.mem_flatMap, List.mem_map, List.cons.injEq, mem_rangeL]
    constructor
    · rintro ⟨n, h1, l, h2, rfl, rfl⟩; exact ⟨h1, mem_lex.1 h2⟩
    · rintro ⟨h1, h2⟩; exact ⟨x, h1, xs, mem_lex.2 h2, rfl, rfl⟩
theorem nth_cons_succ {α : Type} [Inhabited α] (x : α) (xs : List α) (i : Nat) : nth (x :: xs) (i + 1) = nth xs i := by simp [nth]
theorem nth_cons_zero {α : Type} [Inhabited α] (x : α) (xs : List α) : nth (x :: xs) 0 = x := by simp [nth]
theorem InL_iff : ∀ {rs : List Rg} {l : List Int}, InL rs l ↔ l.length = rs.length ∧ ∀ i, i < rs.length → (nth rs i).1 ≤ nth l i ∧ nth l i ≤ (nth rs i).2
  | [], [] => by simp [InL]
  | [], x :: xs => by simp [InL]
  | r :: rs, [] => by simp [InL]
  | r :: rs, x :: xs => by
    simp only [InL, List.length_cons, Nat.add_right_cancel_iff, InL_iff (rs := rs) (l := xs)]
    constructor
    · rintro ⟨h1, h2, h3⟩
      refine ⟨h2, fun i hi => ?_⟩
      cases i with
      | zero => simpa [nth_cons_zero] using h1
      | succ i => simpa [nth_cons_succ] using h3 i (by omega)
    · rintro ⟨h1, h2⟩
      refine ⟨by simpa [nth_cons_zero] using h2 0 (by omega), h1, fun i hi => by simpa [nth_cons_succ] using h2 (i + 1) (by omega)⟩
theorem nth_ext {l l' : List Int} (h : l.length = l'.length) (h2 : ∀ i, i < l.length → nth l i = nth l' i) : l = l' := by
  refine List.ext_getElem h fun i h3 h4 => ?_
  have := h2 i h3
  simpa [nth, h3, h4] using this
/-- How many lists there are. -/
def prodS : List Rg → Int
  | [] => 1
  | r :: rs => szR r * prodS rs
def prodK (fs : List Rg) : Nat → Int
  | 0 => 1
  | k + 1 => prodK fs k * szR (nth fs k)
theorem prodK_cons (r : Rg) (rs : List Rg) : ∀ k, prodK (r :: rs) (k + 1) = szR r * prodK rs k
  | 0 => by simp [prodK, nth_cons_zero]
  | k + 1 => by
    have := prodK_cons r rs k
    simp only [prodK, nth_cons_succ] at this ⊢
    rw [this, Int.mul_assoc]
theorem prodK_all : ∀ rs : List Rg, prodK rs rs.length = prodS rs
  | [] => rfl
  | r :: rs => by rw [List.length_cons, prodK_cons, prodK_all rs]; rfl
theorem manyN_min {fs : List Rg} (h : OkF fs) : ∀ k, k ≤ fs.length → manyN fs k = min 3000 (prodK fs k) ∧ 1 ≤ prodK fs k := by
  intro k
  induction k with
  | zero => intro _; simp only [manyN, prodK]; omega
  | succ k ih =>
    intro hk
    obtain ⟨h1, h2⟩ := ih (by omega)
    have h3 := szR_bd h (i := k) (by omega)
    have h4 : 1 * 1 ≤ prodK fs k * szR (nth fs k) := Int.mul_le_mul h2 h3.1 (by omega) (by omega)
    refine ⟨?_, by simp only [prodK]; omega⟩
    simp only [manyN, prodK, h1]
    rcases Int.le_total (prodK fs k) 3000 with h5 | h5
    · rw [Int.min_eq_right h5]
    · rw [Int.min_eq_left h5]
      have h6 : 3000 * 1 ≤ 3000 * szR (nth fs k) := Int.mul_le_mul_of_nonneg_left h3.1 (by omega)
      have h7 : 3000 * szR (nth fs k) ≤ prodK fs k * szR (nth fs k) := Int.mul_le_mul_of_nonneg_right h5 (by omega)
      omega
theorem many1_min {fs : List Rg} (h : OkF fs) : many1 fs = min 3000 (prodS fs) := by
  rw [many1, (manyN_min h fs.length (Nat.le_refl _)).1, prodK_all]
theorem divN_cons (r : Rg) (rs : List Rg) (n : Int) : ∀ k, divN (r :: rs) n (k + 1) = divN rs (n / szR r) k
  | 0 => by simp [divN, nth_cons_zero]
  | k + 1 => by
    have := divN_cons r rs n k
    simp only [divN, nth_cons_succ] at this ⊢
    rw [this]
theorem nthL_cons (r : Rg) (rs : List Rg) (n : Int) : nthL (r :: rs) n = (r.1 + n % szR r) :: nthL rs (n / szR r) := by
  refine nth_ext (by simp [nthL_len]) fun i hi => ?_
  rw [nthL_len] at hi
  rw [nthL_nth hi]
  cases i with
  | zero => simp [digit, divN, nth_cons_zero]
  | succ i =>
    rw [nth_cons_succ, nthL_nth (by simpa using hi)]
    simp only [digit, divN_cons, nth_cons_succ]
/-- The number of a list in the mixed radix. -/
def codeL : List Rg → List Int → Int
  | r :: rs, x :: xs => (x - r.1) + szR r * codeL rs xs
  | _, _ => 0
theorem OkF.tail {r : Rg} {rs : List Rg} (h : OkF (r :: rs)) : OkF rs := fun i hi => by
  have := h (i + 1) (by simpa using hi); simpa [nth_cons_succ] using this
theorem codeL_ok : ∀ {rs : List Rg} {l : List Int}, OkF rs → InL rs l → 0 ≤ codeL rs l ∧ codeL rs l < prodS rs ∧ nthL rs (codeL rs l) = l
  | [], [], _, _ => by simp [codeL, prodS, nthL]
  | [], x :: xs, _, h => by simp [InL] at h
  | r :: rs, [], _, h => by simp [InL] at h
  | r :: rs, x :: xs, ho, h => by
    obtain ⟨h1, h2⟩ := h
    obtain ⟨h3, h4, h5⟩ := codeL_ok ho.tail h2
    have h6 := szR_bd ho (i := 0) (by simp)
    rw [nth_cons_zero] at h6
    have h7 : 0 ≤ x - r.1 ∧ x - r.1 < szR r := by simp only [szR]; omega
    have h8 : szR r * codeL rs xs ≤ szR r * (prodS rs - 1) := Int.mul_le_mul_of_nonneg_left (by omega) (by omega)
    rw [Int.mul_sub, Int.mul_one] at h8
    have h9 : 0 ≤ szR r * codeL rs xs := Int.mul_nonneg (by omega) h3
    refine ⟨by simp only [codeL]; omega, by simp only [codeL, prodS]; omega, ?_⟩
    rw [nthL_cons]
    have e1 : codeL (r :: rs) (x :: xs) % szR r = x - r.1 := by
      simp only [codeL]; rw [Int.add_mul_emod_self_left, Int.emod_eq_of_lt h7.1 h7.2]
    have e2 : codeL (r :: rs) (x :: xs) / szR r = codeL rs xs := by
      simp only [codeL]; rw [Int.add_mul_ediv_left _ _ (by omega), Int.ediv_eq_zero_of_lt h7.1 h7.2, Int.zero_add]
    rw [e1, e2, h5, show r.1 + (x - r.1) = x by omega]
theorem nthL_in {fs : List Rg} (h : OkF fs) (n : Int) : InL fs (nthL fs n) := InL_iff.2 ⟨nthL_len fs n, fun i hi => by rw [nthL_nth hi]; exact digit_bd h hi⟩
/-- The reference's blues are all lists. -/
theorem mem_nthL {fs : List Rg} (h : OkF fs) (hm : many1 fs ≤ 2000) {l : List Int} : l ∈ (List.range (many1 fs).toNat).map (fun (n : Nat) => nthL fs (n : Int)) ↔ l ∈ lex fs := by
  rw [mem_lex]
  simp only [List.mem_map, List.mem_range]
  constructor
  · rintro ⟨n, _, rfl⟩; exact nthL_in h _
  · intro hl
    obtain ⟨h1, h2, h3⟩ := codeL_ok h hl
    have h4 := many1_min h
    have h5 : many1 fs = prodS fs := by omega
    exact ⟨(codeL fs l).toNat, by omega, by rw [Int.toNat_of_nonneg h1]; exact h3⟩
/-- The truths of a yard in lexicographic order: those of the program. -/
def truthsX (y : Yd) : List (List Int) := (lex y.fields).filter (okAll y)
theorem mem_truths1 {y : Yd} (h : OkF y.fields) (hm : many1 y.fields ≤ 2000) {l : List Int} : l ∈ truths1 y ↔ l ∈ truthsX y := by
  simp only [truths1, truthsX, List.mem_filter, mem_nthL h hm]

/-! ### The least and the greatest -/
def loL (l : List Int) : Int := l.foldl min (2 ^ 40)
def hiL (l : List Int) : Int := l.foldl max (-1)
theorem foldl_min_le : ∀ (l : List Int) (a : Int), l.foldl min a ≤ a ∧ (∀ x ∈ l, l.foldl min a ≤ x) ∧ (l.foldl min a = a ∨ l.foldl min a ∈ l)
  | [], a => by simp
  | x :: xs, a => by
    obtain ⟨h1, h2, h3⟩ := foldl_min_le xs (min a x)
    simp only [List.foldl_cons, List.mem_cons]
    refine ⟨by omega, fun y hy => ?_, ?_⟩
    · rcases hy with rfl | hy
      · omega
      · exact h2 y hy
    · rcases h3 with h3 | h3
      · rcases Int.le_total a x with h | h
        · left; rw [h3]; omega
        · right; left; rw [h3]; omega
      · right; right; exact h3
theorem foldl_max_le : ∀ (l : List Int) (a : Int), a ≤ l.foldl max a ∧ (∀ x ∈ l, x ≤ l.foldl max a) ∧ (l.foldl max a = a ∨ l.foldl max a ∈ l)
  | [], a => by simp
  | x :: xs, a => by
    obtain ⟨h1, h2, h3⟩ := foldl_max_le xs (max a x)
    simp only [List.foldl_cons, List.mem_cons]
    refine ⟨by omega, fun y hy => ?_, ?_⟩
    · rcases hy with rfl | hy
      · omega
      · exact h2 y hy
    · rcases h3 with h3 | h3
      · rcases Int.le_total a x with h | h
        · right; left; rw [h3]; omega
        · left; rw [h3]; omega
      · right; right; exact h3
theorem foldl_min_mem {l l' : List Int} {a a' : Int} (h : ∀ x, x ∈ l → x ∈ a' :: l') (ha : a ∈ a' :: l') : l'.foldl min a' ≤ l.foldl min a := by
  obtain ⟨_, _, h3⟩ := foldl_min_le l a
  obtain ⟨h4, h5, _⟩ := foldl_min_le l' a'
  have key : ∀ x, x ∈ a' :: l' → l'.foldl min a' ≤ x := fun x hx => by
    rcases List.mem_cons.1 hx with rfl | hx
    · exact h4
    · exact h5 x hx
  rcases h3 with h3 | h3
  · rw [h3]; exact key a ha
  · exact key _ (h _ h3)
theorem foldl_max_mem {l l' : List Int} {a a' : Int} (h : ∀ x, x ∈ l → x ∈ a' :: l') (ha : a ∈ a' :: l') : l.foldl max a ≤ l'.foldl max a' := by
  obtain ⟨_, _, h3⟩ := foldl_max_le l a
  obtain ⟨h4, h5, _⟩ := foldl_max_le l' a'
  have key : ∀ x, x ∈ a' :: l' → x ≤ l'.foldl max a' := fun x hx => by
    rcases List.mem_cons.1 hx with rfl | hx
    · exact h4
    · exact h5 x hx
  rcases h3 with h3 | h3
  · rw [h3]; exact key a ha
  · exact key _ (h _ h3)
/-- The bounds of some numbers, as the reference finds them. -/
def hull (l : List Int) : Rg := (loL l, hiL l)
theorem hull_eq {l l' : List Int} (h : ∀ x, x ∈ l ↔ x ∈ l') : hull l = hull l' := by
  have a1 := foldl_min_mem (l := l) (l' := l') (a := 2 ^ 40) (a' := 2 ^ 40) (fun x hx => List.mem_cons_of_mem _ ((h x).1 hx)) (List.mem_cons_self ..)
  have a2 := foldl_min_mem (l := l') (l' := l) (a := 2 ^ 40) (a' := 2 ^ 40) (fun x hx => List.mem_cons_of_mem _ ((h x).2 hx)) (List.mem_cons_self ..)
  have a3 := foldl_max_mem (l := l) (l' := l') (a := -1) (a' := -1) (fun x hx => List.mem_cons_of_mem _ ((h x).1 hx)) (List.mem_cons_self ..)
  have a4 := foldl_max_mem (l := l') (l' := l) (a := -1) (a' := -1) (fun x hx => List.mem_cons_of_mem _ ((h x).2 hx)) (List.mem_cons_self ..)
  simp only [hull, loL, hiL, Prod.mk.injEq]
  omega
/-- The bounds as the program finds them: it begins with one of the numbers. -/
theorem hull_from {l : List Int} {n : Int} (hn : n ∈ l) (hb : ∀ x ∈ l, -1 ≤ x ∧ x ≤ 2 ^ 40) : (l.foldl min n, l.foldl max n) = hull l := by
  have a0 := hb n hn
  obtain ⟨_, b2, b3⟩ := foldl_min_le l (2 ^ 40)
  obtain ⟨_, c2, c3⟩ := foldl_max_le l (-1)
  have hmem : ∀ x ∈ l, x ∈ n :: l := fun x hx => List.mem_cons_of_mem _ hx
  have a1 : l.foldl min n ≤ l.foldl min (2 ^ 40) := by
    rcases b3 with h | h
    · rw [h]; obtain ⟨d1, _, _⟩ := foldl_min_le l n; omega
    · exact (foldl_min_le l n).2.1 _ h
  have a2 := foldl_min_mem (l := l) (l' := l) (a := n) (a' := 2 ^ 40) (fun x hx => List.mem_cons_of_mem _ hx) (List.mem_cons_of_mem _ hn)
  have a3 : l.foldl max (-1) ≤ l.foldl max n := by
    rcases c3 with h | h
    · rw [h]; obtain ⟨d1, _, _⟩ := foldl_max_le l n; omega
    · exact (foldl_max_le l n).2.1 _ h
  have a4 := foldl_max_mem (l := l) (l' := l) (a := n) (a' := -1) (fun x hx => List.mem_cons_of_mem _ hx) (List.mem_cons_of_mem _ hn)
  simp only [hull, loL, hiL, Prod.mk.injEq]
  omega
theorem hull_snoc (l : List Int) (x : Int) : hull (l ++ [x]) = (min (hull l).1 x, max (hull l).2 x) := by
  simp [hull, loL, hiL, List.foldl_append]
theorem hull_in {l : List Int} {x : Int} (hx : x ∈ l) : (hull l).1 ≤ x ∧ x ≤ (hull l).2 := ⟨(foldl_min_le l _).2.1 x hx, (foldl_max_le l _).2.1 x hx⟩
theorem hull_ends {l : List Int} (h0 : l ≠ []) (hb : ∀ x ∈ l, 0 ≤ x ∧ x < 2 ^ 40) : (hull l).1 ∈ l ∧ (hull l).2 ∈ l := by
  obtain ⟨b1, b2, b3⟩ := foldl_min_le l (2 ^ 40)
  obtain ⟨c1, c2, c3⟩ := foldl_max_le l (-1)
  obtain ⟨x, hx⟩ := List.exists_mem_of_ne_nil l h0
  have := hb x hx
  have := b2 x hx
  have := c2 x hx
  simp only [hull, loL, hiL]
  refine ⟨?_, ?_⟩
  · rcases b3 with h | h
    · omega
    · exact h
  · rcases c3 with h | h
    · omega
    · exact h
end Go.Proofs.YtkbaaikidhbfmaaGreat
/- Plain mathematics: the courses of a beating as lists; capped products. No statement is proved here. -/
set_option linter.unusedVariables false
set_option linter.unusedSimpArgs false
namespace Go.Proofs.YtkbaaikidhbfmaaGreat
open Go.RowKit
def rgV (v : BV) : Rg := (v.lo, v.hi)
/-- The ranges of a beating: the sun's, then what all vats need. -/
def btR (y : Bt) : List Rg := y.sun :: y.vats.map rgV
def toC : List Int → Crs
  | s :: l => ⟨s, l⟩
  | [] => ⟨0, []⟩
theorem nth_map {α β : Type} [Inhabited α] [Inhabited β] (f : α → β) {xs : List α} {i : Nat} (h : i < xs.length) : nth (xs.map f) i = f (nth xs i) := by simp [nth, h]
theorem szV_rgV (v : BV) : szV v = szR (rgV v) := rfl
theorem divK_divN (y : Bt) (n : Int) : ∀ k, k ≤ y.vats.length → divK y n k = divN (y.vats.map rgV) (n / szR y.sun) k
  | 0, _ => rfl
  | k + 1, h => by
    simp only [divK, divN]
    rw [divK_divN y n k (by omega), nth_map _ (by omega), szV_rgV]
theorem nthC_eq (y : Bt) (n : Int) : nthC y n = toC (nthL (btR y) n) := by
  rw [btR, nthL_cons]
  simp only [nthC, toC, Crs.mk.injEq, true_and]
  refine nth_ext (by simp [nthL_len]) fun i hi => ?_
  have hi' : i < y.vats.length := by simpa using hi
  rw [nthL_nth (by simpa using hi')]
  have e : nth ((List.range y.vats.length).map (digK y n)) i = digK y n i := by simp [nth, hi']
  rw [e]
  simp only [digK, digit]
  rw [divK_divN y n i (by omega), nth_map _ hi', szV_rgV]
  rfl
theorem OkB.rgs {y : Bt} (h : OkB y) : OkF (btR y) := fun i hi => by
  cases i with
  | zero => rw [btR, nth_cons_zero]; have := h.sun; omega
  | succ i =>
    have hi' : i < y.vats.length := by simpa [btR] using hi
    rw [btR, nth_cons_succ, nth_map _ hi']
    have := (h.v i hi').1; simp only [rgV]; omega
theorem manyK_prod (y : Bt) : ∀ k, k ≤ y.vats.length → manyK y k = prodK (btR y) (k + 1)
  | 0, _ => by simp [manyK, prodK, btR, nth_cons_zero]
  | k + 1, h => by
    have := manyK_prod y k (by omega)
    rw [manyK, this, prodK.eq_2 _ (k + 1), btR, nth_cons_succ, nth_map _ (by omega), szV_rgV]
theorem many3_prod (y : Bt) : many3 y = prodS (btR y) := by
  rw [many3, manyK_prod y _ (Nat.le_refl _), show y.vats.length + 1 = (btR y).length by simp [btR], prodK_all]
/-- The truths of a beating in lexicographic order: those of the program. -/
def truthsW (y : Bt) : List (List Int) := (lex (btR y)).filter fun l => okAllC y (toC l)
theorem mem_truths3 {y : Bt} (h : OkB y) {c : Crs} : c ∈ truths3 y ↔ ∃ l, l ∈ truthsW y ∧ toC l = c := by
  simp only [truths3, truths3To, truthsW, List.mem_filter, List.mem_map, List.mem_range, mem_lex]
  constructor
  · rintro ⟨⟨n, hn, rfl⟩, h2⟩
    rw [nthC_eq] at h2 ⊢
    exact ⟨_, ⟨nthL_in h.rgs _, h2⟩, rfl⟩
  · rintro ⟨l, ⟨h1, h2⟩, rfl⟩
    obtain ⟨h3, h4, h5⟩ := codeL_ok h.rgs h1
    refine ⟨⟨(codeL (btR y) l).toNat, ?_, ?_⟩, h2⟩
    · rw [many3_prod]; omega
    · rw [nthC_eq, Int.toNat_of_nonneg h3, h5]

/-! ### Capped products -/
def capP (c : Int) : Int → List Int → Int
  | m, [] => m
  | m, s :: ss => capP c (min (m * s) c) ss
def prodI : List Int → Int
  | [] => 1
  | s :: ss => s * prodI ss
theorem prodI_pos : ∀ {ss : List Int}, (∀ s ∈ ss, 1 ≤ s) → 1 ≤ prodI ss
  | [], _ => by simp [prodI]
  | s :: ss, h => by
    have h1 := prodI_pos fun s hs => h s (List.mem_cons_of_mem _ hs)
    have h2 := h s (List.mem_cons_self ..)
    have : 1 * 1 ≤ s * prodI ss := Int.mul_le_mul h2 h1 (by omega) (by omega)
    simp only [prodI]; omega
theorem capP_eq {c : Int} : ∀ {ss : List Int} {m : Int}, (∀ s ∈ ss, 1 ≤ s) → 1 ≤ m → m ≤ c → capP c m ss = min c (m * prodI ss)
  | [], m, _, h1, h2 => by simp only [capP, prodI]; omega
  | s :: ss, m, h, h1, h2 => by
    have h3 := h s (List.mem_cons_self ..)
    have h4 : ∀ s ∈ ss, 1 ≤ s := fun s hs => h s (List.mem_cons_of_mem _ hs)
    have h5 := prodI_pos h4
    have h6 : 1 * 1 ≤ m * s := Int.mul_le_mul h1 h3 (by omega) (by omega)
    simp only [capP, prodI]
    rw [capP_eq h4 (by omega) (by omega), ← Int.mul_assoc]
    rcases Int.le_total (m * s) c with h7 | h7
    · rw [Int.min_eq_left h7]
    · rw [Int.min_eq_right h7]
      have h8 : c * 1 ≤ c * prodI ss := Int.mul_le_mul_of_nonneg_left h5 (by omega)
      have h9 : c * prodI ss ≤ m * s * prodI ss := Int.mul_le_mul_of_nonneg_right h7 (by omega)
      omega
theorem prodI_app : ∀ (xs ys : List Int), prodI (xs ++ ys) = prodI xs * prodI ys
  | [], ys => by simp [prodI]
  | x :: xs, ys => by simp [prodI, prodI_app xs ys, Int.mul_assoc]
theorem prodI_szR : ∀ rs : List Rg, prodI (rs.map szR) = prodS rs
  | [] => rfl
  | r :: rs => by simp [prodI, prodS, prodI_szR rs]
end Go.Proofs.YtkbaaikidhbfmaaGreat
/- Contracts: the program's yards, one blue list after the other. No statement is proved here. -/
set_option linter.unusedVariables false
set_option linter.unusedSimpArgs false
namespace Go.Proofs.YtkbaaikidhbfmaaGreat
open Go.RowKit
abbrev pt (p : Nat) : Value := .pointer (some ⟨p, 0, none⟩)
/-- All lists behind some that are chosen. -/
def lexP : List Int → List Rg → List (List Int)
  | p, [] => [p]
  | p, r :: rs => (rangeL r.1 r.2).flatMap fun n => lexP (p ++ [n]) rs
theorem lexP_eq : ∀ (rs : List Rg) (p : List Int), lexP p rs = (lex rs).map (p ++ ·)
  | [], p => by simp [lexP, lex]
  | r :: rs, p => by
    simp only [lexP, lex, List.map_flatMap]
    congr 1; funext n
    rw [lexP_eq rs (p ++ [n])]
    simp [Function.comp_def]
theorem lexP_nil (rs : List Rg) : lexP [] rs = lex rs := by rw [lexP_eq]; simp
theorem rangeL_none {a b : Int} (h : b < a) : rangeL a b = [] := by simp only [rangeL]; rw [show (b - a + 1).toNat = 0 by omega]; rfl
theorem rangeL_snoc {a b : Int} (h : a ≤ b) : rangeL a b = rangeL a (b - 1) ++ [b] := by
  simp only [rangeL]
  rw [show (b - a + 1).toNat = (b - 1 - a + 1).toNat + 1 by omega, List.range_succ, List.map_append]
  simp; omega
theorem rangeL_app {a b c : Int} (h : a ≤ b + 1) (h2 : b ≤ c) : ∃ l, rangeL a c = rangeL a b ++ l := by
  obtain ⟨k, rfl⟩ : ∃ k : Nat, c = b + k := ⟨(c - b).toNat, by omega⟩
  clear h2
  induction k with
  | zero => exact ⟨[], by simp⟩
  | succ k ih =>
    obtain ⟨l, hl⟩ := ih
    exact ⟨l ++ [b + (k + 1 : Nat)], by rw [rangeL_snoc (by omega), show b + ((k + 1 : Nat) : Int) - 1 = b + k by omega, hl, List.append_assoc]⟩
theorem drop_nth {α : Type} [Inhabited α] {l : List α} {i : Nat} (h : i < l.length) : l.drop i = nth l i :: l.drop (i + 1) := by
  rw [List.drop_eq_getElem_cons h]; simp [nth, h]
theorem take_set_snoc {l : List Int} {i : Nat} {v : Int} (h : i < l.length) : (l.set i v).take (i + 1) = l.take i ++ [v] := by
  rw [List.take_add_one, List.take_set_of_le (Nat.le_refl i)]; simp [h]
theorem c147 (w : World) (a b c : Value) [V1 a] [V1 b] [V1 c] : Rt 147 [.agg #[a, b, c]] w fun v w' => Keep w w' ∧ ∃ p, v = .func (.func 182) #[] #[pt p] ∧ w.heap.size ≤ p ∧ w'.heap[p]? = some (.cells #[a, b, c] 45) := by
  refine Rt_of Tryz.func147 rfl Tryz.ntmps147 rfl ?_
  repeat' (first | apply s_ | (apply JO_ob; exact rfl; first | exact ob1) | ((first | apply b_ | apply a_ | apply i_); exact z_; intro _) | ((first | apply p_ | apply JO_yes | apply GC_t); exact z_) | (apply n_; exact z_) | (apply GC_f; exact z_) | (apply GX_block_on; exact z_) | (apply c_; exact z_; all_goals intro _))
  rename_i p
  exact GX_ret1 rfl rfl fun w' hw' => ⟨hw'.kp mem_, p, rfl, hw'.apt _ (.head _) _ (.head _) trivial, hw'.own _ (.head _)⟩
abbrev ch183 (py pl pb pc : Nat) : Value := .func (.func 183) #[] #[pt py, pt pl, pt pb, pt pc]
abbrev hp183 (Yv : Value) (py pl pb pc : Nat) (xs : List Int) : Hp := [(pc, .cells #[ch183 py pl pb pc] 131), (pb, .cells (encA 5 xs).toArray 230), (pl, .cells #[Yv] 262)]
theorem c183 {b0 : World} {Rb : Rgs} {G G2 : Nat → Prop} {w1 w2 : World} {py pl pb pc : Nat} {a Yv : Value} {fs : List Rg} {α : Type} {Rf : α → Rgs} {Hf : α → Hp} {I : List (List Int) → α → Prop} (hG : (G, w1) ∈ Rb) (hpy : G py) (hcell : w1.cell? ⟨py, 0, none⟩ = some a) (hG2 : (G2, w2) ∈ Rb) (hf : Arr G2 w2 2 encR a fs) (hOk : OkF fs) (h5 : fs.length ≤ 5)
    (iY : V1 Yv) (hsub : ∀ a, ∀ r ∈ Rb, r ∈ Rf a)
    (hY : ∀ pre x a us Hi, I pre a → (∃ post, lex fs = pre ++ x :: post) → us = [kA 5 x] → ∀ w, SH b0 (Rf a) (Hf a ++ Hi) w →
      Yc Yv us w fun v w' => v = .bool true ∧ ∃ a', I (pre ++ [x]) a' ∧ (∀ r ∈ Rf a, r ∈ Rf a') ∧ SH b0 (Rf a') (Hf a' ++ Hi) w') :
    ∀ (k i : Nat) (xs : List Int) (pre : List (List Int)) (s : α), i + k = fs.length → xs.length = 5 → (∀ j, fs.length ≤ j → nth xs j = 0) → I pre s → (∃ post, lex fs = pre ++ lexP (xs.take i) (fs.drop i) ++ post) →
      ∀ w, SH b0 (Rf s) (hp183 Yv py pl pb pc xs ++ Hf s) w → Rt 183 ([.int .i64 (i : Int)] ++ [pt py, pt pl, pt pb, pt pc]) w fun v w' => v = .bool true ∧ ∃ t : List Int × α,
        (t.1.length = 5 ∧ (∀ j, fs.length ≤ j → nth t.1 j = 0) ∧ t.1.take i = xs.take i ∧ I (pre ++ lexP (xs.take i) (fs.drop i)) t.2) ∧ (∀ r ∈ Rf s, r ∈ Rf t.2) ∧ SH b0 (Rf t.2) (hp183 Yv py pl pb pc t.1 ++ Hf t.2) w' := by
  have ia := hf.v1
  intro k
  induction k with
  | zero =>
    intro i xs pre s hik hx hz hI hpost w hw
    refine Rt_ofS Tryz.func183 rfl Tryz.ntmps183 rfl hw ?_
    repeat' (first | apply s_ | (apply JO_ob; exact rfl; first | exact ob1 | exact Ob_load_ext rfl (hsub _ _ hG) hpy hcell) | ((first | apply b_ | apply a_ | apply i_); exact z_; intro _) | ((first | apply p_ | apply JO_yes | apply GC_t); exact z_) | (apply n_; exact z_) | (apply GC_f; exact z_) | (apply GX_block_on; exact z_) | (apply c_; exact z_; all_goals intro _))
    have hd : fs.drop i = [] := List.drop_eq_nil_of_le (by omega)
    rw [hd] at hpost ⊢
    simp only [lexP] at hpost ⊢
    obtain ⟨post, hp⟩ := hpost
    have hk : kA 5 xs = kA 5 (xs.take i) := by
      have e : encA 5 xs = encA 5 (xs.take i) := encA_ext fun j hj => by
        by_cases hji : j < i
        · simp [nth, hji]
        · rw [hz j (by omega)]; simp [nth, List.getElem?_take, hji]
      simp only [kA, e]
    refine JO_yieldS (c := .bool true) (us := [kA 5 xs]) (S := fun s' => I (pre ++ [xs.take i]) s' ∧ ∀ r ∈ Rf s, r ∈ Rf s') (R' := Rf) (H' := fun s' => hp183 Yv py pl pb pc xs ++ Hf s') rfl rfl rfl (fun w5 hw5 => ?_) ?_
    · refine (hY pre (xs.take i) s _ (hp183 Yv py pl pb pc xs) hI ⟨post, by rw [hp]; simp⟩ (by rw [hk]) w5 (hw5.perm List.perm_append_comm)).mono ?_
      rintro v w6 ⟨rfl, s', h1, h2, h3⟩
      exact ⟨rfl, s', ⟨h1, h2⟩, h2, h3.perm List.perm_append_comm⟩
    · rintro s' ⟨hs', hr'⟩
      repeat' (first | apply s_ | (apply JO_ob; exact rfl; first | exact ob1) | ((first | apply b_ | apply a_ | apply i_); exact z_; intro _) | ((first | apply p_ | apply JO_yes | apply GC_t); exact z_) | (apply n_; exact z_) | (apply GC_f; exact z_) | (apply GX_block_on; exact z_) | (apply c_; exact z_; all_goals intro _))
      exact GX_ret1 rfl rfl fun w' hw' => ⟨rfl, (xs, s'), ⟨hx, hz, rfl, hs'⟩, hr', hw'⟩
  | succ k ih =>
    intro i xs pre s hik hx hz hI hpost w hw
    have hi : i < fs.length := by omega
    have b1 := hOk i hi
    refine Rt_ofS Tryz.func183 rfl Tryz.ntmps183 rfl hw ?_
    repeat' (first | apply s_ | (apply JO_ob; exact rfl; first | exact ob1 | exact Ob_load_ext rfl (hsub _ _ hG) hpy hcell | exact Ob_loadn rfl hf (hsub _ _ hG2) rfl (by omega) (by decide) rfl) | ((first | apply b_ | apply a_ | apply i_); exact z_; intro _) | ((first | apply p_ | apply JO_yes | apply GC_t); exact z_) | (apply n_; exact z_) | (apply GC_f; exact z_) | (apply GX_block_on; exact z_) | (apply c_; exact z_; all_goals intro _))
    rw [drop_nth hi] at hpost ⊢
    simp only [lexP] at hpost ⊢
    let fl : Int → List (List Int) := fun m => lexP (xs.take i ++ [m]) (fs.drop (i + 1))
    obtain ⟨post, hp⟩ := hpost
    refine GC_loop (α := Int × List Int × α) (fun t => ((nth fs i).2 + 1 - t.1).toNat) (fun t => [(0, .int .i64 (i : Int)), (1, pt py), (2, pt pl), (3, pt pb), (4, pt pc), (7, .int .i64 t.1)]) (fun t => Rf t.2.2) (fun t => hp183 Yv py pl pb pc t.2.1 ++ Hf t.2.2)
      (fun t => ((nth fs i).1 ≤ t.1 ∧ t.1 ≤ (nth fs i).2 + 1) ∧ t.2.1.length = 5 ∧ (∀ j, fs.length ≤ j → nth t.2.1 j = 0) ∧ t.2.1.take i = xs.take i ∧ I (pre ++ (rangeL (nth fs i).1 (t.1 - 1)).flatMap fl) t.2.2 ∧ ∀ r ∈ Rf s, r ∈ Rf t.2.2)
      ((nth fs i).1, xs, s) ⟨rfl, rfl, rfl, rfl, rfl, rfl, trivial⟩ ⟨by simp only; omega, hx, hz, rfl, by rw [rangeL_none (by omega)]; simpa using hI, fun r h => h⟩ (fun w hw => hw) ?_
    rintro ⟨n, ys, s1⟩ ⟨hn, hy5, hyz, hyt, hI1, hr1⟩
    simp only at hn hy5 hyz hyt hI1 hr1 ⊢
    by_cases hlt : n ≤ (nth fs i).2
    · repeat' (first | apply s_ | (apply JO_ob; exact rfl; first | exact ob1 | exact Ob_load_ext rfl (hsub _ _ hG) hpy hcell | exact Ob_loadn rfl hf (hsub _ _ hG2) rfl (by omega) (by decide) rfl | exact Ob_indexa rfl rfl (by omega)) | ((first | apply b_ | apply a_ | apply i_); exact z_; intro _) | ((first | apply p_ | apply JO_yes | apply GC_t); exact z_) | (apply n_; exact z_) | (apply GC_f; exact z_) | (apply GX_block_on; exact z_) | (apply c_; exact z_; all_goals intro _))
      refine JO_store_a (j := 1) (xs := ys) rfl rfl rfl (by omega) (by omega) ?_
      repeat' (first | apply s_ | (apply JO_ob; exact rfl; first | exact ob1) | ((first | apply b_ | apply a_ | apply i_); exact z_; intro _) | ((first | apply p_ | apply JO_yes | apply GC_t); exact z_) | (apply n_; exact z_) | (apply GC_f; exact z_) | (apply GX_block_on; exact z_) | (apply c_; exact z_; all_goals intro _))
      have et : (ys.set i n).take (i + 1) = xs.take i ++ [n] := by rw [take_set_snoc (by omega), hyt]
      have es : rangeL (nth fs i).1 n = rangeL (nth fs i).1 (n - 1) ++ [n] := rangeL_snoc (by omega)
      refine JO_callvS (f := 183) (c := .bool true) (vs := [.int .i64 ((i : Int) + 1)]) (cap := [pt py, pt pl, pt pb, pt pc]) (S := fun t : List Int × α => (t.1.length = 5 ∧ (∀ j, fs.length ≤ j → nth t.1 j = 0) ∧ t.1.take i = xs.take i ∧ I (pre ++ (rangeL (nth fs i).1 n).flatMap fl) t.2) ∧ ∀ r ∈ Rf s1, r ∈ Rf t.2)
        (R' := fun t => Rf t.2) (H' := fun t => hp183 Yv py pl pb pc t.1 ++ Hf t.2) rfl rfl rfl (fun w5 hw5 => ?_) ?_
      · refine (ih (i + 1) (ys.set i n) (pre ++ (rangeL (nth fs i).1 (n - 1)).flatMap fl) s1 (by omega) (by rw [List.length_set]; exact hy5) (fun j hj => by rw [nth_set (by omega), if_neg (by omega)]; exact hyz j hj) hI1 ?_ w5 hw5).mono ?_
        · obtain ⟨l, hl⟩ := rangeL_app (a := (nth fs i).1) (b := n) (c := (nth fs i).2) (by omega) hlt
          refine ⟨l.flatMap fl ++ post, ?_⟩
          rw [hp, hl, es, et]
          simp [fl]
        · rintro v w6 ⟨rfl, t, ⟨h1, h2, h3, h4⟩, h5, h6⟩
          refine ⟨rfl, t, ⟨⟨h1, h2, ?_, ?_⟩, h5⟩, h5, h6⟩
          · have := congrArg (List.take i) h3
            rw [et, List.take_take, List.take_append_of_le_length (by rw [List.length_take]; omega), List.take_take] at this
            rwa [show min i (i + 1) = i by omega, show min i i = i by omega] at this
          · rw [et] at h4
            rw [es, List.flatMap_append]
            simpa [fl] using h4
      · rintro ⟨zs, s2⟩ ⟨⟨h1, h2, h3, h4⟩, h5⟩
        simp only at h1 h2 h3 h4 h5 ⊢
        repeat' (first | apply s_ | (apply JO_ob; exact rfl; first | exact ob1) | ((first | apply b_ | apply a_ | apply i_); exact z_; intro _) | ((first | apply p_ | apply JO_yes | apply GC_t); exact z_) | (apply n_; exact z_) | (apply GC_f; exact z_) | (apply GX_block_on; exact z_) | (apply c_; exact z_; all_goals intro _))
        exact GX_loop (n + 1, zs, s2) ⟨rfl, rfl, rfl, rfl, rfl, rfl, trivial⟩ (by simp only; omega) ⟨by simp only; omega, h1, h2, h3, by rw [show n + 1 - 1 = n by omega]; exact h4, fun r hr => h5 r (hr1 r hr)⟩ fun w hw => hw
    · have hne : n = (nth fs i).2 + 1 := by omega
      subst hne
      repeat' (first | apply s_ | (apply JO_ob; exact rfl; first | exact ob1 | exact Ob_load_ext rfl (hsub _ _ hG) hpy hcell | exact Ob_loadn rfl hf (hsub _ _ hG2) rfl (by omega) (by decide) rfl) | ((first | apply b_ | apply a_ | apply i_); exact z_; intro _) | ((first | apply p_ | apply JO_yes | apply GC_t); exact z_) | (apply n_; exact z_) | (apply GC_f; exact z_) | (apply GX_block_on; exact z_) | (apply c_; exact z_; all_goals intro _))
      rw [show (nth fs i).2 + 1 - 1 = (nth fs i).2 by omega] at hI1
      exact GX_ret1 rfl rfl fun w' hw' => ⟨rfl, (ys, s1), ⟨hy5, hyz, hyt, hI1⟩, hr1, hw'⟩
end Go.Proofs.YtkbaaikidhbfmaaGreat
/- Contracts: the program's yards: the iterator, the blue of a vat, what is right. No statement is proved here. -/
set_option linter.unusedVariables false
set_option linter.unusedSimpArgs false
namespace Go.Proofs.YtkbaaikidhbfmaaGreat
open Go.RowKit
theorem GX_norm {n : Nat} {fn : Func} {S : Value → World → Prop} {b0 : World} {R : Rgs} {H : Hp} {fr : Slots} (h : GX n [] (RetQ fn S) b0 R H .ret fr) : GX n [] (RetQ fn S) b0 R H .normal fr := GX.mk fun w hw A hA => h.use w hw A hA
theorem it182 {b0 : World} {Rb : Rgs} {G G2 : Nat → Prop} {w1 w2 : World} {py : Nat} {a : Value} {fs : List Rg} (hG : (G, w1) ∈ Rb) (hpy : G py) (hcell : w1.cell? ⟨py, 0, none⟩ = some a) (hG2 : (G2, w2) ∈ Rb) (hf : Arr G2 w2 2 encR a fs) (hOk : OkF fs) (h5 : fs.length ≤ 5) :
    Iter 182 [pt py] (fun (x : List Int) us (_ : Hp) => us = [kA 5 x]) (lex fs) b0 Rb := by
  intro Yv α Rf Hf I a0 iY hsub hY hI w hw
  refine Rt_ofS Tryz.func182 rfl Tryz.ntmps182 rfl hw ?_
  repeat' (first | apply s_ | (apply JO_ob; exact rfl; first | exact ob1) | ((first | apply b_ | apply a_ | apply i_); exact z_; intro _) | ((first | apply p_ | apply JO_yes | apply GC_t); exact z_) | (apply n_; exact z_) | (apply GC_f; exact z_) | (apply GX_block_on; exact z_) | (apply c_; exact z_; all_goals intro _))
  rename_i pl pb pc
  refine JO_callvS (f := 183) (c := .bool true) (vs := [.int .i64 ((0 : Nat) : Int)]) (cap := [pt py, pt pl, pt pb, pt pc]) (S := fun t : List Int × α => I (lex fs) t.2 ∧ ∀ r ∈ Rf a0, r ∈ Rf t.2)
    (R' := fun t => Rf t.2) (H' := fun t => hp183 Yv py pl pb pc t.1 ++ Hf t.2) rfl rfl rfl (fun w5 hw5 => ?_) ?_
  · refine (c183 hG hpy hcell hG2 hf hOk h5 iY hsub (fun pre x a us Hi h1 h2 h3 w hw => hY pre x a us Hi h1 h2 h3 w hw) fs.length 0 [0, 0, 0, 0, 0] [] a0 (by omega) rfl (fun j hj => ?_) hI ⟨[], by simp [lexP_nil]⟩ w5 hw5).mono ?_
    · match j with
      | 0 => rfl
      | 1 => rfl
      | 2 => rfl
      | 3 => rfl
      | 4 => rfl
      | j + 5 => simp [nth]
    · rintro v w6 ⟨rfl, t, ⟨_, _, _, h4⟩, h5, h6⟩
      refine ⟨rfl, t, ⟨?_, h5⟩, h5, h6⟩
      simpa [lexP_nil] using h4
  · rintro ⟨zs, s2⟩ ⟨h4, h5⟩
    simp only at h4 h5 ⊢
    repeat' (first | apply s_ | (apply JO_ob; exact rfl; first | exact ob1) | ((first | apply b_ | apply a_ | apply i_); exact z_; intro _) | ((first | apply p_ | apply JO_yes | apply GC_t); exact z_) | (apply n_; exact z_) | (apply GC_f; exact z_) | (apply GX_block_on; exact z_) | (apply c_; exact z_; all_goals intro _))
    exact GX_norm (GX_ret (rs := []) (vs := []) rfl fun w' hw' => ⟨trivial, s2, h4, hw'.weak (fun r h => h) (List.sublist_append_right _ _)⟩)
theorem c185 (a b c : Int) (w : World) : Ex 185 [.agg #[.int .i64 a, .int .i64 b], .int .i64 c] w (.bool (decide (a ≤ c ∧ c ≤ b))) := by
  refine Rt_of Tryz.func185 rfl Tryz.ntmps185 rfl ?_
  repeat' (first | apply s_ | (apply JO_ob; exact rfl; first | exact ob1 | exact Ob_call rfl (fun w hw => c205 c a b w)) | ((first | apply b_ | apply a_ | apply i_); exact z_; intro _) | ((first | apply p_ | apply JO_yes | apply GC_t); exact z_) | (apply n_; exact z_) | (apply GC_f; exact z_) | (apply GX_block_on; exact z_) | (apply c_; exact z_; all_goals intro _))
  (first | exact GX_ex rfl rfl mem_ rfl | exact GX_exc rfl rfl mem_ rfl mem_ rfl)
theorem c179 (a : Int) (w : World) : Ex 179 [.int .i64 a] w (.bool (inB a)) := by
  refine Rt_of Tryz.func179 rfl Tryz.ntmps179 rfl ?_
  repeat' (first | apply s_ | (apply JO_ob; exact rfl; first | exact ob1 | exact Ob_call rfl (fun w hw => c205 a 0 9 w)) | ((first | apply b_ | apply a_ | apply i_); exact z_; intro _) | ((first | apply p_ | apply JO_yes | apply GC_t); exact z_) | (apply n_; exact z_) | (apply GC_f; exact z_) | (apply GX_block_on; exact z_) | (apply c_; exact z_; all_goals intro _))
  (first | exact GX_ex rfl rfl mem_ rfl | exact GX_exc rfl rfl mem_ rfl mem_ rfl)
theorem c176 (r : Rg) (w : World) : Ex 176 [.agg (encR r).toArray] w (.bool (isF r)) := by
  refine Rt_of Tryz.func176 rfl Tryz.ntmps176 rfl ?_
  simp only [encR]
  repeat' (first | apply s_ | (apply JO_ob; exact rfl; first | exact ob1 | exact Ob_call rfl (fun w hw => c199 r.1 r.2 20 w)) | ((first | apply b_ | apply a_ | apply i_); exact z_; intro _) | ((first | apply p_ | apply JO_yes | apply GC_t); exact z_) | (apply n_; exact z_) | (apply GC_f; exact z_) | (apply GX_block_on; exact z_) | (apply c_; exact z_; all_goals intro _))
  (first | exact GX_ex rfl rfl mem_ rfl | exact GX_exc rfl rfl mem_ rfl mem_ rfl)
theorem c149 (w : World) (a b c : Value) (hs : List Value) (bs : List Int) (v : Nat) (y : Yd) (h : YdA All w a b c hs y) (hOk : OkY y) (hb : Bd 20 bs) (hl : bs.length = y.fields.length) (hv : v < y.vats.length) :
    Ex 149 [.agg #[a, b, c], kA 5 bs, .int .i64 (v : Int)] w (.int .i64 (dot bs (nth y.vats v))) := by
  have i1 := h.fields.v1
  have i2 := h.vats.arr.v1
  have i3 := h.smps.v1
  have n1 := h.vats.len
  have ha := h.vats.arr
  have hr := h.vats.row v hv
  have hl2 := hOk.v v hv
  have f5 := hOk.f5
  have i4 := hr.v1
  refine Rt_of Tryz.func149 rfl Tryz.ntmps149 rfl ?_
  repeat' (first | apply s_ | (apply JO_ob; exact rfl; first | exact ob1) | ((first | apply b_ | apply a_ | apply i_); exact z_; intro _) | ((first | apply p_ | apply JO_yes | apply GC_t); exact z_) | (apply n_; exact z_) | (apply GC_f; exact z_) | (apply GX_block_on; exact z_) | (apply c_; exact z_; all_goals intro _))
  rename_i p q
  refine GC_loop0 (fun k => bs.length - k) (fun k => [(3, pt p), (4, pt q), (6, .int .i64 (dotN bs (nth y.vats v) k)), (13, nth hs v), (14, .int .i64 ((nth y.vats v).length : Int)), (15, .int .i64 (k : Int))]) (fun k => k ≤ bs.length) 0 ⟨rfl, rfl, rfl, rfl, rfl, rfl, trivial⟩ (by omega) ?_
  intro k hk
  by_cases hlt : k < bs.length
  · have d1 := dotN_bd hb hl2.2 (by omega) k hk
    have d2 := hb k hlt
    have d3 := hl2.2 k (by omega)
    have d4 := mul_bd d3.1 d3.2 d2.1 d2.2
    repeat' (first | apply s_ | (apply JO_ob; exact rfl; first | exact ob1 | exact Ob_indexa rfl rfl (by omega) | exact Ob_load_a rfl mem_ (by omega) | exact Ob_mul rfl rfl (by omega)) | ((first | apply b_ | apply a_ | apply i_); exact z_; intro _) | ((first | apply p_ | apply JO_yes | apply GC_t); exact z_) | (apply n_; exact z_) | (apply GC_f; exact z_) | (apply GX_block_on; exact z_) | (apply c_; exact z_; all_goals intro _))
    refine GX_loop0 (k + 1) ⟨rfl, rfl, ?_, rfl, rfl, rfl, trivial⟩ (by omega) (by omega)
    rw [dotN, Int.mul_comm (nth bs k)]; rfl
  · have hke : k = bs.length := by omega
    subst hke
    repeat' (first | apply s_ | (apply JO_ob; exact rfl; first | exact ob1) | ((first | apply b_ | apply a_ | apply i_); exact z_; intro _) | ((first | apply p_ | apply JO_yes | apply GC_t); exact z_) | (apply n_; exact z_) | (apply GC_f; exact z_) | (apply GX_block_on; exact z_) | (apply c_; exact z_; all_goals intro _))
    (first | exact GX_ex rfl rfl mem_ rfl | exact GX_exc rfl rfl mem_ rfl mem_ rfl)
end Go.Proofs.YtkbaaikidhbfmaaGreat
/- Contracts: the program's yards: what is right, what is valid. No statement is proved here. -/
set_option linter.unusedVariables false
set_option linter.unusedSimpArgs false
namespace Go.Proofs.YtkbaaikidhbfmaaGreat
open Go.RowKit
theorem arr_nil {α : Type} {G : Nat → Prop} {w : World} {sz : Nat} {enc : α → List Value} (h : ∀ x, (enc x).length = sz) : Arr G w sz enc (.slice none 0 0) [] := ⟨h, none, 0, rfl, Nat.le_refl _, by decide, .inl rfl⟩
theorem c149i (w : World) (a b c : Value) (hs : List Value) (bs : List Int) (v : Int) (y : Yd) (h : YdA All w a b c hs y) (hOk : OkY y) (hb : Bd 20 bs) (hl : bs.length = y.fields.length) (h0 : 0 ≤ v) (hv : v < (y.vats.length : Int)) :
    Ex 149 [.agg #[a, b, c], kA 5 bs, .int .i64 v] w (.int .i64 (dot bs (nth y.vats v.toNat))) := by
  obtain ⟨n, rfl⟩ := Int.eq_ofNat_of_zero_le h0
  exact c149 w a b c hs bs n y h hOk hb hl (by omega)
theorem c148 (w : World) (a b c : Value) (hs : List Value) (bs : List Int) (y : Yd) (h : YdA All w a b c hs y) (hOk : OkY y) (hb : Bd 20 bs) (hl : bs.length = y.fields.length) :
    Ex 148 [.agg #[a, b, c], kA 5 bs, .slice none 0 0] w (.bool (okAll y bs)) := by
  have i1 := h.fields.v1
  have i2 := h.vats.arr.v1
  have i3 := h.smps.v1
  have ha := h.smps
  have s5 := hOk.s5
  refine Rt_of Tryz.func148 rfl Tryz.ntmps148 rfl ?_
  repeat' (first | apply s_ | ((first | apply JO_ob | apply GD_ex | apply GL_ex); exact rfl; first | exact ob1) | ((first | apply b_ | apply a_ | apply i_); exact z_; intro _) | ((first | apply p_ | apply JO_yes | apply GC_t); exact z_) | (apply n_; exact z_) | (apply GC_f; exact z_) | (apply GX_block_on; exact z_) | refine GC_drawA (id := 4) [0, 1, 2, 3, 4, 5, 6, 7, 8, 9, 10, 11, 12, 13, 14] [] (by kernel_rfl) ?_ | ((first | apply GD_at | apply GL_at | apply GD_no | apply GL_no); exact rfl) | apply DFin_0 | (apply q1_; exact z_) | (apply q0_; exact z_) | (apply q2_; exact z_) | (apply c_; exact z_; all_goals intro _) | (apply g_; exact z_; all_goals intro _))
  rename_i p q
  refine GC_loop0 (fun k => y.smps.length - k) (fun k => [(2, .slice none 0 0), (3, pt p), (4, pt q), (10, c), (11, .int .i64 (y.smps.length : Int)), (12, .int .i64 (k : Int))]) (fun k => k ≤ y.smps.length ∧ ∀ j, j < k → okS y bs j = true) 0 ⟨rfl, rfl, rfl, rfl, rfl, rfl, trivial⟩ ⟨by omega, fun j hj => absurd hj (Nat.not_lt_zero j)⟩ ?_
  rintro k ⟨hk, hno⟩
  by_cases hlt : k < y.smps.length
  · have e1 := hOk.s k hlt
    repeat' (first | apply s_ | ((first | apply JO_ob | apply GD_ex | apply GL_ex); exact rfl; first | exact ob1 | exact Ob_call rfl (fun w hw => c184 _ _ _ w (arr_nil fun _ => rfl)) | exact Ob_call rfl (fun w hw => c149i w a b c hs bs _ y (hw.yd mem_ h) hOk hb hl e1.1.1 e1.1.2) | exact Ob_call rfl (fun w hw => c185 _ _ _ w)) | ((first | apply b_ | apply a_ | apply i_); exact z_; intro _) | ((first | apply p_ | apply JO_yes | apply GC_t); exact z_) | (apply n_; exact z_) | (apply GC_f; exact z_) | (apply GX_block_on; exact z_) | refine GC_drawA (id := 4) [0, 1, 2, 3, 4, 5, 6, 7, 8, 9, 10, 11, 12, 13, 14] [] (by kernel_rfl) ?_ | ((first | apply GD_at | apply GL_at | apply GD_no | apply GL_no); exact rfl) | apply DFin_0 | (apply q1_; exact z_) | (apply q0_; exact z_) | (apply q2_; exact z_) | (apply c_; exact z_; all_goals intro _) | (apply g_; exact z_; all_goals intro _))
    rename_i p2
    have hd : decide ((nth y.smps k).lo ≤ dot bs (nth y.vats (nth y.smps k).vat.toNat) ∧ dot bs (nth y.vats (nth y.smps k).vat.toNat) ≤ (nth y.smps k).hi) = okS y bs k := rfl
    rw [hd]
    cases hcc : okS y bs k
    · repeat' (first | apply s_ | ((first | apply JO_ob | apply GD_ex | apply GL_ex); exact rfl; first | exact ob1) | ((first | apply b_ | apply a_ | apply i_); exact z_; intro _) | ((first | apply p_ | apply JO_yes | apply GC_t); exact z_) | (apply n_; exact z_) | (apply GC_f; exact z_) | (apply GX_block_on; exact z_) | refine GC_drawA (id := 4) [0, 1, 2, 3, 4, 5, 6, 7, 8, 9, 10, 11, 12, 13, 14] [] (by kernel_rfl) ?_ | ((first | apply GD_at | apply GL_at | apply GD_no | apply GL_no); exact rfl) | apply DFin_0 | (apply q1_; exact z_) | (apply q0_; exact z_) | (apply q2_; exact z_) | (apply c_; exact z_; all_goals intro _) | (apply g_; exact z_; all_goals intro _))
      refine GX_ex rfl rfl mem_ ?_
      have : okAll y bs = false := by
        rw [← Bool.not_eq_true]; intro hh
        simp only [okAll, List.all_eq_true, List.mem_range] at hh
        rw [hh k hlt] at hcc; cases hcc
      rw [this]
    · repeat' (first | apply s_ | ((first | apply JO_ob | apply GD_ex | apply GL_ex); exact rfl; first | exact ob1) | ((first | apply b_ | apply a_ | apply i_); exact z_; intro _) | ((first | apply p_ | apply JO_yes | apply GC_t); exact z_) | (apply n_; exact z_) | (apply GC_f; exact z_) | (apply GX_block_on; exact z_) | refine GC_drawA (id := 4) [0, 1, 2, 3, 4, 5, 6, 7, 8, 9, 10, 11, 12, 13, 14] [] (by kernel_rfl) ?_ | ((first | apply GD_at | apply GL_at | apply GD_no | apply GL_no); exact rfl) | apply DFin_0 | (apply q1_; exact z_) | (apply q0_; exact z_) | (apply q2_; exact z_) | (apply c_; exact z_; all_goals intro _) | (apply g_; exact z_; all_goals intro _))
      refine GX_loop (k + 1) ⟨rfl, rfl, rfl, rfl, rfl, rfl, trivial⟩ (by omega) ⟨by omega, fun j hj => ?_⟩ (fun w hw => hw.weak (fun r h => h) (List.Sublist.cons _ (List.Sublist.refl _)))
      rcases Nat.lt_or_ge j k with h | h
      · exact hno j h
      · rw [show j = k by omega]; exact hcc
  · repeat' (first | apply s_ | ((first | apply JO_ob | apply GD_ex | apply GL_ex); exact rfl; first | exact ob1) | ((first | apply b_ | apply a_ | apply i_); exact z_; intro _) | ((first | apply p_ | apply JO_yes | apply GC_t); exact z_) | (apply n_; exact z_) | (apply GC_f; exact z_) | (apply GX_block_on; exact z_) | refine GC_drawA (id := 4) [0, 1, 2, 3, 4, 5, 6, 7, 8, 9, 10, 11, 12, 13, 14] [] (by kernel_rfl) ?_ | ((first | apply GD_at | apply GL_at | apply GD_no | apply GL_no); exact rfl) | apply DFin_0 | (apply q1_; exact z_) | (apply q0_; exact z_) | (apply q2_; exact z_) | (apply c_; exact z_; all_goals intro _) | (apply g_; exact z_; all_goals intro _))
    refine GX_ex rfl rfl mem_ ?_
    have : okAll y bs = true := by
      simp only [okAll, List.all_eq_true, List.mem_range]
      intro j hj; exact hno j (by omega)
    rw [this]
theorem c198 (w : World) (a b c : Value) (hs : List Value) (v : Int) (y : Yd) (h : YdA All w a b c hs y) : Ex 198 [.agg #[a, b, c], .int .i64 v] w (.bool (decide (0 ≤ v ∧ v ≤ (y.vats.length : Int) - 1))) := by
  have i1 := h.fields.v1
  have i2 := h.vats.arr.v1
  have i3 := h.smps.v1
  have ha := h.vats.arr
  have n1 := h.vats.len
  have hb := ha.bound
  refine Rt_of Tryz.func198 rfl Tryz.ntmps198 rfl ?_
  rw [← n1]
  repeat' (first | apply s_ | (apply JO_ob; exact rfl; first | exact ob1 | exact Ob_call rfl (fun w hw => c205 _ _ _ w)) | ((first | apply b_ | apply a_ | apply i_); exact z_; intro _) | ((first | apply p_ | apply JO_yes | apply GC_t); exact z_) | (apply n_; exact z_) | (apply GC_f; exact z_) | (apply GX_block_on; exact z_) | (apply c_; exact z_; all_goals intro _))
  (first | exact GX_ex rfl rfl mem_ rfl | exact GX_exc rfl rfl mem_ rfl mem_ rfl)
theorem c174 (w : World) (a b c : Value) (hs : List Value) (s : Smp) (y : Yd) (h : YdA All w a b c hs y) : Ex 174 [.agg #[a, b, c], .agg (encS s).toArray] w (.bool (isS y.vats.length s)) := by
  have i1 := h.fields.v1
  have i2 := h.vats.arr.v1
  have i3 := h.smps.v1
  refine Rt_of Tryz.func174 rfl Tryz.ntmps174 rfl ?_
  simp only [encS]
  repeat' (first | apply s_ | (apply JO_ob; exact rfl; first | exact ob1 | exact Ob_call rfl (fun w hw => c198 w a b c hs _ y (hw.yd mem_ h)) | exact Ob_call rfl (fun w hw => c199 _ _ _ w)) | ((first | apply b_ | apply a_ | apply i_); exact z_; intro _) | ((first | apply p_ | apply JO_yes | apply GC_t); exact z_) | (apply n_; exact z_) | (apply GC_f; exact z_) | (apply GX_block_on; exact z_) | (apply c_; exact z_; all_goals intro _))
  cases hv : decide (0 ≤ s.vat ∧ s.vat ≤ (y.vats.length : Int) - 1)
  · repeat' (first | apply s_ | (apply JO_ob; exact rfl; first | exact ob1) | ((first | apply b_ | apply a_ | apply i_); exact z_; intro _) | ((first | apply p_ | apply JO_yes | apply GC_t); exact z_) | (apply n_; exact z_) | (apply GC_f; exact z_) | (apply GX_block_on; exact z_) | (apply c_; exact z_; all_goals intro _))
    refine GX_ex rfl rfl mem_ ?_
    simp only [isS, hv, Bool.false_and]
  · repeat' (first | apply s_ | (apply JO_ob; exact rfl; first | exact ob1 | exact Ob_call rfl (fun w hw => c199 _ _ _ w)) | ((first | apply b_ | apply a_ | apply i_); exact z_; intro _) | ((first | apply p_ | apply JO_yes | apply GC_t); exact z_) | (apply n_; exact z_) | (apply GC_f; exact z_) | (apply GX_block_on; exact z_) | (apply c_; exact z_; all_goals intro _))
    refine GX_ex rfl rfl mem_ ?_
    simp only [isS, hv, Bool.true_and]
theorem p176 (w : World) : Pass w (.func (.func 176) #[] #[]) (fun x => .agg (encR x).toArray) isF := ⟨176, [], [], rfl, inferInstance, fun x w hk => c176 x w⟩
theorem p179 (w : World) : Pass w (.func (.func 179) #[] #[]) (fun x => .int .i64 x) inB := ⟨179, [], [], rfl, inferInstance, fun x w hk => c179 x w⟩
theorem YdA.keep {w w' : World} {a b c : Value} {hs : List Value} {y : Yd} (h : YdA All w a b c hs y) (k : Keep w w') : YdA All w' a b c hs y :=
  ⟨h.fields.move fun b _ hb => k.block b hb, h.vats.keep k, h.smps.move fun b _ hb => k.block b hb⟩
theorem p174 (w : World) (a b c : Value) (hs : List Value) (y : Yd) (h : YdA All w a b c hs y) : Pass w (.func (.func 174) #[.agg #[a, b, c]] #[]) (fun x => .agg (encS x).toArray) (isS y.vats.length) :=
  ⟨174, [.agg #[a, b, c]], [], rfl, inferInstance, fun x w' hk => c174 w' a b c hs x y (h.keep hk)⟩
/-- How many blues there are, up to 2001. -/
def capN (c : Int) (fs : List Rg) : Nat → Int
  | 0 => 1
  | k + 1 => min (capN c fs k * szR (nth fs k)) c
theorem capN_bd {c : Int} {fs : List Rg} (hc : 1 ≤ c) (h : OkF fs) : ∀ k, k ≤ fs.length → capN c fs k = min c (prodK fs k) ∧ 1 ≤ prodK fs k := by
  intro k
  induction k with
  | zero => intro _; simp only [capN, prodK]; omega
  | succ k ih =>
    intro hk
    obtain ⟨h1, h2⟩ := ih (by omega)
    have h3 := szR_bd h (i := k) (by omega)
    have h4 : 1 * 1 ≤ prodK fs k * szR (nth fs k) := Int.mul_le_mul h2 h3.1 (by omega) (by omega)
    refine ⟨?_, by simp only [prodK]; omega⟩
    simp only [capN, prodK, h1]
    rcases Int.le_total (prodK fs k) c with h5 | h5
    · rw [Int.min_eq_right h5]; omega
    · rw [Int.min_eq_left h5]
      have h6 : c * 1 ≤ c * szR (nth fs k) := Int.mul_le_mul_of_nonneg_left h3.1 (by omega)
      have h7 : c * szR (nth fs k) ≤ prodK fs k * szR (nth fs k) := Int.mul_le_mul_of_nonneg_right h5 (by omega)
      omega
end Go.Proofs.YtkbaaikidhbfmaaGreat
/- Contracts: the program's error of a yard. No statement is proved here. -/
set_option linter.unusedVariables false
set_option linter.unusedSimpArgs false
namespace Go.Proofs.YtkbaaikidhbfmaaGreat
open Go.RowKit
theorem minL2 (a b : Int) : minL [a, b] = min a b := by simp [minL]
theorem c146 (w : World) (a b c : Value) (hs : List Value) (y : Yd) (h : YdA All w a b c hs y) : Ex 146 [.agg #[a, b, c]] w (.int .i64 (fault1 y)) := by
  have i1 := h.fields.v1
  have i2 := h.vats.arr.v1
  have i3 := h.smps.v1
  have ha := h.fields
  have hv := h.vats.arr
  have hc := h.smps
  have n1 := h.vats.len
  have b1 := ha.bound
  have b2 := hv.bound
  have b3 := hc.bound
  have big : ∀ (hx : 5 < y.fields.length ∨ 4 < y.vats.length ∨ 5 < y.smps.length), fault1 y = 3 := fun hx => by
    have : bigY y = true := by simp [bigY]; omega
    simp [fault1, this]
  refine Rt_of Tryz.func146 rfl Tryz.ntmps146 rfl ?_
  repeat' (first | apply s_ | (apply JO_ob; exact rfl; first | exact ob1 | exact Ob_makeFuncR rfl rfl) | ((first | apply b_ | apply a_ | apply i_); exact z_; intro _) | ((first | apply p_ | apply JO_yes | apply GC_t); exact z_) | (apply n_; exact z_) | (apply GC_f; exact z_) | (apply GX_block_on; exact z_))
  by_cases x1 : 5 < y.fields.length
  · repeat' (first | apply s_ | (apply JO_ob; exact rfl; first | exact ob1) | ((first | apply b_ | apply a_ | apply i_); exact z_; intro _) | ((first | apply p_ | apply JO_yes | apply GC_t); exact z_) | (apply n_; exact z_) | (apply GC_f; exact z_) | (apply GX_block_on; exact z_) | (apply c_; exact z_; all_goals intro _))
    refine GX_ex rfl rfl mem_ ?_
    rw [big (by omega)]
  by_cases x2 : 4 < y.vats.length
  · repeat' (first | apply s_ | (apply JO_ob; exact rfl; first | exact ob1) | ((first | apply b_ | apply a_ | apply i_); exact z_; intro _) | ((first | apply p_ | apply JO_yes | apply GC_t); exact z_) | (apply n_; exact z_) | (apply GC_f; exact z_) | (apply GX_block_on; exact z_) | (apply c_; exact z_; all_goals intro _))
    refine GX_ex rfl rfl mem_ ?_
    rw [big (by omega)]
  by_cases x3 : 5 < y.smps.length
  · repeat' (first | apply s_ | (apply JO_ob; exact rfl; first | exact ob1) | ((first | apply b_ | apply a_ | apply i_); exact z_; intro _) | ((first | apply p_ | apply JO_yes | apply GC_t); exact z_) | (apply n_; exact z_) | (apply GC_f; exact z_) | (apply GX_block_on; exact z_) | (apply c_; exact z_; all_goals intro _))
    refine GX_ex rfl rfl mem_ ?_
    rw [big (by omega)]
  have hbig : bigY y = false := by simp [bigY]; omega
  have bad : (y.fields.all isF = false ∨ y.vats.all (isV y.fields.length) = false ∨ y.smps.all (isS y.vats.length) = false) → fault1 y = 1 := fun hx => by
    rcases hx with hx | hx | hx <;> simp [fault1, hbig, hx]
  repeat' (first | apply s_ | (apply JO_ob; exact rfl; first | exact ob1 | exact Ob_call rfl (fun w5 hw5 => c175 a _ y.fields isF w5 (hw5.arr mem_ ha) (p176 w5))) | ((first | apply b_ | apply a_ | apply i_); exact z_; intro _) | ((first | apply p_ | apply JO_yes | apply GC_t); exact z_) | (apply n_; exact z_) | (apply GC_f; exact z_) | (apply GX_block_on; exact z_))
  cases hF : y.fields.all isF
  · repeat' (first | apply s_ | (apply JO_ob; exact rfl; first | exact ob1) | ((first | apply b_ | apply a_ | apply i_); exact z_; intro _) | ((first | apply p_ | apply JO_yes | apply GC_t); exact z_) | (apply n_; exact z_) | (apply GC_f; exact z_) | (apply GX_block_on; exact z_) | (apply c_; exact z_; all_goals intro _))
    refine GX_ex rfl rfl mem_ ?_
    rw [bad (.inl hF)]
  repeat' (first | apply s_ | (apply JO_ob; exact rfl; first | exact ob1 | exact Ob_call rfl (fun w5 hw5 => c177 c _ y.smps _ w5 (hw5.arr mem_ hc) (p174 w5 a b c hs y (hw5.yd mem_ h)))) | ((first | apply b_ | apply a_ | apply i_); exact z_; intro _) | ((first | apply p_ | apply JO_yes | apply GC_t); exact z_) | (apply n_; exact z_) | (apply GC_f; exact z_) | (apply GX_block_on; exact z_) | (apply c_; exact z_; all_goals intro _))
  cases hS : y.smps.all (isS y.vats.length)
  · repeat' (first | apply s_ | (apply JO_ob; exact rfl; first | exact ob1) | ((first | apply b_ | apply a_ | apply i_); exact z_; intro _) | ((first | apply p_ | apply JO_yes | apply GC_t); exact z_) | (apply n_; exact z_) | (apply GC_f; exact z_) | (apply GX_block_on; exact z_) | (apply c_; exact z_; all_goals intro _))
    refine GX_ex rfl rfl mem_ ?_
    rw [bad (.inr (.inr hS))]
  repeat' (first | apply s_ | (apply JO_ob; exact rfl; first | exact ob1) | ((first | apply b_ | apply a_ | apply i_); exact z_; intro _) | ((first | apply p_ | apply JO_yes | apply GC_t); exact z_) | (apply n_; exact z_) | (apply GC_f; exact z_) | (apply GX_block_on; exact z_) | (apply c_; exact z_; all_goals intro _))
  rename_i p
  refine GC_loop0 (fun k => y.vats.length - k) (fun k => [(1, pt p), (41, b), (42, .int .i64 (y.vats.length : Int)), (43, .int .i64 (k : Int))]) (fun k => k ≤ y.vats.length ∧ ∀ j, j < k → isV y.fields.length (nth y.vats j) = true) 0 ⟨rfl, rfl, ?_, rfl, trivial⟩ ⟨by omega, fun j hj => absurd hj (Nat.not_lt_zero j)⟩ ?_
  · rw [← n1]; rfl
  rintro k ⟨hk, hno⟩
  by_cases hlt : k < y.vats.length
  · have hr := h.vats.row k hlt
    have i4 := hr.v1
    have b4 := hr.bound
    have notV : isV y.fields.length (nth y.vats k) = false → fault1 y = 1 := fun hx => bad (.inr (.inl (all_not hlt hx)))
    by_cases hl : (nth y.vats k).length = y.fields.length
    · repeat' (first | apply s_ | (apply JO_ob; exact rfl; first | exact ob1 | exact Ob_call rfl (fun w5 hw5 => c178 (nth hs k) _ (nth y.vats k) inB w5 (hw5.arr mem_ hr) (p179 w5))) | ((first | apply b_ | apply a_ | apply i_); exact z_; intro _) | ((first | apply p_ | apply JO_yes | apply GC_t); exact z_) | (apply n_; exact z_) | (apply GC_f; exact z_) | (apply GX_block_on; exact z_) | (apply c_; exact z_; all_goals intro _))
      cases hB : (nth y.vats k).all inB
      · repeat' (first | apply s_ | (apply JO_ob; exact rfl; first | exact ob1) | ((first | apply b_ | apply a_ | apply i_); exact z_; intro _) | ((first | apply p_ | apply JO_yes | apply GC_t); exact z_) | (apply n_; exact z_) | (apply GC_f; exact z_) | (apply GX_block_on; exact z_) | (apply c_; exact z_; all_goals intro _))
        refine GX_ex rfl rfl mem_ ?_
        rw [notV (by simp [isV, hB])]
      · repeat' (first | apply s_ | (apply JO_ob; exact rfl; first | exact ob1) | ((first | apply b_ | apply a_ | apply i_); exact z_; intro _) | ((first | apply p_ | apply JO_yes | apply GC_t); exact z_) | (apply n_; exact z_) | (apply GC_f; exact z_) | (apply GX_block_on; exact z_) | (apply c_; exact z_; all_goals intro _))
        refine GX_loop0 (k + 1) ⟨rfl, rfl, rfl, rfl, trivial⟩ (by omega) ⟨by omega, fun j hj => ?_⟩
        rcases Nat.lt_or_ge j k with h | h
        · exact hno j h
        · rw [show j = k by omega]; simp [isV, hB, hl]
    · repeat' (first | apply s_ | (apply JO_ob; exact rfl; first | exact ob1) | ((first | apply b_ | apply a_ | apply i_); exact z_; intro _) | ((first | apply p_ | apply JO_yes | apply GC_t); exact z_) | (apply n_; exact z_) | (apply GC_f; exact z_) | (apply GX_block_on; exact z_) | (apply c_; exact z_; all_goals intro _))
      refine GX_ex rfl rfl mem_ ?_
      rw [notV (by simp [isV, hl])]
  · have hV : y.vats.all (isV y.fields.length) = true := all_nth.2 fun j hj => hno j (by omega)
    have hO : OkF y.fields := okF_of hF
    repeat' (first | apply s_ | (apply JO_ob; exact rfl; first | exact ob1) | ((first | apply b_ | apply a_ | apply i_); exact z_; intro _) | ((first | apply p_ | apply JO_yes | apply GC_t); exact z_) | (apply n_; exact z_) | (apply GC_f; exact z_) | (apply GX_block_on; exact z_) | (apply c_; exact z_; all_goals intro _))
    refine GC_loop0 (fun k => y.fields.length - k) (fun k => [(1, pt p), (6, .int .i64 (capN 2001 y.fields k)), (60, a), (61, .int .i64 (y.fields.length : Int)), (62, .int .i64 (k : Int))]) (fun k => k ≤ y.fields.length) 0 ⟨rfl, rfl, rfl, rfl, rfl, trivial⟩ (by omega) ?_
    intro k hk
    have q1 := capN_bd (c := 2001) (by omega) hO k hk
    by_cases hlt2 : k < y.fields.length
    · have q2 := szR_bd hO hlt2
      have q3 := hO k hlt2
      have q4 := mul_bd (a := capN 2001 y.fields k) (b := szR (nth y.fields k)) (m := 2001) (n := 21) (by omega) (by omega) (by omega) (by omega)
      have q5 : szR (nth y.fields k) = (nth y.fields k).2 - (nth y.fields k).1 + 1 := rfl
      repeat' (first | apply s_ | (apply JO_ob; exact rfl; first | exact ob1 | exact Ob_call rfl (fun w5 hw5 => c181 _ _ (by omega) (by omega) (by omega) w5) | exact Ob_mul rfl rfl (by rw [← q5]; omega)) | ((first | apply b_ | apply a_ | apply i_); exact z_; intro _) | ((first | apply p_ | apply JO_yes | apply GC_t); exact z_) | (apply n_; exact z_) | (apply GC_f; exact z_) | (apply GX_block_on; exact z_) | (apply c_; exact z_; all_goals intro _))
      rename_i p5 p6
      refine JO_ob rfl (Ob_call rfl (fun w5 hw5 => c180 _ [capN 2001 y.fields k * szR (nth y.fields k), 2001] w5 (hw5.litArr _ (fun _ => rfl) (.head _) rfl rfl rfl rfl) (by simp))) ?_
      repeat' (first | apply s_ | (apply JO_ob; exact rfl; first | exact ob1) | ((first | apply b_ | apply a_ | apply i_); exact z_; intro _) | ((first | apply p_ | apply JO_yes | apply GC_t); exact z_) | (apply n_; exact z_) | (apply GC_f; exact z_) | (apply GX_block_on; exact z_) | (apply c_; exact z_; all_goals intro _))
      refine GX_loop (k + 1) ⟨rfl, ?_, rfl, rfl, rfl, trivial⟩ (by omega) (by omega) (fun w hw => hw.weak (fun r h => h) (List.Sublist.cons _ (List.Sublist.cons _ (List.Sublist.refl _))))
      rw [capN, minL2]; rfl
    · have hke : k = y.fields.length := by omega
      subst hke
      have hm := many1_min hO
      rw [prodK_all] at q1
      have hfa : fault1 y = if 2000 < many1 y.fields then 3 else 0 := by simp [fault1, hbig, hF, hV, hS]
      by_cases hmany : 2000 < many1 y.fields
      · repeat' (first | apply s_ | (apply JO_ob; exact rfl; first | exact ob1) | ((first | apply b_ | apply a_ | apply i_); exact z_; intro _) | ((first | apply p_ | apply JO_yes | apply GC_t); exact z_) | (apply n_; exact z_) | (apply GC_f; exact z_) | (apply GX_block_on; exact z_) | (apply c_; exact z_; all_goals intro _))
        refine GX_ex rfl rfl mem_ ?_
        rw [hfa, if_pos hmany]
      · repeat' (first | apply s_ | (apply JO_ob; exact rfl; first | exact ob1) | ((first | apply b_ | apply a_ | apply i_); exact z_; intro _) | ((first | apply p_ | apply JO_yes | apply GC_t); exact z_) | (apply n_; exact z_) | (apply GC_f; exact z_) | (apply GX_block_on; exact z_) | (apply c_; exact z_; all_goals intro _))
        refine GX_ex rfl rfl mem_ ?_
        rw [hfa, if_neg hmany]
end Go.Proofs.YtkbaaikidhbfmaaGreat
/- Contracts: the program's yards: blues of a list. No statement is proved here. -/
set_option linter.unusedVariables false
set_option linter.unusedSimpArgs false
namespace Go.Proofs.YtkbaaikidhbfmaaGreat
open Go.RowKit
theorem splice_get (vs : List Value) : ∀ (cs : List Value) (off j : Nat), (splice cs off vs)[j]? = if off ≤ j ∧ j < off + vs.length ∧ j < cs.length then vs[j - off]? else cs[j]? := by
  induction vs with
  | nil => intro cs off j; simp [splice]; omega
  | cons v vs ih =>
    intro cs off j
    simp only [splice, ih, List.length_set, List.length_cons]
    by_cases h1 : j = off
    · subst h1
      rw [if_neg (by omega)]
      by_cases h2 : j < cs.length
      · rw [if_pos (by omega)]; simp [h2]
      · rw [if_neg (by omega)]; simp [h2]
    · by_cases h3 : off + 1 ≤ j ∧ j < off + 1 + vs.length ∧ j < cs.length
      · rw [if_pos h3, if_pos (by omega)]
        rw [show j - off = (j - (off + 1)) + 1 by omega]; simp
      · rw [if_neg h3, if_neg (by omega), List.getElem?_set_ne (fun h => h1 h.symm)]
theorem splice_zero {m : Nat} {xs : List Int} (h : xs.length ≤ m) : splice (encA m []) 0 (xs.flatMap encI) = encA m xs := by
  refine List.ext_getElem? fun j => ?_
  rw [splice_get]
  have hl := flatMap_len (enc := encI) (sz := 1) (fun _ => rfl) xs
  rw [Nat.mul_one] at hl
  by_cases hj : j < m
  · by_cases hx : j < xs.length
    · rw [if_pos (by rw [hl, encA_len]; omega), encA_at hj]
      have := flatMap_at (enc := encI) (sz := 1) (fun _ => rfl) xs j 0 (nth xs j) (nth_some hx) (by decide)
      simpa [encI] using this
    · rw [if_neg (by rw [hl]; omega), encA_at hj, encA_at hj]; simp [nth, hx]
  · rw [if_neg (by rw [encA_len]; omega)]
    rw [List.getElem?_eq_none (by rw [encA_len]; omega), List.getElem?_eq_none (by rw [encA_len]; omega)]
section
variable {n d : Nat} {full : List Oper} {b0 : World} {R : Rgs} {H : Hp} {fr : Slots} {K : Kt} {dst : Option Nat} {g : Option (Nat × Bool)} {ty : TypeId} {ps : String} {af : Array Edge} {G : Nat → Prop} {w1 : World} {v : Value} {xs : List Int}
theorem Ob_sliceA {t len e b : Nat} {x : Operand} [h : TyArr t len e 1] (hx : ev fr x = some (pt b)) : Ob b0 R H ⟨dst, .slice t x none none none, ty, ps, af, g⟩ fr (.slice (some ⟨b, 0, none⟩) len len) := .pure fun w f hf => by
  simp [execOp, hf x _ hx, Instr.sliceAt, Instr.sureAddr, run_underlying h.h, Instr.sliceBounds, h.s, Result.andThen, add_none]
theorem JO_copyA {t e by_ b m j : Nat} {x y : Operand} {T : TypeId} [h : TySl t e 1 by_] (hd : Nat.blt d n = true) (hx : ev fr x = some (.slice (some ⟨b, 0, none⟩) m m)) (hy : ev fr y = some v) (hA : Arr G w1 1 encI v xs) (hr : (G, w1) ∈ R) (hl : xs.length ≤ m)
    (hj : H[j]? = some (b, .cells (encA m []).toArray T)) (hc : K R (setH H j (.cells (encA m xs).toArray T)) ((d, .int .i64 (xs.length : Int)) :: fr)) : JO n full b0 R H ⟨some d, .call ⟨.builtin .copy, #[x, y], #[t, t]⟩, ty, ps, af, none⟩ fr K :=
  JO.mk (by rw [Bool.and_eq_true]; exact ⟨hd, rfl⟩) fun w hw => by
    have hb := hw.own _ (List.mem_of_getElem? hj)
    have hfl := flatMap_len (enc := encI) (sz := 1) (fun _ => rfl) xs
    rw [Nat.mul_one] at hfl
    obtain ⟨w', h1, h2, h3, h4, h5, h6, h7⟩ := run_storeCells (xs.flatMap encI) (encA m []) 0 0 w hb (by rw [hfl, encA_len]; omega) (allOne_flat (fun _ => rfl) xs)
    rw [splice_zero hl] at h7
    have hs := hw.slArr hr hA (by decide)
    have hfc := run_firstCells hs
    obtain ⟨A, hv⟩ := (hw.arr hr hA).len
    have hlen : (Builtin.lenOf v).run P w = .ok xs.length w := by rw [hv]; rfl
    intro f hf
    have e1 : (execOp f { dst := some d, op := Op.call ⟨.builtin .copy, #[x, y], #[t, t]⟩, type := ty, pos := ps, after := af, guard := none }).run P w = .ok (.value (.int .i64 (xs.length : Int))) w' := by
      simp only [execOp, resolve]
      simp [hf x _ hx, hf y _ hy, invoke, builtin, Builtin.copy_, run_underlying h.h, Result.andThen, hlen, Nat.min_eq_left hl, h.s, hfc, h1, goInt]
    rw [e1]
    exact ⟨R, _, hw.upd hj h2 h3 h4 (by omega) (fun k _ hk => h6 k hk) h7, fun r h => h, hc⟩
theorem JO_store_A {t m b j : Nat} {x y : Operand} {ys : List Int} {cs : List Value} {T : TypeId} [hsz : TySz t m] (hx : ev fr x = some (pt b)) (hy : ev fr y = some (kA m ys)) (hj : H[j]? = some (b, .cells cs.toArray T)) (hl : cs.length = m)
    (h : K R (setH H j (.cells (encA m ys).toArray T)) fr) : JO n full b0 R H ⟨none, .store t x y, ty, ps, af, none⟩ fr K := by
  refine JO_store (m := m) (vs := encA m ys) (cs := cs) hx hy hj inferInstance (encA_len m ys) (Nat.ble_eq_true_of_le (by omega)) ?_ h
  refine List.ext_getElem? fun j => ?_
  rw [splice_get, encA_len]
  by_cases hj : j < m
  · rw [if_pos (by omega)]; simp
  · rw [if_neg (by omega), List.getElem?_eq_none (by omega), List.getElem?_eq_none (by rw [encA_len]; omega)]
theorem pA_ {t m b j : Nat} {x y : Operand} {ys : List Int} {cs : List Value} {T : TypeId} [hsz : TySz t m] (hb : ev fr x = some (pt b) ∧ ev fr y = some (kA m ys) ∧ H[j]? = some (b, .cells cs.toArray T) ∧ cs.length = m)
    (h : K R (setH H j (.cells (encA m ys).toArray T)) fr) : JO n full b0 R H ⟨none, .store t x y, ty, ps, af, none⟩ fr K := JO_store_A hb.1 hb.2.1 hb.2.2.1 hb.2.2.2 h
theorem zA_ {p : Prop} (h : p := by (refine ⟨rfl, rfl, ?_, ?_⟩; exact hi_; exact rfl)) : p := h
theorem GX_retc2 {n : Nat} {fn : Func} {S : Value → World → Prop} {t u : Tmp} {ty : TypeId} {m b : Nat} {cs : List Value} {x : Value} {T : TypeId} {fz : Nat × Nat} [TyAgg ty m] (hr : fn.results = #[.cell t ty, .tmp u])
    (hv : look fr t = some (.pointer (some ⟨b, 0, none⟩))) (hu : look fr u = some x) (hH : (b, Obj.cells cs.toArray T fz) ∈ H) (hl : cs.length = m) (hS : ∀ w, SH b0 R H w → S (.tuple #[.agg cs.toArray, x]) w) : GX n [] (RetQ fn S) b0 R H .ret fr :=
  GX_ret (rs := [.cell t ty, .tmp u]) (vs := [.agg cs.toArray, x]) hr fun w hw => ⟨⟨⟨_, hv, Ld.agg hl fun j hj => by rw [add_none, cell_blk (hw.own _ hH)]; simp⟩, hu, trivial⟩, hS w hw⟩
end
/-- These are blues. -/
def inLb (fs : List Rg) (l : List Int) : Bool := decide (l.length = fs.length) && (List.range fs.length).all fun i => decide ((nth fs i).1 ≤ nth l i ∧ nth l i ≤ (nth fs i).2)
theorem inLb_iff {fs : List Rg} {l : List Int} : inLb fs l = true ↔ InL fs l := by
  rw [InL_iff]; simp [inLb]
theorem c186 (w : World) (a b c v : Value) (hs : List Value) (l : List Int) (y : Yd) (h : YdA All w a b c hs y) (hl : Arr All w 1 encI v l) (f5 : y.fields.length ≤ 5) :
    Ex 186 [.agg #[a, b, c], v] w (.tuple #[kA 5 (if inLb y.fields l = true then l else []), .bool (inLb y.fields l)]) := by
  have i1 := h.fields.v1
  have i2 := h.vats.arr.v1
  have i3 := h.smps.v1
  have i4 := hl.v1
  have ha := h.fields
  have b1 := ha.bound
  have b2 := hl.bound
  have e0 : encA 5 [] = [.int .i64 0, .int .i64 0, .int .i64 0, .int .i64 0, .int .i64 0] := rfl
  refine Rt_of Tryz.func186 rfl Tryz.ntmps186 rfl ?_
  by_cases hle : l.length = y.fields.length
  · repeat' (first | apply s_ | (apply JO_ob; exact rfl; first | exact ob1) | ((first | apply b_ | apply a_ | apply i_); exact z_; intro _) | ((first | apply p_ | apply JO_yes | apply GC_t); exact z_) | (apply n_; exact z_) | (apply GC_f; exact z_) | (apply GX_block_on; exact z_) | (apply c_; exact z_; all_goals intro _))
    rename_i p q
    refine GC_loop0 (fun k => l.length - k) (fun k => [(1, v), (2, pt p), (4, pt q), (15, v), (16, .int .i64 (l.length : Int)), (17, .int .i64 (k : Int))]) (fun k => k ≤ l.length ∧ ∀ j, j < k → (nth y.fields j).1 ≤ nth l j ∧ nth l j ≤ (nth y.fields j).2) 0 ⟨rfl, rfl, rfl, rfl, rfl, rfl, trivial⟩ ⟨by omega, fun j hj => absurd hj (Nat.not_lt_zero j)⟩ ?_
    rintro k ⟨hk, hno⟩
    by_cases hlt : k < l.length
    · repeat' (first | apply s_ | (apply JO_ob; exact rfl; first | exact ob1 | exact Ob_call rfl (fun w hw => c185 _ _ _ w)) | ((first | apply b_ | apply a_ | apply i_); exact z_; intro _) | ((first | apply p_ | apply JO_yes | apply GC_t); exact z_) | (apply n_; exact z_) | (apply GC_f; exact z_) | (apply GX_block_on; exact z_) | (apply c_; exact z_; all_goals intro _))
      cases hcc : decide ((nth y.fields k).1 ≤ nth l k ∧ nth l k ≤ (nth y.fields k).2)
      · have hn := of_decide_eq_false hcc
        have hq : inLb y.fields l = false := by
          rw [← Bool.not_eq_true]; intro hh
          exact hn ((InL_iff.1 (inLb_iff.1 hh)).2 k (by omega))
        rw [hq]
        repeat' (first | apply s_ | (apply JO_ob; exact rfl; first | exact ob1) | ((first | apply b_ | apply a_ | apply i_); exact z_; intro _) | ((first | apply p_ | apply JO_yes | apply GC_t); exact z_) | (apply n_; exact z_) | (apply GC_f; exact z_) | (apply GX_block_on; exact z_) | (apply c_; exact z_; all_goals intro _))
        exact GX_retc2 rfl rfl rfl (.head _) rfl fun w' hw' => ⟨rfl, hw'.kp mem_⟩
      · have hn := of_decide_eq_true hcc
        repeat' (first | apply s_ | (apply JO_ob; exact rfl; first | exact ob1) | ((first | apply b_ | apply a_ | apply i_); exact z_; intro _) | ((first | apply p_ | apply JO_yes | apply GC_t); exact z_) | (apply n_; exact z_) | (apply GC_f; exact z_) | (apply GX_block_on; exact z_) | (apply c_; exact z_; all_goals intro _))
        refine GX_loop0 (k + 1) ⟨rfl, rfl, rfl, rfl, rfl, rfl, trivial⟩ (by omega) ⟨by omega, fun j hj => ?_⟩
        rcases Nat.lt_or_ge j k with h | h
        · exact hno j h
        · rw [show j = k by omega]; exact hn
    · have hq : inLb y.fields l = true := inLb_iff.2 (InL_iff.2 ⟨hle, fun i hi => hno i (by omega)⟩)
      rw [hq, if_pos rfl]
      repeat' (first | apply s_ | (apply JO_ob; exact rfl; first | exact ob1 | exact Ob_sliceA rfl) | ((first | apply b_ | apply a_ | apply i_); exact z_; intro _) | ((first | apply p_ | apply JO_yes | apply GC_t); exact z_) | (apply n_; exact z_) | (apply GC_f; exact z_) | (apply GX_block_on; exact z_) | (apply c_; exact z_; all_goals intro _))
      refine JO_copyA (j := 0) (m := 5) rfl rfl rfl hl mem_ (by omega) rfl ?_
      repeat' (first | apply s_ | (apply JO_ob; exact rfl; first | exact ob1 | exact Ob_indexa rfl rfl (by omega) | exact Ob_load_a rfl mem_ (by omega) | exact Ob_sliceA rfl) | (apply pA_; exact zA_) | ((first | apply b_ | apply a_ | apply i_); exact z_; intro _) | ((first | apply p_ | apply JO_yes | apply GC_t); exact z_) | (apply n_; exact z_) | (apply GC_f; exact z_) | (apply GX_block_on; exact z_) | (apply c_; exact z_; all_goals intro _))
      exact GX_retc2 (cs := encA 5 l) rfl rfl rfl (.head _) rfl fun w' hw' => ⟨rfl, hw'.kp mem_⟩
  · have hq : inLb y.fields l = false := by simp [inLb, hle]
    rw [hq]
    repeat' (first | apply s_ | (apply JO_ob; exact rfl; first | exact ob1) | ((first | apply b_ | apply a_ | apply i_); exact z_; intro _) | ((first | apply p_ | apply JO_yes | apply GC_t); exact z_) | (apply n_; exact z_) | (apply GC_f; exact z_) | (apply GX_block_on; exact z_) | (apply c_; exact z_; all_goals intro _))
    exact GX_retc2 rfl rfl rfl (.head _) rfl fun w' hw' => ⟨rfl, hw'.kp mem_⟩
end Go.Proofs.YtkbaaikidhbfmaaGreat
/- Contracts: the program's yards: truths and the blue of all vats. No statement is proved here. -/
set_option linter.unusedVariables false
set_option linter.unusedSimpArgs false
namespace Go.Proofs.YtkbaaikidhbfmaaGreat
open Go.RowKit
theorem InL_bd {fs : List Rg} {l : List Int} (h : OkF fs) (hl : InL fs l) : Bd 20 l ∧ l.length = fs.length := by
  have := InL_iff.1 hl
  refine ⟨fun i hi => ?_, this.1⟩
  have h1 := this.2 i (by omega)
  have h2 := h i (by omega)
  omega
theorem c155 (w : World) (a b c v : Value) (hs : List Value) (l : List Int) (y : Yd) (h : YdA All w a b c hs y) (hl : Arr All w 1 encI v l) :
    Ex 155 [.agg #[a, b, c], v] w (.bool (decide (fault1 y = 0) && (inLb y.fields l && okAll y l))) := by
  have i1 := h.fields.v1
  have i2 := h.vats.arr.v1
  have i3 := h.smps.v1
  have i4 := hl.v1
  refine Rt_of Tryz.func155 rfl Tryz.ntmps155 rfl ?_
  repeat' (first | apply s_ | (apply JO_ob; exact rfl; first | exact ob1 | exact Ob_call rfl (fun w hw => c146 w a b c hs y (hw.yd mem_ h))) | ((first | apply b_ | apply a_ | apply i_); exact z_; intro _) | ((first | apply p_ | apply JO_yes | apply GC_t); exact z_) | (apply n_; exact z_) | (apply GC_f; exact z_) | (apply GX_block_on; exact z_))
  by_cases hf : fault1 y = 0
  · obtain ⟨hO, hm⟩ := okY_of hf
    repeat' (first | apply s_ | (apply JO_ob; exact rfl; first | exact ob1 | exact Ob_call rfl (fun w hw => c186 w a b c v hs l y (hw.yd mem_ h) (hw.arr mem_ hl) hO.f5) | exact Ob_indexa rfl rfl (by omega) | exact Ob_load_a rfl mem_ (by omega) | exact Ob_sliceA rfl) | (apply pA_; exact zA_) | ((first | apply b_ | apply a_ | apply i_); exact z_; intro _) | ((first | apply p_ | apply JO_yes | apply GC_t); exact z_) | (apply n_; exact z_) | (apply GC_f; exact z_) | (apply GX_block_on; exact z_) | (apply c_; exact z_; all_goals intro _))
    cases hq : inLb y.fields l
    · repeat' (first | apply s_ | (apply JO_ob; exact rfl; first | exact ob1 | exact Ob_indexa rfl rfl (by omega) | exact Ob_load_a rfl mem_ (by omega) | exact Ob_sliceA rfl) | (apply pA_; exact zA_) | ((first | apply b_ | apply a_ | apply i_); exact z_; intro _) | ((first | apply p_ | apply JO_yes | apply GC_t); exact z_) | (apply n_; exact z_) | (apply GC_f; exact z_) | (apply GX_block_on; exact z_) | (apply c_; exact z_; all_goals intro _))
      refine GX_ex rfl rfl mem_ ?_
      simp
    · have hb := InL_bd hO.f (inLb_iff.1 hq)
      repeat' (first | apply s_ | (apply JO_ob; exact rfl; first | exact ob1 | exact Ob_call rfl (fun w hw => c148 w a b c hs l y (hw.yd mem_ h) hO hb.1 hb.2) | exact Ob_indexa rfl rfl (by omega) | exact Ob_load_a rfl mem_ (by omega) | exact Ob_sliceA rfl) | (apply pA_; exact zA_) | ((first | apply b_ | apply a_ | apply i_); exact z_; intro _) | ((first | apply p_ | apply JO_yes | apply GC_t); exact z_) | (apply n_; exact z_) | (apply GC_f; exact z_) | (apply GX_block_on; exact z_) | (apply c_; exact z_; all_goals intro _))
      refine GX_ex rfl rfl mem_ ?_
      simp [hf]
  · repeat' (first | apply s_ | (apply JO_ob; exact rfl; first | exact ob1) | ((first | apply b_ | apply a_ | apply i_); exact z_; intro _) | ((first | apply p_ | apply JO_yes | apply GC_t); exact z_) | (apply n_; exact z_) | (apply GC_f; exact z_) | (apply GX_block_on; exact z_) | (apply c_; exact z_; all_goals intro _))
    refine GX_ex rfl rfl mem_ ?_
    simp [hf]
/-- The blue of all vats. -/
def blueRow (y : Yd) (l : List Int) : List Int := y.vats.map (dot l)
theorem c156 (w : World) (a b c v : Value) (hs : List Value) (l : List Int) (y : Yd) (h : YdA All w a b c hs y) (hl : Arr All w 1 encI v l) (hf : fault1 y = 0) (hq : InL y.fields l) :
    Rt 156 [.agg #[a, b, c], v] w fun r w' => Keep w w' ∧ ∃ u, r = .tuple #[u, .int .i64 0] ∧ Arr (New w) w' 1 encI u (blueRow y l) := by
  have i1 := h.fields.v1
  have i2 := h.vats.arr.v1
  have i3 := h.smps.v1
  have i4 := hl.v1
  have ha := h.vats.arr
  have n1 := h.vats.len
  obtain ⟨hO, hm⟩ := okY_of hf
  have hq2 := inLb_iff.2 hq
  have hb := InL_bd hO.f hq
  have v4 := hO.v4
  refine Rt_of Tryz.func156 rfl Tryz.ntmps156 rfl ?_
  repeat' (first | apply s_ | (apply JO_ob; exact rfl; first | exact ob1 | exact Ob_call rfl (fun w hw => c146 w a b c hs y (hw.yd mem_ h))) | ((first | apply b_ | apply a_ | apply i_); exact z_; intro _) | ((first | apply p_ | apply JO_yes | apply GC_t); exact z_) | (apply n_; exact z_) | (apply GC_f; exact z_) | (apply GX_block_on; exact z_))
  rw [hf]
  repeat' (first | apply s_ | (apply JO_ob; exact rfl; first | exact ob1 | exact Ob_call rfl (fun w hw => c186 w a b c v hs l y (hw.yd mem_ h) (hw.arr mem_ hl) hO.f5)) | ((first | apply b_ | apply a_ | apply i_); exact z_; intro _) | ((first | apply p_ | apply JO_yes | apply GC_t); exact z_) | (apply n_; exact z_) | (apply GC_f; exact z_) | (apply GX_block_on; exact z_))
  rw [hq2, if_pos rfl]
  repeat' (first | apply s_ | (apply JO_ob; exact rfl; first | exact ob1 | exact Ob_indexa rfl rfl (by omega) | exact Ob_load_a rfl mem_ (by omega) | exact Ob_sliceA rfl) | (apply pA_; exact zA_) | ((first | apply b_ | apply a_ | apply i_); exact z_; intro _) | ((first | apply p_ | apply JO_yes | apply GC_t); exact z_) | (apply n_; exact z_) | (apply GC_f; exact z_) | (apply GX_block_on; exact z_) | (apply c_; exact z_; all_goals intro _))
  rename_i p q
  refine GC_loop (α := Nat × Value × List Value) (fun s => hs.length - s.1) (fun s => [(2, pt p), (7, pt q), (9, s.2.1), (26, .int .i64 (hs.length : Int)), (27, .int .i64 (s.1 : Int))]) (fun _ => [((fun _ => True), w)])
    (fun s => (q, .cells (encA 5 l).toArray 230) :: (p, .cells #[a, b, c] 45) :: rowH s.2.1 3 (((blueRow y l).take s.1).flatMap encI ++ s.2.2))
    (fun s => s.1 ≤ hs.length ∧ Own 1 encI s.2.1 ((blueRow y l).take s.1) s.2.2) (0, .slice none 0 0, []) ⟨rfl, rfl, rfl, rfl, rfl, trivial⟩ ⟨Nat.zero_le _, Own.nil fun _ => rfl⟩ (fun w hw => hw) ?_
  rintro ⟨k, v1, s1⟩ ⟨hk, ho1⟩
  simp only at hk ho1 ⊢
  have j1 := ho1.v1
  have hlen : (blueRow y l).length = y.vats.length := by simp [blueRow]
  by_cases hlt : k < hs.length
  · have e5 : nth (blueRow y l) k = dot l (nth y.vats k) := nth_map _ (by omega)
    repeat' (first | apply s_ | (apply JO_ob; exact rfl; first | exact ob1 | exact Ob_call rfl (fun w hw => c149 w a b c hs l k y (hw.yd mem_ h) hO hb.1 hb.2 (by omega)) | exact Ob_indexa rfl rfl (by omega) | exact Ob_load_a rfl mem_ (by omega) | exact Ob_sliceA rfl) | (apply pA_; exact zA_) | ((first | apply b_ | apply a_ | apply i_); exact z_; intro _) | ((first | apply p_ | apply JO_yes | apply GC_t); exact z_) | (apply n_; exact z_) | (apply GC_f; exact z_) | (apply GX_block_on; exact z_) | (apply c_; exact z_; all_goals intro _))
    rw [← e5]
    refine JO_append (xs := (blueRow y l).take k) (ys := [nth (blueRow y l) k]) [_, _, _] rfl rfl rfl ho1 (List.Perm.refl _) (fun w hw => hw.slOwn mem_ rfl) rfl (by simp; omega) ?_
    intro v2 s2 ho2
    have j2 := ho2.v1
    rw [← take_snoc (by omega)] at ho2 ⊢
    repeat' (first | apply s_ | (apply JO_ob; exact rfl; first | exact ob1 | exact Ob_indexa rfl rfl (by omega) | exact Ob_load_a rfl mem_ (by omega) | exact Ob_sliceA rfl) | (apply pA_; exact zA_) | ((first | apply b_ | apply a_ | apply i_); exact z_; intro _) | ((first | apply p_ | apply JO_yes | apply GC_t); exact z_) | (apply n_; exact z_) | (apply GC_f; exact z_) | (apply GX_block_on; exact z_) | (apply c_; exact z_; all_goals intro _))
    exact GX_loop (k + 1, v2, s2) ⟨rfl, rfl, rfl, rfl, rfl, trivial⟩ (by simp only; omega) ⟨by simp only; omega, ho2⟩ fun w hw => hw.weak (fun r h => h) (List.Sublist.cons _ (List.Sublist.refl _))
  · have hkl : k = (blueRow y l).length := by omega
    rw [hkl, List.take_length] at ho1 ⊢
    repeat' (first | apply s_ | (apply JO_ob; exact rfl; first | exact ob1 | exact Ob_indexa rfl rfl (by omega) | exact Ob_load_a rfl mem_ (by omega) | exact Ob_sliceA rfl) | (apply pA_; exact zA_) | ((first | apply b_ | apply a_ | apply i_); exact z_; intro _) | ((first | apply p_ | apply JO_yes | apply GC_t); exact z_) | (apply n_; exact z_) | (apply GC_f; exact z_) | (apply GX_block_on; exact z_) | (apply c_; exact z_; all_goals intro _))
    refine GX_ret2 rfl rfl rfl fun w' hw' => ⟨hw'.kp mem_, _, rfl, ho1.ret (A := [_, _]) (by decide) hw' mem_⟩
section
variable {b0 : World} {R : Rgs} {H : Hp} {fr : Slots} {dst : Option Nat} {g : Option (Nat × Bool)} {ty : TypeId} {ps : String} {af : Array Edge} {G : Nat → Prop} {w1 : World}
/-- A struct or array out of a block that is not one's own. -/
theorem Ob_loads_blk {t n b off : Nat} {x : Operand} {cs vs : List Value} {T : TypeId} {fz : Nat × Nat} [TyAgg t n] (hx : ev fr x = some (.pointer (some ⟨b, off, none⟩))) (hr : (G, w1) ∈ R) (hG : G b) (hb : w1.heap[b]? = some (.cells cs.toArray T fz))
    (hc : (cs.drop off).take n = vs) (hl : vs.length = n) : Ob b0 R H ⟨dst, .load t x, ty, ps, af, g⟩ fr (.agg vs.toArray) :=
  Ob_load hx fun w hw => .agg hl fun j hj => by
    have hlt : b < w1.heap.size := (Array.getElem?_eq_some_iff.1 hb).1
    have hb' := ((hw.rng _ hr).2 b hG hlt).trans hb
    rw [add_none, cell_blk hb', ← hc, List.getElem?_take]
    simp [hj]
theorem Ob_load_blk {t b off : Nat} {x : Operand} {cs : List Value} {v : Value} {T : TypeId} {fz : Nat × Nat} [TyOne t] (hx : ev fr x = some (.pointer (some ⟨b, off, none⟩))) (hr : (G, w1) ∈ R) (hG : G b) (hb : w1.heap[b]? = some (.cells cs.toArray T fz))
    (hc : cs[off]? = some v) : Ob b0 R H ⟨dst, .load t x, ty, ps, af, g⟩ fr v :=
  Ob_load hx fun w hw => .one (by
    have hlt : b < w1.heap.size := (Array.getElem?_eq_some_iff.1 hb).1
    have hb' := ((hw.rng _ hr).2 b hG hlt).trans hb
    rw [cell_blk hb']; exact hc)
end
theorem c105 (w : World) (pw : Nat) (a b c : Value) (cs : List Value) (T : TypeId) (fz : Nat × Nat) (hs : List Value) (bs : List Int) (v : Nat) (y : Yd) (hpw : w.heap[pw]? = some (.cells (a :: b :: c :: cs).toArray T fz)) (h : YdA All w a b c hs y) (hOk : OkY y) (hb : Bd 20 bs) (hl : bs.length = y.fields.length) (hv : v < y.vats.length) :
    Ex 105 [pt pw, kA 5 bs, .int .i64 (v : Int)] w (.int .i64 (dot bs (nth y.vats v))) := by
  have i1 := h.fields.v1
  have i2 := h.vats.arr.v1
  have i3 := h.smps.v1
  refine Rt_of Tryz.func105 rfl Tryz.ntmps105 rfl ?_
  repeat' (first | apply s_ | ((first | apply JO_ob | apply GD_ex | apply GL_ex); exact rfl; first | exact ob1 | exact Ob_loads_blk rfl mem_ trivial hpw (vs := [a, b, c]) rfl rfl | exact Ob_call rfl (fun w hw => c149 w a b c hs bs v y (hw.yd mem_ h) hOk hb hl hv) | exact Ob_indexa rfl rfl (by omega) | exact Ob_load_a rfl mem_ (by omega) | exact Ob_sliceA rfl) | (apply pA_; exact zA_) | ((first | apply b_ | apply a_ | apply i_); exact z_; intro _) | ((first | apply p_ | apply JO_yes | apply GC_t); exact z_) | (apply n_; exact z_) | (apply GC_f; exact z_) | (apply GX_block_on; exact z_) | refine GC_drawA (id := 1) [0, 1, 2, 3, 4, 5, 6, 7] [] (by kernel_rfl) ?_ | ((first | apply GD_at | apply GL_at | apply GD_no | apply GL_no); exact rfl) | apply DFin_0 | (apply q1_; exact z_) | (apply q0_; exact z_) | (apply q2_; exact z_) | (apply c_; exact z_; all_goals intro _) | (apply g_; exact z_; all_goals intro _))
  (first | exact GX_ex rfl rfl mem_ rfl | exact GX_exc rfl rfl mem_ rfl mem_ rfl)
end Go.Proofs.YtkbaaikidhbfmaaGreat
/- Contracts: the program's yards: a yard at work. No statement is proved here. -/
set_option linter.unusedVariables false
set_option linter.unusedSimpArgs false
namespace Go.Proofs.YtkbaaikidhbfmaaGreat
open Go.RowKit
theorem lex_len (rs : List Rg) (h : OkF rs) (hm : many1 rs ≤ 2000) : (lex rs).length ≤ 2000 := by
  have key : ∀ rs : List Rg, OkF rs → ((lex rs).length : Int) = prodS rs := by
    intro rs
    induction rs with
    | nil => intro _; rfl
    | cons r rs ih =>
      intro ho
      have h2 := ho 0 (by simp)
      rw [nth_cons_zero] at h2
      have h3 : ∀ (l : List Int), (l.flatMap fun n => (lex rs).map (n :: ·)).length = l.length * (lex rs).length := fun l => by
        induction l with
        | nil => simp
        | cons x l ih2 => simp [ih2, Nat.succ_mul, Nat.add_comm]
      simp only [lex, h3, prodS, Int.natCast_mul, ih ho.tail]
      congr 1
      simp only [rangeL, List.length_map, List.length_range, szR]; omega
  have h1 := key rs h
  have h2 := many1_min h
  omega
set_option maxHeartbeats 2000000 in
theorem c104 (w : World) (a b c : Value) (hs : List Value) (y : Yd) (h : YdA All w a b c hs y) :
    Rt 104 [.agg #[a, b, c], .int .i64 0] w fun v w' => Keep w w' ∧
      ((fault1 y ≠ 0 ∧ v = .tuple #[.pointer none, .int .i64 (fault1 y)]) ∨ (fault1 y = 0 ∧ truthsX y = [] ∧ v = .tuple #[.pointer none, .int .i64 11]) ∨
       (fault1 y = 0 ∧ truthsX y ≠ [] ∧ ∃ pw tv mv, v = .tuple #[pt pw, .int .i64 0] ∧ w.heap.size ≤ pw ∧ w'.heap[pw]? = some (.cells #[a, b, c, tv, mv] 225) ∧ Arr (New w) w' 5 (encA 5) tv (truthsX y))) := by
  have i1 := h.fields.v1
  have i2 := h.vats.arr.v1
  have i3 := h.smps.v1
  have n1 := h.vats.len
  have ha := h.vats.arr
  refine Rt_ofM Tryz.func104 rfl Tryz.ntmps104 rfl ?_
  repeat' (first | apply s_ | ((first | apply JO_ob | apply GD_ex | apply GL_ex); exact rfl; first | exact ob1 | exact Ob_call rfl (fun w hw => c146 w a b c hs y (hw.yd mem_ h))) | ((first | apply b_ | apply a_ | apply i_); exact z_; intro _) | ((first | apply p_ | apply JO_yes | apply GC_t); exact z_) | (apply n_; exact z_) | (apply GC_f; exact z_) | (apply GX_block_on; exact z_) | refine GC_drawB (id := 10) [5] [0, 1, 2, 3, 4] [6, 7, 8, 9, 10] _ (by kernel_rfl) (List.Sublist.refl _) ?_ | refine GC_drawA (id := 14) [0, 1, 2, 3, 4, 5, 6, 7, 8, 9] [10, 11, 12, 13, 14] (by kernel_rfl) ?_ | ((first | apply GD_at | apply GL_at | apply GD_no | apply GL_no); exact rfl) | apply DFin_0 | (apply q1_; exact z_) | (apply q0_; exact z_) | (apply q2_; exact z_))
  by_cases hf : fault1 y = 0
  · obtain ⟨hO, hm⟩ := okY_of hf
    repeat' (first | (apply JO_makeMap; exact rfl; intro _) | apply s_ | ((first | apply JO_ob | apply GD_ex | apply GL_ex); exact rfl; first | exact ob1 | exact Ob_indexa rfl rfl (by omega) | exact Ob_load_a rfl mem_ (by omega) | exact Ob_sliceA rfl) | (apply pA_; exact zA_) | ((first | apply b_ | apply a_ | apply i_); exact z_; intro _) | ((first | apply p_ | apply JO_yes | apply GC_t); exact z_) | (apply n_; exact z_) | (apply GC_f; exact z_) | (apply GX_block_on; exact z_) | refine GC_drawB (id := 10) [5] [0, 1, 2, 3, 4] [6, 7, 8, 9, 10] _ (by kernel_rfl) (List.Sublist.refl _) ?_ | refine GC_drawA (id := 14) [0, 1, 2, 3, 4, 5, 6, 7, 8, 9] [10, 11, 12, 13, 14] (by kernel_rfl) ?_ | ((first | apply GD_at | apply GL_at | apply GD_no | apply GL_no); exact rfl) | apply DFin_0 | (apply q1_; exact z_) | (apply q0_; exact z_) | (apply q2_; exact z_) | (apply c_; exact z_; all_goals intro _) | (apply g_; exact z_; all_goals intro _))
    rename_i p r pw p7
    refine JO_call (S := fun w0 v w' => ∃ py, v = .func (.func 182) #[] #[pt py] ∧ w0.heap.size ≤ py ∧ w'.heap[py]? = some (.cells #[a, b, c] 45)) rfl rfl (fun w5 hw5 => c147 w5 a b c) ?_
    rintro v u0 u1 hu0 hu1 hk01 ⟨py, rfl, hpy, hpyc⟩
    repeat' (first | apply s_ | ((first | apply JO_ob | apply GD_ex | apply GL_ex); exact rfl; first | exact ob1 | exact Ob_indexa rfl rfl (by omega) | exact Ob_load_a rfl mem_ (by omega) | exact Ob_sliceA rfl) | (apply pA_; exact zA_) | ((first | apply b_ | apply a_ | apply i_); exact z_; intro _) | ((first | apply p_ | apply JO_yes | apply GC_t); exact z_) | (apply n_; exact z_) | (apply GC_f; exact z_) | (apply GX_block_on; exact z_) | refine GC_drawB (id := 10) [5] [0, 1, 2, 3, 4] [6, 7, 8, 9, 10] _ (by kernel_rfl) (List.Sublist.refl _) ?_ | refine GC_drawA (id := 14) [0, 1, 2, 3, 4, 5, 6, 7, 8, 9] [10, 11, 12, 13, 14] (by kernel_rfl) ?_ | ((first | apply GD_at | apply GL_at | apply GD_no | apply GL_no); exact rfl) | apply DFin_0 | (apply q1_; exact z_) | (apply q0_; exact z_) | (apply q2_; exact z_) | (apply c_; exact z_; all_goals intro _) | (apply g_; exact z_; all_goals intro _))
    have hit := it182 (b0 := w) (Rb := [(fun b => u0.heap.size ≤ b, u1), (fun _ => True, w)]) (G := fun b => u0.heap.size ≤ b) (w1 := u1) (G2 := fun _ => True) (w2 := w) (py := py) (a := a) (.head _) hpy (by rw [cell_blk hpyc]; rfl) (.tail _ (.head _)) h.fields hO.f hO.f5
    refine GC_range (α := List (List Int) × Value × List Value × Obj) (cap := [pt py]) (prs := [24]) rfl hit (fun _ => [(fun b => u0.heap.size ≤ b, u1), (fun _ => True, w)])
      (fun s => (p7, .cells #[pt pw] 157) :: (pw, .cells #[a, b, c, s.2.1, .map (some r)] 225) :: (r, s.2.2.2) :: (p, .cells #[a, b, c] 45) :: rowH s.2.1 230 (s.1.flatMap (encA 5) ++ s.2.2.1))
      (fun pre s => s.1 = pre.filter (okAll y) ∧ Own 5 (encA 5) s.2.1 s.1 s.2.2.1 ∧ MapW 2 s.2.2.2) ([], .slice none 0 0, [], .map #[] 0) rfl (fun _ r h => h) ⟨rfl, Own.nil (encA_len 5), MapW.empty 2⟩ (fun w hw => hw) (fun x us Hi hx => by rw [hx]; rfl) ?_ ?_
    · rintro l dd rc pre x ⟨ts, tv, sp, ob⟩ us Hi hrs hrp ⟨hts, ho, hmp⟩ hpost rfl
      simp only at hts ho hmp ⊢
      have j1 := ho.v1
      have hxl : x ∈ lex y.fields := by obtain ⟨post, hp⟩ := hpost; rw [hp]; simp
      have hxb := InL_bd hO.f (mem_lex.1 hxl)
      have hln : ts.length ≤ 2000 ∧ pre.length < 2000 := by
        obtain ⟨post, hp⟩ := hpost
        have h1 := lex_len y.fields hO.f hm
        have h2 := List.length_filter_le (okAll y) pre
        rw [hp] at h1; simp at h1
        rw [hts]; omega
      refine GC_re (H' := (l, .loop rc) :: dOpen dd :: (p7, .cells #[pt pw] 157) :: (pw, .cells #[a, b, c, tv, .map (some r)] 225) :: (r, ob) :: (p, .cells #[a, b, c] 45) :: (Hi ++ rowH tv 230 (ts.flatMap (encA 5) ++ sp)))
        (fun w hw => hw.perm ((((((List.perm_append_comm).cons _).cons _).cons _).cons _).cons _ |>.cons _)) ?_
      simp only [putPs]
      repeat' (first | apply s_ | ((first | apply JO_ob | apply GD_ex | apply GL_ex); exact rfl; first | exact ob1 | exact Ob_indexa rfl rfl (by omega) | exact Ob_load_a rfl mem_ (by omega) | exact Ob_sliceA rfl) | (apply pA_; exact zA_) | ((first | apply b_ | apply a_ | apply i_); exact z_; intro _) | ((first | apply p_ | apply JO_yes | apply GC_t); exact z_) | (apply n_; exact z_) | (apply GC_f; exact z_) | (apply GX_block_on; exact z_) | refine GC_drawB (id := 10) [5] [0, 1, 2, 3, 4] [6, 7, 8, 9, 10] _ (by kernel_rfl) (List.Sublist.refl _) ?_ | refine GC_drawA (id := 14) [0, 1, 2, 3, 4, 5, 6, 7, 8, 9] [10, 11, 12, 13, 14] (by kernel_rfl) ?_ | ((first | apply GD_at | apply GL_at | apply GD_no | apply GL_no); exact rfl) | apply DFin_0 | (apply q1_; exact z_) | (apply q0_; exact z_) | (apply q2_; exact z_) | (apply c_; exact z_; all_goals intro _) | (apply g_; exact z_; all_goals intro _))
      rename_i b8
      refine GX_begin hrs (fun w hw => hw.perm (List.Perm.swap _ _ _)) ?_
      repeat' (first | apply s_ | ((first | apply JO_ob | apply GD_ex | apply GL_ex); exact rfl; first | exact ob1 | exact Ob_call rfl (fun w hw => c148 w a b c hs x y (hw.yd (.tail _ (.head _)) h) hO hxb.1 hxb.2) | exact Ob_indexa rfl rfl (by omega) | exact Ob_load_a rfl mem_ (by omega) | exact Ob_sliceA rfl) | (apply pA_; exact zA_) | ((first | apply b_ | apply a_ | apply i_); exact z_; intro _) | ((first | apply p_ | apply JO_yes | apply GC_t); exact z_) | (apply n_; exact z_) | (apply GC_f; exact z_) | (apply GX_block_on; exact z_) | refine GC_drawB (id := 10) [5] [0, 1, 2, 3, 4] [6, 7, 8, 9, 10] _ (by kernel_rfl) (List.Sublist.refl _) ?_ | refine GC_drawA (id := 14) [0, 1, 2, 3, 4, 5, 6, 7, 8, 9] [10, 11, 12, 13, 14] (by kernel_rfl) ?_ | ((first | apply GD_at | apply GL_at | apply GD_no | apply GL_no); exact rfl) | apply DFin_0 | (apply q1_; exact z_) | (apply q0_; exact z_) | (apply q2_; exact z_) | (apply c_; exact z_; all_goals intro _) | (apply g_; exact z_; all_goals intro _))
      cases hok : okAll y x
      · repeat' (first | apply s_ | ((first | apply JO_ob | apply GD_ex | apply GL_ex); exact rfl; first | exact ob1 | exact Ob_indexa rfl rfl (by omega) | exact Ob_load_a rfl mem_ (by omega) | exact Ob_sliceA rfl) | (apply pA_; exact zA_) | ((first | apply b_ | apply a_ | apply i_); exact z_; intro _) | ((first | apply p_ | apply JO_yes | apply GC_t); exact z_) | (apply n_; exact z_) | (apply GC_f; exact z_) | (apply GX_block_on; exact z_) | refine GC_drawB (id := 10) [5] [0, 1, 2, 3, 4] [6, 7, 8, 9, 10] _ (by kernel_rfl) (List.Sublist.refl _) ?_ | refine GC_drawA (id := 14) [0, 1, 2, 3, 4, 5, 6, 7, 8, 9] [10, 11, 12, 13, 14] (by kernel_rfl) ?_ | ((first | apply GD_at | apply GL_at | apply GD_no | apply GL_no); exact rfl) | apply DFin_0 | (apply q1_; exact z_) | (apply q0_; exact z_) | (apply q2_; exact z_) | (apply c_; exact z_; all_goals intro _) | (apply g_; exact z_; all_goals intro _))
        refine GX_round (H' := dOpen dd :: (p7, .cells #[pt pw] 157) :: (pw, .cells #[a, b, c, tv, .map (some r)] 225) :: (r, ob) :: (p, .cells #[a, b, c] 45) :: (Hi ++ rowH tv 230 (ts.flatMap (encA 5) ++ sp))) hrs hrp (fun w hw => hw.weak (fun r h => h) ((List.Sublist.cons _ (List.Sublist.refl _)).cons_cons _)) fun w hw => ?_
        refine ⟨(ts, tv, sp, ob), ⟨by simp [List.filter_append, hok, hts], ho, hmp⟩, fun _ h => h, hw.perm ((((((List.perm_append_comm).cons _).cons _).cons _).cons _).cons _ |>.cons _)⟩
      · repeat' (first | apply s_ | (apply JO_ob; exact rfl; first | exact ob1 | exact Ob_indexa rfl rfl (by omega) | exact Ob_load_a rfl mem_ (by omega) | exact Ob_sliceA rfl) | (apply pA_; exact zA_) | ((first | apply b_ | apply a_ | apply i_); exact z_; intro _) | ((first | apply p_ | apply JO_yes | apply GC_t); exact z_) | (apply n_; exact z_) | (apply GC_f; exact z_) | (apply GX_block_on; exact z_) | (apply c_; exact z_; all_goals intro _))
        refine GC_drawB (id := 10) [5] [0, 1, 2, 3, 4] [6, 7, 8, 9, 10] [(p7, .cells #[pt pw] 157), (pw, .cells #[a, b, c, tv, .map (some r)] 225)] (by kernel_rfl) sub_ ?_
        repeat' (first | apply s_ | ((first | apply JO_ob | apply GD_ex | apply GL_ex); exact rfl; first | exact ob1 | exact Ob_indexa rfl rfl (by omega) | exact Ob_load_a rfl mem_ (by omega) | exact Ob_sliceA rfl) | (apply pA_; exact zA_) | ((first | apply b_ | apply a_ | apply i_); exact z_; intro _) | ((first | apply p_ | apply JO_yes | apply GC_t); exact z_) | (apply n_; exact z_) | (apply GC_f; exact z_) | (apply GX_block_on; exact z_) | refine GC_drawB (id := 10) [5] [0, 1, 2, 3, 4] [6, 7, 8, 9, 10] _ (by kernel_rfl) (List.Sublist.refl _) ?_ | refine GC_drawA (id := 14) [0, 1, 2, 3, 4, 5, 6, 7, 8, 9] [10, 11, 12, 13, 14] (by kernel_rfl) ?_ | ((first | apply GD_at | apply GL_at | apply GD_no | apply GL_no); exact rfl) | apply DFin_0 | (apply q1_; exact z_) | (apply q0_; exact z_) | (apply q2_; exact z_) | (apply c_; exact z_; all_goals intro _) | (apply g_; exact z_; all_goals intro _))
        refine JO_append (xs := ts) (ys := [x]) (_ :: _ :: _ :: _ :: _ :: _ :: _ :: _ :: Hi) rfl rfl rfl ho (List.Perm.refl _) (fun w hw => hw.slOwn mem_ rfl) (by simp [encA_one]) (by simp; omega) ?_
        intro v2 s2 ho2
        have j2 := ho2.v1
        repeat' (first | apply s_ | ((first | apply JO_ob | apply GD_ex | apply GL_ex); exact rfl; first | exact ob1 | exact Ob_indexa rfl rfl (by omega) | exact Ob_load_a rfl mem_ (by omega) | exact Ob_sliceA rfl) | (apply pA_; exact zA_) | ((first | apply b_ | apply a_ | apply i_); exact z_; intro _) | ((first | apply p_ | apply JO_yes | apply GC_t); exact z_) | (apply n_; exact z_) | (apply GC_f; exact z_) | (apply GX_block_on; exact z_) | refine GC_drawB (id := 10) [5] [0, 1, 2, 3, 4] [6, 7, 8, 9, 10] _ (by kernel_rfl) (List.Sublist.refl _) ?_ | refine GC_drawA (id := 14) [0, 1, 2, 3, 4, 5, 6, 7, 8, 9] [10, 11, 12, 13, 14] (by kernel_rfl) ?_ | ((first | apply GD_at | apply GL_at | apply GD_no | apply GL_no); exact rfl) | apply DFin_0 | (apply q1_; exact z_) | (apply q0_; exact z_) | (apply q2_; exact z_) | (apply c_; exact z_; all_goals intro _) | (apply g_; exact z_; all_goals intro _))
        refine GC_loop (α := Nat × Obj) (fun s => hs.length - s.1) (fun s => [(2, pt p), (7, pt p7), (8, pt b8), (41, .int .i64 (hs.length : Int)), (42, .int .i64 (s.1 : Int))]) (fun _ => [(fun b => u0.heap.size ≤ b, u1), (fun _ => True, w)])
          (fun s => (l, .loop { rc with state := .busy }) :: (b8, .cells (encA 5 x).toArray 230) :: dOpen dd :: (p7, .cells #[pt pw] 157) :: (pw, .cells #[a, b, c, v2, .map (some r)] 225) :: (r, s.2) :: (p, .cells #[a, b, c] 45) :: (Hi ++ rowH v2 230 ((ts ++ [x]).flatMap (encA 5) ++ s2)))
          (fun s => s.1 ≤ hs.length ∧ MapW 2 s.2) (0, ob) ⟨rfl, rfl, rfl, rfl, rfl, trivial⟩ ⟨Nat.zero_le _, hmp⟩ (fun w hw => hw.weak (fun r h => h) (List.Sublist.cons _ (List.Sublist.refl _))) ?_
        rintro ⟨i, om⟩ ⟨hi, hom⟩
        simp only at hi hom ⊢
        by_cases hlt : i < hs.length
        · have v4 := hO.v4
          repeat' (first | (apply JO_lookupW (m := 2) (k := [((i : Nat) : Int), dot x (nth y.vats i)]); exact rfl; exact rfl; exact rfl; exact mem_; assumption; exact rfl; intro _) | (apply JO_mapEntryW (j := 5) (m := 2) (k := [((i : Nat) : Int), dot x (nth y.vats i)]); exact rfl; exact rfl; exact rfl; exact rfl; assumption; exact rfl; intro _ _ _ _ _) | (apply JO_entryStoreW (j := 5); exact rfl; exact rfl; exact rfl; exact rfl; assumption; assumption; intro _ _) | apply s_ | ((first | apply JO_ob | apply GD_ex | apply GL_ex); exact rfl; first | exact ob1 | exact Ob_call rfl (fun w hw => c149 w a b c hs x i y (hw.yd (.tail _ (.head _)) h) hO hxb.1 hxb.2 (by omega)) | exact Ob_addw rfl rfl | exact Ob_indexa rfl rfl (by omega) | exact Ob_load_a rfl mem_ (by omega) | exact Ob_sliceA rfl) | (apply pA_; exact zA_) | ((first | apply b_ | apply a_ | apply i_); exact z_; intro _) | ((first | apply p_ | apply JO_yes | apply GC_t); exact z_) | (apply n_; exact z_) | (apply GC_f; exact z_) | (apply GX_block_on; exact z_) | refine GC_drawB (id := 10) [5] [0, 1, 2, 3, 4] [6, 7, 8, 9, 10] _ (by kernel_rfl) (List.Sublist.refl _) ?_ | refine GC_drawA (id := 14) [0, 1, 2, 3, 4, 5, 6, 7, 8, 9] [10, 11, 12, 13, 14] (by kernel_rfl) ?_ | ((first | apply GD_at | apply GL_at | apply GD_no | apply GL_no); exact rfl) | apply DFin_0 | (apply q1_; exact z_) | (apply q0_; exact z_) | (apply q2_; exact z_) | (apply c_; exact z_; all_goals intro _) | (apply g_; exact z_; all_goals intro _))
          all_goals refine GX_loop (i + 1, _) ⟨rfl, rfl, rfl, rfl, rfl, trivial⟩ (by simp only; omega) ⟨by simp only; omega, ?_⟩ (fun w hw => hw)
          all_goals assumption
        · repeat' (first | apply s_ | ((first | apply JO_ob | apply GD_ex | apply GL_ex); exact rfl; first | exact ob1 | exact Ob_indexa rfl rfl (by omega) | exact Ob_load_a rfl mem_ (by omega) | exact Ob_sliceA rfl) | (apply pA_; exact zA_) | ((first | apply b_ | apply a_ | apply i_); exact z_; intro _) | ((first | apply p_ | apply JO_yes | apply GC_t); exact z_) | (apply n_; exact z_) | (apply GC_f; exact z_) | (apply GX_block_on; exact z_) | refine GC_drawB (id := 10) [5] [0, 1, 2, 3, 4] [6, 7, 8, 9, 10] _ (by kernel_rfl) (List.Sublist.refl _) ?_ | refine GC_drawA (id := 14) [0, 1, 2, 3, 4, 5, 6, 7, 8, 9] [10, 11, 12, 13, 14] (by kernel_rfl) ?_ | ((first | apply GD_at | apply GL_at | apply GD_no | apply GL_no); exact rfl) | apply DFin_0 | (apply q1_; exact z_) | (apply q0_; exact z_) | (apply q2_; exact z_) | (apply c_; exact z_; all_goals intro _) | (apply g_; exact z_; all_goals intro _))
          refine GX_round (H' := dOpen dd :: (p7, .cells #[pt pw] 157) :: (pw, .cells #[a, b, c, v2, .map (some r)] 225) :: (r, om) :: (p, .cells #[a, b, c] 45) :: (Hi ++ rowH v2 230 ((ts ++ [x]).flatMap (encA 5) ++ s2))) hrs hrp (fun w hw => hw.weak (fun r h => h) ((List.Sublist.cons _ (List.Sublist.refl _)).cons_cons _)) fun w hw => ?_
          refine ⟨(ts ++ [x], v2, s2, om), ⟨by simp [List.filter_append, hok, hts], ho2, hom⟩, fun _ h => h, hw.perm ((((((List.perm_append_comm).cons _).cons _).cons _).cons _).cons _ |>.cons _)⟩
    · rintro dd ⟨ts, tv, sp, ob⟩ ⟨hts, ho, hmp⟩
      simp only at hts ho hmp ⊢
      have e1 : ts = truthsX y := hts
      refine GX_freeze (A := [dOpen dd, _, _, _, _]) ho (by decide) ?_
      intro G w1 hF hG
      have j1 := hF.v1
      by_cases h0 : ts.length = 0
      · repeat' (first | apply s_ | ((first | apply JO_ob | apply GD_ex | apply GL_ex); exact rfl; first | exact ob1 | exact Ob_indexa rfl rfl (by omega) | exact Ob_load_a rfl mem_ (by omega) | exact Ob_sliceA rfl) | (apply pA_; exact zA_) | ((first | apply b_ | apply a_ | apply i_); exact z_; intro _) | ((first | apply p_ | apply JO_yes | apply GC_t); exact z_) | (apply n_; exact z_) | (apply GC_f; exact z_) | (apply GX_block_on; exact z_) | refine GC_drawB (id := 10) [5] [0, 1, 2, 3, 4] [6, 7, 8, 9, 10] _ (by kernel_rfl) (List.Sublist.refl _) ?_ | refine GC_drawA (id := 14) [0, 1, 2, 3, 4, 5, 6, 7, 8, 9] [10, 11, 12, 13, 14] (by kernel_rfl) ?_ | ((first | apply GD_at | apply GL_at | apply GD_no | apply GL_no); exact rfl) | apply DFin_0 | (apply q1_; exact z_) | (apply q0_; exact z_) | (apply q2_; exact z_) | (apply c_; exact z_; all_goals intro _) | (apply g_; exact z_; all_goals intro _))
        refine GX_retM1 0 rfl (GX_ret2 rfl rfl rfl fun w' hw' => ⟨hw'.kp mem_, .inr (.inl ⟨hf, ?_, rfl⟩)⟩)
        rw [← e1]; exact List.eq_nil_of_length_eq_zero h0
      · repeat' (first | apply s_ | ((first | apply JO_ob | apply GD_ex | apply GL_ex); exact rfl; first | exact ob1 | exact Ob_indexa rfl rfl (by omega) | exact Ob_load_a rfl mem_ (by omega) | exact Ob_sliceA rfl) | (apply pA_; exact zA_) | ((first | apply b_ | apply a_ | apply i_); exact z_; intro _) | ((first | apply p_ | apply JO_yes | apply GC_t); exact z_) | (apply n_; exact z_) | (apply GC_f; exact z_) | (apply GX_block_on; exact z_) | refine GC_drawB (id := 10) [5] [0, 1, 2, 3, 4] [6, 7, 8, 9, 10] _ (by kernel_rfl) (List.Sublist.refl _) ?_ | refine GC_drawA (id := 14) [0, 1, 2, 3, 4, 5, 6, 7, 8, 9] [10, 11, 12, 13, 14] (by kernel_rfl) ?_ | ((first | apply GD_at | apply GL_at | apply GD_no | apply GL_no); exact rfl) | apply DFin_0 | (apply q1_; exact z_) | (apply q0_; exact z_) | (apply q2_; exact z_) | (apply c_; exact z_; all_goals intro _) | (apply g_; exact z_; all_goals intro _))
        refine GX_retM1 0 rfl (GX_ret2 rfl rfl rfl fun w' hw' => ⟨hw'.kp mem_, .inr (.inr ⟨hf, ?_, pw, tv, .map (some r), rfl, hw'.apt _ (.tail _ (.tail _ (.head _))) _ (.tail _ (.tail _ (.head _))) trivial, hw'.own _ (.tail _ (.tail _ (.head _))), ?_⟩)⟩)
        · rw [← e1]; intro hh; exact h0 (by rw [hh]; rfl)
        · rw [← e1]; exact hF.new hG mem_ mem_ hw'
  · repeat' (first | apply s_ | ((first | apply JO_ob | apply GD_ex | apply GL_ex); exact rfl; first | exact ob1) | ((first | apply b_ | apply a_ | apply i_); exact z_; intro _) | ((first | apply p_ | apply JO_yes | apply GC_t); exact z_) | (apply n_; exact z_) | (apply GC_f; exact z_) | (apply GX_block_on; exact z_) | refine GC_drawB (id := 10) [5] [0, 1, 2, 3, 4] [6, 7, 8, 9, 10] _ (by kernel_rfl) (List.Sublist.refl _) ?_ | refine GC_drawA (id := 14) [0, 1, 2, 3, 4, 5, 6, 7, 8, 9] [10, 11, 12, 13, 14] (by kernel_rfl) ?_ | ((first | apply GD_at | apply GL_at | apply GD_no | apply GL_no); exact rfl) | apply DFin_0 | (apply q1_; exact z_) | (apply q0_; exact z_) | (apply q2_; exact z_) | (apply c_; exact z_; all_goals intro _) | (apply g_; exact z_; all_goals intro _))
    exact GX_retM0 (GX_ret2 rfl rfl rfl fun w' hw' => ⟨hw'.kp mem_, .inl ⟨hf, rfl⟩⟩)
end Go.Proofs.YtkbaaikidhbfmaaGreat
/- Contracts: the program's yards: bounds. No statement is proved here. -/
set_option linter.unusedVariables false
set_option linter.unusedSimpArgs false
namespace Go.Proofs.YtkbaaikidhbfmaaGreat
open Go.RowKit
instance : TyOne 160 := ⟨fun _ => by kernel_rfl, fun _ => by kernel_rfl⟩
instance : TyOne 121 := ⟨fun _ => by kernel_rfl, fun _ => by kernel_rfl⟩
instance : TyOne 178 := ⟨fun _ => by kernel_rfl, fun _ => by kernel_rfl⟩
/-- The bounds of the blue of all vats, in some truths. -/
def bnds (n : Nat) (f : Nat → List Int) : List Rg := (List.range n).map fun i => hull (f i)
theorem bnds_nth {n i : Nat} {f : Nat → List Int} (h : i < n) : nth (bnds n f) i = hull (f i) := by simp [bnds, nth, h]
def dots (y : Yd) (ts : List (List Int)) (i : Nat) : List Int := ts.map fun bs => dot bs (nth y.vats i)
theorem dots_bd {y : Yd} (hOk : OkY y) {ts : List (List Int)} (hts : ∀ bs ∈ ts, Bd 20 bs ∧ bs.length = y.fields.length) {i : Nat} (hi : i < y.vats.length) : ∀ n ∈ dots y ts i, 0 ≤ n ∧ n ≤ 900 := by
  intro n hn
  simp only [dots, List.mem_map] at hn
  obtain ⟨bs, hb, rfl⟩ := hn
  have h1 := hts bs hb
  have h2 := hOk.v i hi
  have h3 := dotN_bd h1.1 h2.2 (by omega) bs.length (Nat.le_refl _)
  have h4 := hOk.f5
  simp only [dot]
  omega
theorem nth_mem {α : Type} [Inhabited α] {l : List α} {i : Nat} (h : i < l.length) : nth l i ∈ l := by
  have : nth l i = l[i] := by simp [nth, h]
  rw [this]; exact List.getElem_mem h
theorem c106 (w : World) (pw : Nat) (a b c tv mv : Value) (hs : List Value) (y : Yd) (ts : List (List Int)) (hpw : w.heap[pw]? = some (.cells #[a, b, c, tv, mv] 225)) (h : YdA All w a b c hs y) (hT : Arr All w 5 (encA 5) tv ts) (hOk : OkY y) (hts : ∀ bs ∈ ts, Bd 20 bs ∧ bs.length = y.fields.length) (hne : 0 < ts.length) :
    Rt 106 [.agg #[.func (.func 105) #[] #[]], pt pw, .int .i64 (y.vats.length : Int)] w fun v w' => Keep w w' ∧ Arr (New w) w' 2 encR v (bnds y.vats.length (dots y ts)) := by
  have i1 := h.fields.v1
  have i2 := h.vats.arr.v1
  have i3 := h.smps.v1
  have i4 := hT.v1
  have v4 := hOk.v4
  have bT := hT.bound
  refine Rt_of Tryz.func106 rfl Tryz.ntmps106 rfl ?_
  repeat' (first | apply s_ | ((first | apply JO_ob | apply GD_ex | apply GL_ex); exact rfl; first | exact ob1 | exact Ob_indexa rfl rfl (by omega) | exact Ob_load_a rfl mem_ (by omega) | exact Ob_sliceA rfl) | (apply pA_; exact zA_) | ((first | apply b_ | apply a_ | apply i_); exact z_; intro _) | ((first | apply p_ | apply JO_yes | apply GC_t); exact z_) | (apply n_; exact z_) | (apply GC_f; exact z_) | (apply GX_block_on; exact z_) | refine GC_drawA (id := 4) [0, 1, 2, 3, 4, 5, 6, 7, 8, 9, 10, 11] [] (by kernel_rfl) ?_ | refine GC_drawA (id := 9) [0, 1, 2, 3, 4, 5, 6, 7] [8] (by kernel_rfl) ?_ | ((first | apply GD_at | apply GL_at | apply GD_no | apply GL_no); exact rfl) | apply DFin_0 | (apply q1_; exact z_) | (apply q0_; exact z_) | (apply q2_; exact z_) | (apply c_; exact z_; all_goals intro _) | (apply g_; exact z_; all_goals intro _))
  rename_i p
  let B := bnds y.vats.length (dots y ts)
  have lB : B.length = y.vats.length := by simp [B, bnds]
  refine GC_loop (α := Nat × Value × List Value) (fun s => y.vats.length - s.1) (fun s => [(1, pt pw), (3, pt p), (6, s.2.1), (12, .int .i64 (y.vats.length : Int)), (13, .int .i64 (s.1 : Int))]) (fun _ => [((fun _ => True), w)])
    (fun s => (p, .cells #[.func (.func 105) #[] #[]] 163) :: rowH s.2.1 80 ((B.take s.1).flatMap encR ++ s.2.2))
    (fun s => s.1 ≤ y.vats.length ∧ Own 2 encR s.2.1 (B.take s.1) s.2.2) (0, .slice none 0 0, []) ⟨rfl, rfl, rfl, rfl, rfl, trivial⟩ ⟨Nat.zero_le _, Own.nil fun _ => rfl⟩ (fun w hw => hw) ?_
  rintro ⟨i, v1, s1⟩ ⟨hi, ho1⟩
  simp only at hi ho1 ⊢
  have j1 := ho1.v1
  by_cases hlt : i < y.vats.length
  · let L := dots y ts i
    have lL : L.length = ts.length := by simp [L, dots]
    have eL : ∀ k, k < ts.length → nth L k = dot (nth ts k) (nth y.vats i) := fun k hk => nth_map _ hk
    have hLb : ∀ n ∈ L, 0 ≤ n ∧ n ≤ 900 := dots_bd hOk hts hlt
    have m0 := hts _ (nth_mem hne)
    repeat' (first | apply s_ | ((first | apply JO_ob | apply GD_ex | apply GL_ex); exact rfl; first | exact ob1 | exact Ob_loads_blk rfl mem_ trivial hpw (vs := [a, b, c]) rfl rfl | exact Ob_load_blk rfl mem_ trivial hpw rfl | exact Ob_load_A (i := 0) rfl hT mem_ rfl hne | (apply Ob_callv (f := 105) (cap := []); exact rfl; exact rfl; exact fun w5 hw5 => c105 w5 pw a b c [tv, mv] 225 (0, 0) hs (nth ts 0) i y (((hw5.rng _ mem_).2 pw trivial (Array.getElem?_eq_some_iff.1 hpw).1).trans hpw) (hw5.yd mem_ h) hOk m0.1 m0.2 hlt) | exact Ob_indexa rfl rfl (by omega) | exact Ob_load_a rfl mem_ (by omega) | exact Ob_sliceA rfl) | (apply pA_; exact zA_) | ((first | apply b_ | apply a_ | apply i_); exact z_; intro _) | ((first | apply p_ | apply JO_yes | apply GC_t); exact z_) | (apply n_; exact z_) | (apply GC_f; exact z_) | (apply GX_block_on; exact z_) | refine GC_drawA (id := 4) [0, 1, 2, 3, 4, 5, 6, 7, 8, 9, 10, 11] [] (by kernel_rfl) ?_ | refine GC_drawA (id := 9) [0, 1, 2, 3, 4, 5, 6, 7] [8] (by kernel_rfl) ?_ | ((first | apply GD_at | apply GL_at | apply GD_no | apply GL_no); exact rfl) | apply DFin_0 | (apply q1_; exact z_) | (apply q0_; exact z_) | (apply q2_; exact z_) | (apply c_; exact z_; all_goals intro _) | (apply g_; exact z_; all_goals intro _))
    rename_i p9
    have e0 : dot (nth ts 0) (nth y.vats i) = nth L 0 := (eL 0 hne).symm
    rw [e0]
    refine GC_loop (α := Nat) (fun k => ts.length - k) (fun k => [(1, pt pw), (3, pt p), (6, v1), (7, .int .i64 (i : Int)), (9, pt p9), (12, .int .i64 (y.vats.length : Int)), (13, .int .i64 (i : Int)), (33, tv), (34, .int .i64 (ts.length : Int)), (35, .int .i64 (k : Int))]) (fun _ => [((fun _ => True), w)])
      (fun k => (p9, .cells #[.int .i64 ((L.take k).foldl min (nth L 0)), .int .i64 ((L.take k).foldl max (nth L 0))] 80) :: (p, .cells #[.func (.func 105) #[] #[]] 163) :: rowH v1 80 ((B.take i).flatMap encR ++ s1))
      (fun k => k ≤ ts.length) 0 ⟨rfl, rfl, rfl, rfl, rfl, rfl, rfl, rfl, rfl, rfl, trivial⟩ (Nat.zero_le _) (fun w hw => hw) ?_
    intro k hk
    by_cases hlk : k < ts.length
    · have mk := hts _ (nth_mem hlk)
      repeat' (first | apply s_ | ((first | apply JO_ob | apply GD_ex | apply GL_ex); exact rfl; first | exact ob1 | exact Ob_loads_blk rfl mem_ trivial hpw (vs := [a, b, c]) rfl rfl | exact Ob_load_blk rfl mem_ trivial hpw rfl | exact Ob_load_A (i := k) rfl hT mem_ rfl hlk | (apply Ob_callv (f := 105) (cap := []); exact rfl; exact rfl; exact fun w5 hw5 => c105 w5 pw a b c [tv, mv] 225 (0, 0) hs (nth ts k) i y (((hw5.rng _ mem_).2 pw trivial (Array.getElem?_eq_some_iff.1 hpw).1).trans hpw) (hw5.yd mem_ h) hOk mk.1 mk.2 hlt) | exact Ob_call rfl (fun w5 hw5 => c150 _ _ _ w5) | exact Ob_indexa rfl rfl (by omega) | exact Ob_load_a rfl mem_ (by omega) | exact Ob_sliceA rfl) | (apply pA_; exact zA_) | ((first | apply b_ | apply a_ | apply i_); exact z_; intro _) | ((first | apply p_ | apply JO_yes | apply GC_t); exact z_) | (apply n_; exact z_) | (apply GC_f; exact z_) | (apply GX_block_on; exact z_) | refine GC_drawA (id := 4) [0, 1, 2, 3, 4, 5, 6, 7, 8, 9, 10, 11] [] (by kernel_rfl) ?_ | refine GC_drawA (id := 9) [0, 1, 2, 3, 4, 5, 6, 7] [8] (by kernel_rfl) ?_ | ((first | apply GD_at | apply GL_at | apply GD_no | apply GL_no); exact rfl) | apply DFin_0 | (apply q1_; exact z_) | (apply q0_; exact z_) | (apply q2_; exact z_) | (apply c_; exact z_; all_goals intro _) | (apply g_; exact z_; all_goals intro _))
      have e5 : L.take (k + 1) = L.take k ++ [nth L k] := take_snoc (by omega)
      refine GX_loop (k + 1) ⟨rfl, rfl, rfl, rfl, rfl, rfl, rfl, rfl, rfl, rfl, trivial⟩ (by omega) (by omega) (fun w hw => ?_)
      simp only [e5, List.foldl_append, List.foldl_cons, List.foldl_nil, eL k hlk]
      exact hw.weak (fun r h => h) (List.Sublist.cons _ (List.Sublist.refl _))
    · have hke : k = ts.length := by omega
      subst hke
      have eLt : L.take ts.length = L := List.take_of_length_le (by omega)
      rw [eLt]
      have eh : ((L.foldl min (nth L 0)), (L.foldl max (nth L 0))) = hull L := hull_from (nth_mem (by omega)) (fun x hx => by have := hLb x hx; omega)
      have eB : nth B i = (L.foldl min (nth L 0), L.foldl max (nth L 0)) := (bnds_nth hlt).trans eh.symm
      repeat' (first | apply s_ | ((first | apply JO_ob | apply GD_ex | apply GL_ex); exact rfl; first | exact ob1 | exact Ob_indexa rfl rfl (by omega) | exact Ob_load_a rfl mem_ (by omega) | exact Ob_sliceA rfl) | (apply pA_; exact zA_) | ((first | apply b_ | apply a_ | apply i_); exact z_; intro _) | ((first | apply p_ | apply JO_yes | apply GC_t); exact z_) | (apply n_; exact z_) | (apply GC_f; exact z_) | (apply GX_block_on; exact z_) | refine GC_drawA (id := 4) [0, 1, 2, 3, 4, 5, 6, 7, 8, 9, 10, 11] [] (by kernel_rfl) ?_ | refine GC_drawA (id := 9) [0, 1, 2, 3, 4, 5, 6, 7] [8] (by kernel_rfl) ?_ | ((first | apply GD_at | apply GL_at | apply GD_no | apply GL_no); exact rfl) | apply DFin_0 | (apply q1_; exact z_) | (apply q0_; exact z_) | (apply q2_; exact z_) | (apply c_; exact z_; all_goals intro _) | (apply g_; exact z_; all_goals intro _))
      refine JO_append (xs := B.take i) (ys := [(L.foldl min (nth L 0), L.foldl max (nth L 0))]) [_, _, _] rfl rfl rfl ho1 (List.Perm.refl _) (fun w hw => hw.slOwn mem_ rfl) (by simp [encR, oneCell]) (by simp; omega) ?_
      intro v2 s2 ho2
      have j2 := ho2.v1
      rw [← eB, ← take_snoc (by omega)] at ho2 ⊢
      repeat' (first | apply s_ | ((first | apply JO_ob | apply GD_ex | apply GL_ex); exact rfl; first | exact ob1 | exact Ob_indexa rfl rfl (by omega) | exact Ob_load_a rfl mem_ (by omega) | exact Ob_sliceA rfl) | (apply pA_; exact zA_) | ((first | apply b_ | apply a_ | apply i_); exact z_; intro _) | ((first | apply p_ | apply JO_yes | apply GC_t); exact z_) | (apply n_; exact z_) | (apply GC_f; exact z_) | (apply GX_block_on; exact z_) | refine GC_drawA (id := 4) [0, 1, 2, 3, 4, 5, 6, 7, 8, 9, 10, 11] [] (by kernel_rfl) ?_ | refine GC_drawA (id := 9) [0, 1, 2, 3, 4, 5, 6, 7] [8] (by kernel_rfl) ?_ | ((first | apply GD_at | apply GL_at | apply GD_no | apply GL_no); exact rfl) | apply DFin_0 | (apply q1_; exact z_) | (apply q0_; exact z_) | (apply q2_; exact z_) | (apply c_; exact z_; all_goals intro _) | (apply g_; exact z_; all_goals intro _))
      exact GX_loop (i + 1, v2, s2) ⟨rfl, rfl, rfl, rfl, rfl, trivial⟩ (by simp only; omega) ⟨by simp only; omega, ho2⟩ fun w hw => hw.weak (fun r h => h) (List.Sublist.cons _ (List.Sublist.cons _ (List.Sublist.refl _)))
  · have hie : i = B.length := by omega
    rw [hie, List.take_length] at ho1 ⊢
    repeat' (first | apply s_ | ((first | apply JO_ob | apply GD_ex | apply GL_ex); exact rfl; first | exact ob1 | exact Ob_indexa rfl rfl (by omega) | exact Ob_load_a rfl mem_ (by omega) | exact Ob_sliceA rfl) | (apply pA_; exact zA_) | ((first | apply b_ | apply a_ | apply i_); exact z_; intro _) | ((first | apply p_ | apply JO_yes | apply GC_t); exact z_) | (apply n_; exact z_) | (apply GC_f; exact z_) | (apply GX_block_on; exact z_) | refine GC_drawA (id := 4) [0, 1, 2, 3, 4, 5, 6, 7, 8, 9, 10, 11] [] (by kernel_rfl) ?_ | refine GC_drawA (id := 9) [0, 1, 2, 3, 4, 5, 6, 7] [8] (by kernel_rfl) ?_ | ((first | apply GD_at | apply GL_at | apply GD_no | apply GL_no); exact rfl) | apply DFin_0 | (apply q1_; exact z_) | (apply q0_; exact z_) | (apply q2_; exact z_) | (apply c_; exact z_; all_goals intro _) | (apply g_; exact z_; all_goals intro _))
    refine GX_ret1 rfl rfl fun w' hw' => ⟨hw'.kp mem_, ho1.ret (A := [_]) (by decide) hw' mem_⟩
theorem truthsX_ok {y : Yd} (h : OkF y.fields) : ∀ bs ∈ truthsX y, Bd 20 bs ∧ bs.length = y.fields.length := fun bs hb => InL_bd h (mem_lex.1 (List.mem_filter.1 hb).1)
theorem c46 (w : World) (a b c : Value) (hs : List Value) (y : Yd) (h : YdA All w a b c hs y) :
    Rt 46 [.agg #[a, b, c]] w fun v w' => Keep w w' ∧
      ((fault1 y ≠ 0 ∧ v = .tuple #[.slice none 0 0, .int .i64 (fault1 y)]) ∨ (fault1 y = 0 ∧ truthsX y = [] ∧ v = .tuple #[.slice none 0 0, .int .i64 11]) ∨
       (fault1 y = 0 ∧ truthsX y ≠ [] ∧ ∃ u, v = .tuple #[u, .int .i64 0] ∧ Arr (New w) w' 2 encR u (bnds y.vats.length (dots y (truthsX y))))) := by
  have i1 := h.fields.v1
  have i2 := h.vats.arr.v1
  have i3 := h.smps.v1
  have n1 := h.vats.len
  have ha := h.vats.arr
  refine Rt_of Tryz.func46 rfl Tryz.ntmps46 rfl ?_
  repeat' (first | apply s_ | (apply JO_ob; exact rfl; first | exact ob1) | ((first | apply b_ | apply a_ | apply i_); exact z_; intro _) | ((first | apply p_ | apply JO_yes | apply GC_t); exact z_) | (apply n_; exact z_) | (apply GC_f; exact z_) | (apply GX_block_on; exact z_) | (apply c_; exact z_; all_goals intro _))
  refine JO_call (S := fun w0 v w' => ((fault1 y ≠ 0 ∧ v = .tuple #[.pointer none, .int .i64 (fault1 y)]) ∨ (fault1 y = 0 ∧ truthsX y = [] ∧ v = .tuple #[.pointer none, .int .i64 11]) ∨
       (fault1 y = 0 ∧ truthsX y ≠ [] ∧ ∃ pw tv mv, v = .tuple #[pt pw, .int .i64 0] ∧ w0.heap.size ≤ pw ∧ w'.heap[pw]? = some (.cells #[a, b, c, tv, mv] 225) ∧ Arr (New w0) w' 5 (encA 5) tv (truthsX y)))) rfl rfl (fun w5 hw5 => c104 w5 a b c hs y (hw5.yd mem_ h)) ?_
  rintro r u0 u1 hu0 hu1 hk01 (⟨hf, rfl⟩ | ⟨hf, ht, rfl⟩ | ⟨hf, ht, pw, tv, mv, rfl, hpw0, hpw, hT⟩)
  · repeat' (first | apply s_ | (apply JO_ob; exact rfl; first | exact ob1) | ((first | apply b_ | apply a_ | apply i_); exact z_; intro _) | ((first | apply p_ | apply JO_yes | apply GC_t); exact z_) | (apply n_; exact z_) | (apply GC_f; exact z_) | (apply GX_block_on; exact z_) | (apply c_; exact z_; all_goals intro _))
    exact GX_ret2 rfl rfl rfl fun w' hw' => ⟨hw'.kp mem_, .inl ⟨hf, rfl⟩⟩
  · repeat' (first | apply s_ | (apply JO_ob; exact rfl; first | exact ob1) | ((first | apply b_ | apply a_ | apply i_); exact z_; intro _) | ((first | apply p_ | apply JO_yes | apply GC_t); exact z_) | (apply n_; exact z_) | (apply GC_f; exact z_) | (apply GX_block_on; exact z_) | (apply c_; exact z_; all_goals intro _))
    exact GX_ret2 rfl rfl rfl fun w' hw' => ⟨hw'.kp mem_, .inr (.inl ⟨hf, ht, rfl⟩)⟩
  · obtain ⟨hO, hm⟩ := okY_of hf
    have i4 := hT.v1
    repeat' (first | apply s_ | (apply JO_ob; exact rfl; first | exact ob1) | ((first | apply b_ | apply a_ | apply i_); exact z_; intro _) | ((first | apply p_ | apply JO_yes | apply GC_t); exact z_) | (apply n_; exact z_) | (apply GC_f; exact z_) | (apply GX_block_on; exact z_) | (apply c_; exact z_; all_goals intro _))
    rw [n1]
    have hne : 0 < (truthsX y).length := by
      rcases Nat.eq_zero_or_pos (truthsX y).length with h | h
      · exact absurd (List.eq_nil_of_length_eq_zero h) ht
      · exact h
    refine JO_call (S := fun w0 r w' => Arr (New w0) w' 2 encR r (bnds y.vats.length (dots y (truthsX y)))) rfl rfl (fun w5 hw5 => c106 w5 pw a b c tv mv hs y (truthsX y) (((hw5.rng _ (.head _)).2 pw hpw0 (Array.getElem?_eq_some_iff.1 hpw).1).trans hpw) (hw5.yd mem_ h) ((hw5.arr (.head _) hT).weaken fun _ _ _ => trivial) hO (truthsX_ok hO.f) hne) ?_
    rintro r u2 u3 hu2 hu3 hk23 hS
    have i5 := hS.v1
    repeat' (first | apply s_ | (apply JO_ob; exact rfl; first | exact ob1) | ((first | apply b_ | apply a_ | apply i_); exact z_; intro _) | ((first | apply p_ | apply JO_yes | apply GC_t); exact z_) | (apply n_; exact z_) | (apply GC_f; exact z_) | (apply GX_block_on; exact z_) | (apply c_; exact z_; all_goals intro _))
    exact GX_ret2 rfl rfl rfl fun w' hw' => ⟨hw'.kp mem_, .inr (.inr ⟨hf, ht, r, rfl, (hw'.arr (.head _) hS).weaken fun b hb _ => Nat.le_trans hu2.b0le hb⟩)⟩
end Go.Proofs.YtkbaaikidhbfmaaGreat
/- Contracts: the program's beatings: what is valid, courses, what is right. No statement is proved here. -/
set_option linter.unusedVariables false
set_option linter.unusedSimpArgs false
namespace Go.Proofs.YtkbaaikidhbfmaaGreat
open Go.RowKit
theorem BtA.keep {w w' : World} {d e : Value} {y : Bt} (h : BtA All w d e y) (k : Keep w w') : BtA All w' d e y :=
  ⟨h.vats.move fun b _ hb => k.block b hb, h.smps.move fun b _ hb => k.block b hb⟩
theorem c187 (a b c : Int) (w : World) : Ex 187 [.agg #[.int .i64 a, .int .i64 b], .int .i64 c] w (.bool (decide (a ≤ c ∧ c ≤ b))) := by
  refine Rt_of Tryz.func187 rfl Tryz.ntmps187 rfl ?_
  repeat' (first | apply s_ | (apply JO_ob; exact rfl; first | exact ob1 | exact Ob_call rfl (fun w hw => c193 c a b w)) | ((first | apply b_ | apply a_ | apply i_); exact z_; intro _) | ((first | apply p_ | apply JO_yes | apply GC_t); exact z_) | (apply n_; exact z_) | (apply GC_f; exact z_) | (apply GX_block_on; exact z_) | (apply c_; exact z_; all_goals intro _))
  (first | exact GX_ex rfl rfl mem_ rfl | exact GX_exc rfl rfl mem_ rfl mem_ rfl)
theorem c190 (w : World) (d e : Value) (v : Int) (y : Bt) (h : BtA All w d e y) : Ex 190 [btV d e y, .int .i64 v] w (.bool (decide (0 ≤ v ∧ v ≤ (y.vats.length : Int) - 1))) := by
  have i1 := h.vats.v1
  have i3 := h.smps.v1
  have ha := h.vats
  have hb := ha.bound
  refine Rt_of Tryz.func190 rfl Tryz.ntmps190 rfl ?_
  repeat' (first | apply s_ | (apply JO_ob; exact rfl; first | exact ob1 | exact Ob_call rfl (fun w hw => c193 _ _ _ w)) | ((first | apply b_ | apply a_ | apply i_); exact z_; intro _) | ((first | apply p_ | apply JO_yes | apply GC_t); exact z_) | (apply n_; exact z_) | (apply GC_f; exact z_) | (apply GX_block_on; exact z_) | (apply c_; exact z_; all_goals intro _))
  (first | exact GX_ex rfl rfl mem_ rfl | exact GX_exc rfl rfl mem_ rfl mem_ rfl)
theorem c189 (w : World) (d e : Value) (v : Int) (y : Bt) (h : BtA All w d e y) : Ex 189 [btV d e y, .int .i64 v] w (.bool (decide (0 ≤ v ∧ v ≤ y.last))) := by
  have i1 := h.vats.v1
  have i3 := h.smps.v1
  refine Rt_of Tryz.func189 rfl Tryz.ntmps189 rfl ?_
  repeat' (first | apply s_ | (apply JO_ob; exact rfl; first | exact ob1 | exact Ob_call rfl (fun w hw => c193 _ _ _ w)) | ((first | apply b_ | apply a_ | apply i_); exact z_; intro _) | ((first | apply p_ | apply JO_yes | apply GC_t); exact z_) | (apply n_; exact z_) | (apply GC_f; exact z_) | (apply GX_block_on; exact z_) | (apply c_; exact z_; all_goals intro _))
  (first | exact GX_ex rfl rfl mem_ rfl | exact GX_exc rfl rfl mem_ rfl mem_ rfl)
theorem c165 (w : World) (d e : Value) (s : BS) (y : Bt) (h : BtA All w d e y) : Ex 165 [btV d e y, .agg (encB s).toArray] w (.bool (isBS y.vats.length y.last s)) := by
  have i1 := h.vats.v1
  have i3 := h.smps.v1
  refine Rt_of Tryz.func165 rfl Tryz.ntmps165 rfl ?_
  simp only [encB]
  repeat' (first | apply s_ | (apply JO_ob; exact rfl; first | exact ob1 | exact Ob_call rfl (fun w hw => c190 w d e _ y (hw.bt mem_ h))) | ((first | apply b_ | apply a_ | apply i_); exact z_; intro _) | ((first | apply p_ | apply JO_yes | apply GC_t); exact z_) | (apply n_; exact z_) | (apply GC_f; exact z_) | (apply GX_block_on; exact z_) | (apply c_; exact z_; all_goals intro _))
  cases hv : decide (0 ≤ s.vat ∧ s.vat ≤ (y.vats.length : Int) - 1)
  · repeat' (first | apply s_ | (apply JO_ob; exact rfl; first | exact ob1) | ((first | apply b_ | apply a_ | apply i_); exact z_; intro _) | ((first | apply p_ | apply JO_yes | apply GC_t); exact z_) | (apply n_; exact z_) | (apply GC_f; exact z_) | (apply GX_block_on; exact z_) | (apply c_; exact z_; all_goals intro _))
    refine GX_ex rfl rfl mem_ ?_
    simp only [isBS, hv, Bool.false_and]
  · repeat' (first | apply s_ | (apply JO_ob; exact rfl; first | exact ob1 | exact Ob_call rfl (fun w hw => c189 w d e _ y (hw.bt mem_ h))) | ((first | apply b_ | apply a_ | apply i_); exact z_; intro _) | ((first | apply p_ | apply JO_yes | apply GC_t); exact z_) | (apply n_; exact z_) | (apply GC_f; exact z_) | (apply GX_block_on; exact z_) | (apply c_; exact z_; all_goals intro _))
    refine GX_ex rfl rfl mem_ ?_
    simp only [isBS, hv, Bool.true_and]
theorem c168 (v : BV) (w : World) : Ex 168 [.agg (encV v).toArray] w (.bool (isBV v)) := by
  refine Rt_of Tryz.func168 rfl Tryz.ntmps168 rfl ?_
  simp only [encV]
  repeat' (first | apply s_ | (apply JO_ob; exact rfl; first | exact ob1 | exact Ob_call rfl (fun w hw => c166 _ _ _ w)) | ((first | apply b_ | apply a_ | apply i_); exact z_; intro _) | ((first | apply p_ | apply JO_yes | apply GC_t); exact z_) | (apply n_; exact z_) | (apply GC_f; exact z_) | (apply GX_block_on; exact z_) | (apply c_; exact z_; all_goals intro _))
  cases h1 : decide (0 ≤ v.lo ∧ v.lo ≤ v.hi ∧ v.hi ≤ 9)
  · repeat' (first | apply s_ | (apply JO_ob; exact rfl; first | exact ob1) | ((first | apply b_ | apply a_ | apply i_); exact z_; intro _) | ((first | apply p_ | apply JO_yes | apply GC_t); exact z_) | (apply n_; exact z_) | (apply GC_f; exact z_) | (apply GX_block_on; exact z_) | (apply c_; exact z_; all_goals intro _))
    refine GX_ex rfl rfl mem_ ?_
    simp only [isBV, h1, Bool.false_and]
  · repeat' (first | apply s_ | (apply JO_ob; exact rfl; first | exact ob1 | exact Ob_call rfl (fun w hw => c193 _ _ _ w)) | ((first | apply b_ | apply a_ | apply i_); exact z_; intro _) | ((first | apply p_ | apply JO_yes | apply GC_t); exact z_) | (apply n_; exact z_) | (apply GC_f; exact z_) | (apply GX_block_on; exact z_) | (apply c_; exact z_; all_goals intro _))
    cases h2 : decide (0 ≤ v.early ∧ v.early ≤ 20)
    · repeat' (first | apply s_ | (apply JO_ob; exact rfl; first | exact ob1) | ((first | apply b_ | apply a_ | apply i_); exact z_; intro _) | ((first | apply p_ | apply JO_yes | apply GC_t); exact z_) | (apply n_; exact z_) | (apply GC_f; exact z_) | (apply GX_block_on; exact z_) | (apply c_; exact z_; all_goals intro _))
      refine GX_ex rfl rfl mem_ ?_
      simp only [isBV, h1, h2, Bool.false_and, Bool.and_false]
    · repeat' (first | apply s_ | (apply JO_ob; exact rfl; first | exact ob1 | exact Ob_call rfl (fun w hw => c193 _ _ _ w)) | ((first | apply b_ | apply a_ | apply i_); exact z_; intro _) | ((first | apply p_ | apply JO_yes | apply GC_t); exact z_) | (apply n_; exact z_) | (apply GC_f; exact z_) | (apply GX_block_on; exact z_) | (apply c_; exact z_; all_goals intro _))
      refine GX_ex rfl rfl mem_ ?_
      simp only [isBV, h1, h2, Bool.true_and]
theorem p168 (w : World) : Pass w (.func (.func 168) #[] #[]) (fun x => .agg (encV x).toArray) isBV := ⟨168, [], [], rfl, inferInstance, fun x w hk => c168 x w⟩
theorem p165 (w : World) (d e : Value) (y : Bt) (h : BtA All w d e y) : Pass w (.func (.func 165) #[btV d e y] #[]) (fun x => .agg (encB x).toArray) (isBS y.vats.length y.last) :=
  ⟨165, [btV d e y], [], rfl, inferInstance, fun x w' hk => c165 w' d e x y (h.keep hk)⟩
theorem p189 (w : World) (d e : Value) (y : Bt) (h : BtA All w d e y) : Pass w (.func (.func 189) #[btV d e y] #[]) (fun x => .int .i64 x) (fun x => decide (0 ≤ x ∧ x ≤ y.last)) :=
  ⟨189, [btV d e y], [], rfl, inferInstance, fun x w' hk => c189 w' d e x y (h.keep hk)⟩
/-- What a vat loses, as the program says. -/
def lostV (v : BV) (dn en : Int) : Int := if en < dn then v.early * (dn - en) else v.late * (en - dn)
theorem c162 (v : BV) (dn en : Int) (hv : (0 ≤ v.early ∧ v.early ≤ 20) ∧ 0 ≤ v.late ∧ v.late ≤ 20) (hd : 0 ≤ dn ∧ dn ≤ 20) (he : 0 ≤ en ∧ en ≤ 20) (w : World) : Ex 162 [.agg (encV v).toArray, .int .i64 dn, .int .i64 en] w (.int .i64 (lostV v dn en)) := by
  refine Rt_of Tryz.func162 rfl Tryz.ntmps162 rfl ?_
  simp only [encV]
  by_cases h : en < dn
  · have m1 := mul_bd (a := v.early) (b := dn - en) (m := 20) (n := 20) hv.1.1 hv.1.2 (by omega) (by omega)
    repeat' (first | apply s_ | (apply JO_ob; exact rfl; first | exact ob1 | exact Ob_mul rfl rfl (by omega)) | ((first | apply b_ | apply a_ | apply i_); exact z_; intro _) | ((first | apply p_ | apply JO_yes | apply GC_t); exact z_) | (apply n_; exact z_) | (apply GC_f; exact z_) | (apply GX_block_on; exact z_) | (apply c_; exact z_; all_goals intro _))
    refine GX_ex rfl rfl mem_ ?_
    rw [lostV, if_pos h]
  · have m1 := mul_bd (a := v.late) (b := en - dn) (m := 20) (n := 20) hv.2.1 hv.2.2 (by omega) (by omega)
    repeat' (first | apply s_ | (apply JO_ob; exact rfl; first | exact ob1 | exact Ob_mul rfl rfl (by omega)) | ((first | apply b_ | apply a_ | apply i_); exact z_; intro _) | ((first | apply p_ | apply JO_yes | apply GC_t); exact z_) | (apply n_; exact z_) | (apply GC_f; exact z_) | (apply GX_block_on; exact z_) | (apply c_; exact z_; all_goals intro _))
    refine GX_ex rfl rfl mem_ ?_
    rw [lostV, if_neg h]
theorem c161 (w : World) (d e v : Value) (l : List Int) (y : Bt) (h : BtA All w d e y) (hl : Arr All w 1 encI v l) : Ex 161 [btV d e y, v] w (.bool (areEnd y l)) := by
  have i1 := h.vats.v1
  have i3 := h.smps.v1
  have i4 := hl.v1
  have ha := h.vats
  have b1 := ha.bound
  have b2 := hl.bound
  refine Rt_of Tryz.func161 rfl Tryz.ntmps161 rfl ?_
  by_cases hle : l.length = y.vats.length
  · repeat' (first | apply s_ | (apply JO_ob; exact rfl; first | exact ob1 | exact Ob_makeFuncR rfl rfl | exact Ob_call rfl (fun w5 hw5 => c188 v _ l (fun x => decide (0 ≤ x ∧ x ≤ y.last)) w5 (hw5.arr mem_ hl) (p189 w5 d e y (hw5.bt mem_ h)))) | ((first | apply b_ | apply a_ | apply i_); exact z_; intro _) | ((first | apply p_ | apply JO_yes | apply GC_t); exact z_) | (apply n_; exact z_) | (apply GC_f; exact z_) | (apply GX_block_on; exact z_) | (apply c_; exact z_; all_goals intro _))
    refine GX_ex rfl rfl mem_ ?_
    simp [areEnd, hle]
  · repeat' (first | apply s_ | (apply JO_ob; exact rfl; first | exact ob1) | ((first | apply b_ | apply a_ | apply i_); exact z_; intro _) | ((first | apply p_ | apply JO_yes | apply GC_t); exact z_) | (apply n_; exact z_) | (apply GC_f; exact z_) | (apply GX_block_on; exact z_) | (apply c_; exact z_; all_goals intro _))
    refine GX_ex rfl rfl mem_ ?_
    simp [areEnd, hle]
/-- When all vats are done. -/
def doneL (c : Crs) : List Int := c.needs.map (c.sun + ·)
theorem doneL_nth {c : Crs} {i : Nat} (h : i < c.needs.length) : nth (doneL c) i = c.sun + nth c.needs i := nth_map _ h
def inCb (y : Bt) (c : Crs) : Bool := decide (y.sun.1 ≤ c.sun ∧ c.sun ≤ y.sun.2) && (decide (c.needs.length = y.vats.length) && (List.range y.vats.length).all fun j => decide ((nth y.vats j).lo ≤ nth c.needs j ∧ nth c.needs j ≤ (nth y.vats j).hi))
theorem inCb_iff {y : Bt} {c : Crs} : inCb y c = true ↔ InC y c := by
  simp only [inCb, Bool.and_eq_true, decide_eq_true_eq, List.all_eq_true, List.mem_range]
  exact ⟨fun ⟨h1, h2, h3⟩ => ⟨h1, h2, h3⟩, fun h => ⟨h.sun, h.len, h.needs⟩⟩
theorem c159 (w : World) (d e v : Value) (c : Crs) (y : Bt) (h : BtA All w d e y) (hv : Arr All w 1 encI v c.needs) (hO : OkB y) :
    Rt 159 [btV d e y, crV v c] w fun r w' => Keep w w' ∧ ∃ xs, r = .tuple #[kA 3 xs, .bool (inCb y c)] ∧ (inCb y c = true → kA 3 xs = kA 3 (doneL c)) := by
  have i1 := h.vats.v1
  have i3 := h.smps.v1
  have i4 := hv.v1
  have ha := h.vats
  have b1 := ha.bound
  have b2 := hv.bound
  have v3 := hO.v3
  have hs := hO.sun
  refine Rt_of Tryz.func159 rfl Tryz.ntmps159 rfl ?_
  repeat' (first | apply s_ | (apply JO_ob; exact rfl; first | exact ob1 | exact Ob_call rfl (fun w hw => c187 _ _ _ w) | exact Ob_indexa rfl rfl (by omega) | exact Ob_load_a rfl mem_ (by omega) | exact Ob_sliceA rfl) | (apply pA_; exact zA_) | ((first | apply b_ | apply a_ | apply i_); exact z_; intro _) | ((first | apply p_ | apply JO_yes | apply GC_t); exact z_) | (apply n_; exact z_) | (apply GC_f; exact z_) | (apply GX_block_on; exact z_) | (apply c_; exact z_; all_goals intro _))
  cases hsun : decide (y.sun.1 ≤ c.sun ∧ c.sun ≤ y.sun.2)
  · have hq : inCb y c = false := by simp only [inCb, hsun, Bool.false_and]
    rw [hq]
    repeat' (first | apply s_ | (apply JO_ob; exact rfl; first | exact ob1 | exact Ob_indexa rfl rfl (by omega) | exact Ob_load_a rfl mem_ (by omega) | exact Ob_sliceA rfl) | (apply pA_; exact zA_) | ((first | apply b_ | apply a_ | apply i_); exact z_; intro _) | ((first | apply p_ | apply JO_yes | apply GC_t); exact z_) | (apply n_; exact z_) | (apply GC_f; exact z_) | (apply GX_block_on; exact z_) | (apply c_; exact z_; all_goals intro _))
    exact GX_retc2 (cs := encA 3 []) rfl rfl rfl (.head _) rfl fun w' hw' => ⟨hw'.kp mem_, [], rfl, fun h => by cases h⟩
  have hs2 := of_decide_eq_true hsun
  by_cases hle : c.needs.length = y.vats.length
  · repeat' (first | apply s_ | (apply JO_ob; exact rfl; first | exact ob1 | exact Ob_indexa rfl rfl (by omega) | exact Ob_load_a rfl mem_ (by omega) | exact Ob_sliceA rfl) | (apply pA_; exact zA_) | ((first | apply b_ | apply a_ | apply i_); exact z_; intro _) | ((first | apply p_ | apply JO_yes | apply GC_t); exact z_) | (apply n_; exact z_) | (apply GC_f; exact z_) | (apply GX_block_on; exact z_) | (apply c_; exact z_; all_goals intro _))
    rename_i p2 p3 p4
    refine GC_loop (α := Nat × List Int) (fun s => c.needs.length - s.1) (fun s => [(2, pt p2), (3, pt p3), (4, pt p4), (25, v), (26, .int .i64 (c.needs.length : Int)), (27, .int .i64 (s.1 : Int))]) (fun _ => [(fun _ => True, w)])
      (fun s => [(p4, .cells (encA 3 s.2).toArray 236), (p3, .cells #[.int .i64 c.sun, v] 201), (p2, .cells #[.int .i64 y.sun.1, .int .i64 y.sun.2, d, .int .i64 y.last, e] 50)])
      (fun s => s.1 ≤ c.needs.length ∧ s.2.length = 3 ∧ (∀ j, j < s.1 → nth s.2 j = c.sun + nth c.needs j ∧ (nth y.vats j).lo ≤ nth c.needs j ∧ nth c.needs j ≤ (nth y.vats j).hi) ∧ ∀ j, s.1 ≤ j → nth s.2 j = 0)
      (0, [0, 0, 0]) ⟨rfl, rfl, rfl, rfl, rfl, rfl, trivial⟩ ⟨Nat.zero_le _, rfl, fun j hj => absurd hj (Nat.not_lt_zero j), fun j _ => ?_⟩ (fun w hw => hw) ?_
    · match j with
      | 0 => rfl
      | 1 => rfl
      | 2 => rfl
      | j + 3 => simp [nth]
    rintro ⟨k, xs⟩ ⟨hk, hx3, hno, hz⟩
    simp only at hk hx3 hno hz ⊢
    by_cases hlt : k < c.needs.length
    · have q1 := (hO.v k (by omega)).1
      repeat' (first | apply s_ | (apply JO_ob; exact rfl; first | exact ob1 | exact Ob_call rfl (fun w hw => c187 _ _ _ w) | exact Ob_indexa rfl rfl (by omega) | exact Ob_load_a rfl mem_ (by omega) | exact Ob_sliceA rfl) | (apply pA_; exact zA_) | ((first | apply b_ | apply a_ | apply i_); exact z_; intro _) | ((first | apply p_ | apply JO_yes | apply GC_t); exact z_) | (apply n_; exact z_) | (apply GC_f; exact z_) | (apply GX_block_on; exact z_) | (apply c_; exact z_; all_goals intro _))
      cases hcc : decide ((nth y.vats k).lo ≤ nth c.needs k ∧ nth c.needs k ≤ (nth y.vats k).hi)
      · have hn := of_decide_eq_false hcc
        have hq : inCb y c = false := by
          rw [← Bool.not_eq_true]; intro hh
          exact hn ((inCb_iff.1 hh).needs k (by omega))
        rw [hq]
        repeat' (first | apply s_ | (apply JO_ob; exact rfl; first | exact ob1 | exact Ob_indexa rfl rfl (by omega) | exact Ob_load_a rfl mem_ (by omega) | exact Ob_sliceA rfl) | (apply pA_; exact zA_) | ((first | apply b_ | apply a_ | apply i_); exact z_; intro _) | ((first | apply p_ | apply JO_yes | apply GC_t); exact z_) | (apply n_; exact z_) | (apply GC_f; exact z_) | (apply GX_block_on; exact z_) | (apply c_; exact z_; all_goals intro _))
        exact GX_retc2 (cs := encA 3 xs) rfl rfl rfl (.head _) rfl fun w' hw' => ⟨hw'.kp mem_, xs, rfl, fun h => by cases h⟩
      · have hn := of_decide_eq_true hcc
        repeat' (first | apply s_ | (apply JO_ob; exact rfl; first | exact ob1 | exact Ob_indexa rfl rfl (by omega) | exact Ob_load_a rfl mem_ (by omega) | exact Ob_sliceA rfl) | (apply pA_; exact zA_) | ((first | apply b_ | apply a_ | apply i_); exact z_; intro _) | ((first | apply p_ | apply JO_yes | apply GC_t); exact z_) | (apply n_; exact z_) | (apply GC_f; exact z_) | (apply GX_block_on; exact z_) | (apply c_; exact z_; all_goals intro _))
        refine JO_store_a (j := 0) (xs := xs) rfl rfl rfl (by omega) (by omega) ?_
        repeat' (first | apply s_ | (apply JO_ob; exact rfl; first | exact ob1 | exact Ob_indexa rfl rfl (by omega) | exact Ob_load_a rfl mem_ (by omega) | exact Ob_sliceA rfl) | (apply pA_; exact zA_) | ((first | apply b_ | apply a_ | apply i_); exact z_; intro _) | ((first | apply p_ | apply JO_yes | apply GC_t); exact z_) | (apply n_; exact z_) | (apply GC_f; exact z_) | (apply GX_block_on; exact z_) | (apply c_; exact z_; all_goals intro _))
        refine GX_loop (k + 1, xs.set k (c.sun + nth c.needs k)) ⟨rfl, rfl, rfl, rfl, rfl, rfl, trivial⟩ (by simp only; omega) ⟨by simp only; omega, by simp only [List.length_set]; exact hx3, fun j hj => ?_, fun j hj => ?_⟩ fun w hw => hw
        · simp only at hj ⊢
          rw [nth_set (by omega)]
          by_cases e : j = k
          · subst e; rw [if_pos rfl]; exact ⟨rfl, hn⟩
          · rw [if_neg e]; exact hno j (by omega)
        · simp only at hj ⊢
          rw [nth_set (by omega), if_neg (by omega)]; exact hz j (by omega)
    · have hq : inCb y c = true := inCb_iff.2 ⟨hs2, hle, fun j hj => (hno j (by omega)).2⟩
      rw [hq]
      repeat' (first | apply s_ | (apply JO_ob; exact rfl; first | exact ob1 | exact Ob_indexa rfl rfl (by omega) | exact Ob_load_a rfl mem_ (by omega) | exact Ob_sliceA rfl) | (apply pA_; exact zA_) | ((first | apply b_ | apply a_ | apply i_); exact z_; intro _) | ((first | apply p_ | apply JO_yes | apply GC_t); exact z_) | (apply n_; exact z_) | (apply GC_f; exact z_) | (apply GX_block_on; exact z_) | (apply c_; exact z_; all_goals intro _))
      refine GX_retc2 (cs := encA 3 xs) rfl rfl rfl (.head _) rfl fun w' hw' => ⟨hw'.kp mem_, xs, rfl, fun _ => ?_⟩
      have e : encA 3 xs = encA 3 (doneL c) := encA_ext fun j hj => by
        by_cases hj2 : j < c.needs.length
        · rw [(hno j (by omega)).1, doneL_nth hj2]
        · rw [hz j (by omega)]; simp [nth, doneL, hj2]
      simp only [kA, e]
  · have hq : inCb y c = false := by simp [inCb, hle]
    rw [hq]
    repeat' (first | apply s_ | (apply JO_ob; exact rfl; first | exact ob1 | exact Ob_indexa rfl rfl (by omega) | exact Ob_load_a rfl mem_ (by omega) | exact Ob_sliceA rfl) | (apply pA_; exact zA_) | ((first | apply b_ | apply a_ | apply i_); exact z_; intro _) | ((first | apply p_ | apply JO_yes | apply GC_t); exact z_) | (apply n_; exact z_) | (apply GC_f; exact z_) | (apply GX_block_on; exact z_) | (apply c_; exact z_; all_goals intro _))
    exact GX_retc2 (cs := encA 3 []) rfl rfl rfl (.head _) rfl fun w' hw' => ⟨hw'.kp mem_, [], rfl, fun h => by cases h⟩
theorem Ob_neb {b0 : World} {R : Rgs} {H : Hp} {fr : Slots} {dst : Option Nat} {g : Option (Nat × Bool)} {ty : TypeId} {ps : String} {af : Array Edge} {yt : TypeId} {x y : Operand} {a b : Bool} (hx : ev fr x = some (.bool a)) (hy : ev fr y = some (.bool b)) :
    Ob b0 R H ⟨dst, .binOp .neq 4 x y yt, ty, ps, af, g⟩ fr (.bool (!(a == b))) := .pure fun w f hf => by
  simp only [execOp]
  rw [hf x _ hx, hf y _ hy]
  have e4 : eqGuard .neq 4 x y (.bool a) (.bool b) = pure () := rfl
  have e3 : binOp .neq 4 (.bool a) (.bool b) = (do pure (.bool !(← Op.equal 4 (.bool a) (.bool b)))) := rfl
  rw [e4, e3]
  simp only [Sem.run_bind, Sem.run_pure, Result.andThen, run_eq4]
theorem Ob_indexai {b0 : World} {R : Rgs} {H : Hp} {fr : Slots} {dst : Option Nat} {g : Option (Nat × Bool)} {ty : TypeId} {ps : String} {af : Array Edge} {t len e b : Nat} {x y : Operand} {k : IntKind} {i : Int} [h : TyArr t len e 1] (hx : ev fr x = some (.pointer (some ⟨b, 0, none⟩))) (hy : ev fr y = some (.int k i)) (h0 : 0 ≤ i) (hi : i < (len : Int)) :
    Ob b0 R H ⟨dst, .indexAddr t x y, ty, ps, af, g⟩ fr (.pointer (some ⟨b, oo (ix 1 i.toNat) 0, none⟩)) := by
  obtain ⟨n, rfl⟩ := Int.eq_ofNat_of_zero_le h0
  exact Ob_indexa hx hy (by omega)
theorem c160 (w : World) (d e : Value) (c : Crs) (y : Bt) (h : BtA All w d e y) (hO : OkB y) (hc : InC y c) : Ex 160 [btV d e y, kA 3 (doneL c), .slice none 0 0] w (.bool (okAllC y c)) := by
  have i1 := h.vats.v1
  have i3 := h.smps.v1
  have ha := h.smps
  have s5 := hO.s5
  have v3 := hO.v3
  have hl := hc.len
  refine Rt_of Tryz.func160 rfl Tryz.ntmps160 rfl ?_
  repeat' (first | apply s_ | ((first | apply JO_ob | apply GD_ex | apply GL_ex); exact rfl; first | exact ob1 | exact Ob_indexa rfl rfl (by omega) | exact Ob_load_a rfl mem_ (by omega) | exact Ob_sliceA rfl) | (apply pA_; exact zA_) | ((first | apply b_ | apply a_ | apply i_); exact z_; intro _) | ((first | apply p_ | apply JO_yes | apply GC_t); exact z_) | (apply n_; exact z_) | (apply GC_f; exact z_) | (apply GX_block_on; exact z_) | refine GC_drawA (id := 4) [0, 1, 2, 3, 4, 5, 6, 7, 8, 9, 10, 11, 12, 13, 14, 15] [] (by kernel_rfl) ?_ | ((first | apply GD_at | apply GL_at | apply GD_no | apply GL_no); exact rfl) | apply DFin_0 | (apply q1_; exact z_) | (apply q0_; exact z_) | (apply q2_; exact z_) | (apply c_; exact z_; all_goals intro _) | (apply g_; exact z_; all_goals intro _))
  rename_i p q
  refine GC_loop0 (fun k => y.smps.length - k) (fun k => [(2, .slice none 0 0), (3, pt p), (4, pt q), (10, e), (11, .int .i64 (y.smps.length : Int)), (12, .int .i64 (k : Int))]) (fun k => k ≤ y.smps.length ∧ ∀ j, j < k → okC y c j = true) 0 ⟨rfl, rfl, rfl, rfl, rfl, rfl, trivial⟩ ⟨by omega, fun j hj => absurd hj (Nat.not_lt_zero j)⟩ ?_
  rintro k ⟨hk, hno⟩
  by_cases hlt : k < y.smps.length
  · have e1 := hO.s k hlt
    have e2 : nth (doneL c) (nth y.smps k).vat.toNat = whenC c (nth y.smps k).vat := doneL_nth (by omega)
    repeat' (first | apply s_ | ((first | apply JO_ob | apply GD_ex | apply GL_ex); exact rfl; first | exact ob1 | exact Ob_call rfl (fun w hw => c184 _ _ _ w (arr_nil fun _ => rfl)) | exact Ob_indexai rfl rfl e1.1.1 (by omega) | exact Ob_cmp rfl rfl rfl | exact Ob_neb rfl rfl | exact Ob_indexa rfl rfl (by omega) | exact Ob_load_a rfl mem_ (by omega) | exact Ob_sliceA rfl) | (apply pA_; exact zA_) | ((first | apply b_ | apply a_ | apply i_); exact z_; intro _) | ((first | apply p_ | apply JO_yes | apply GC_t); exact z_) | (apply n_; exact z_) | (apply GC_f; exact z_) | (apply GX_block_on; exact z_) | refine GC_drawA (id := 4) [0, 1, 2, 3, 4, 5, 6, 7, 8, 9, 10, 11, 12, 13, 14, 15] [] (by kernel_rfl) ?_ | ((first | apply GD_at | apply GL_at | apply GD_no | apply GL_no); exact rfl) | apply DFin_0 | (apply q1_; exact z_) | (apply q0_; exact z_) | (apply q2_; exact z_))
    rw [e2]
    have hd : (decide (whenC c (nth y.smps k).vat ≤ (nth y.smps k).hour) == (nth y.smps k).done) = okC y c k := rfl
    rw [hd]
    cases hcc : okC y c k
    · repeat' (first | apply s_ | ((first | apply JO_ob | apply GD_ex | apply GL_ex); exact rfl; first | exact ob1 | exact Ob_indexa rfl rfl (by omega) | exact Ob_load_a rfl mem_ (by omega) | exact Ob_sliceA rfl) | (apply pA_; exact zA_) | ((first | apply b_ | apply a_ | apply i_); exact z_; intro _) | ((first | apply p_ | apply JO_yes | apply GC_t); exact z_) | (apply n_; exact z_) | (apply GC_f; exact z_) | (apply GX_block_on; exact z_) | refine GC_drawA (id := 4) [0, 1, 2, 3, 4, 5, 6, 7, 8, 9, 10, 11, 12, 13, 14, 15] [] (by kernel_rfl) ?_ | ((first | apply GD_at | apply GL_at | apply GD_no | apply GL_no); exact rfl) | apply DFin_0 | (apply q1_; exact z_) | (apply q0_; exact z_) | (apply q2_; exact z_) | (apply c_; exact z_; all_goals intro _) | (apply g_; exact z_; all_goals intro _))
      refine GX_ex rfl rfl mem_ ?_
      have : okAllC y c = false := by
        rw [← Bool.not_eq_true]; intro hh
        simp only [okAllC, List.all_eq_true, List.mem_range] at hh
        rw [hh k hlt] at hcc; cases hcc
      rw [this]
    · repeat' (first | apply s_ | ((first | apply JO_ob | apply GD_ex | apply GL_ex); exact rfl; first | exact ob1 | exact Ob_indexa rfl rfl (by omega) | exact Ob_load_a rfl mem_ (by omega) | exact Ob_sliceA rfl) | (apply pA_; exact zA_) | ((first | apply b_ | apply a_ | apply i_); exact z_; intro _) | ((first | apply p_ | apply JO_yes | apply GC_t); exact z_) | (apply n_; exact z_) | (apply GC_f; exact z_) | (apply GX_block_on; exact z_) | refine GC_drawA (id := 4) [0, 1, 2, 3, 4, 5, 6, 7, 8, 9, 10, 11, 12, 13, 14, 15] [] (by kernel_rfl) ?_ | ((first | apply GD_at | apply GL_at | apply GD_no | apply GL_no); exact rfl) | apply DFin_0 | (apply q1_; exact z_) | (apply q0_; exact z_) | (apply q2_; exact z_) | (apply c_; exact z_; all_goals intro _) | (apply g_; exact z_; all_goals intro _))
      refine GX_loop (k + 1) ⟨rfl, rfl, rfl, rfl, rfl, rfl, trivial⟩ (by omega) ⟨by omega, fun j hj => ?_⟩ (fun w hw => hw.weak (fun r h => h) (List.Sublist.cons _ (List.Sublist.refl _)))
      rcases Nat.lt_or_ge j k with h | h
      · exact hno j h
      · rw [show j = k by omega]; exact hcc
  · repeat' (first | apply s_ | ((first | apply JO_ob | apply GD_ex | apply GL_ex); exact rfl; first | exact ob1 | exact Ob_indexa rfl rfl (by omega) | exact Ob_load_a rfl mem_ (by omega) | exact Ob_sliceA rfl) | (apply pA_; exact zA_) | ((first | apply b_ | apply a_ | apply i_); exact z_; intro _) | ((first | apply p_ | apply JO_yes | apply GC_t); exact z_) | (apply n_; exact z_) | (apply GC_f; exact z_) | (apply GX_block_on; exact z_) | refine GC_drawA (id := 4) [0, 1, 2, 3, 4, 5, 6, 7, 8, 9, 10, 11, 12, 13, 14, 15] [] (by kernel_rfl) ?_ | ((first | apply GD_at | apply GL_at | apply GD_no | apply GL_no); exact rfl) | apply DFin_0 | (apply q1_; exact z_) | (apply q0_; exact z_) | (apply q2_; exact z_) | (apply c_; exact z_; all_goals intro _) | (apply g_; exact z_; all_goals intro _))
    refine GX_ex rfl rfl mem_ ?_
    have : okAllC y c = true := by
      simp only [okAllC, List.all_eq_true, List.mem_range]
      intro j hj; exact hno j (by omega)
    rw [this]
end Go.Proofs.YtkbaaikidhbfmaaGreat
/- Contracts: the program's beatings: their error, truths, what all vats lose. No statement is proved here. -/
set_option linter.unusedVariables false
set_option linter.unusedSimpArgs false
namespace Go.Proofs.YtkbaaikidhbfmaaGreat
open Go.RowKit
/-- How many courses there are, up to 201. -/
def capB (y : Bt) : Nat → Int
  | 0 => szR y.sun
  | k + 1 => min (capB y k * szV (nth y.vats k)) 201
theorem capB_bd {y : Bt} (hs : 0 ≤ y.sun.1 ∧ y.sun.1 ≤ y.sun.2 ∧ y.sun.2 ≤ 4) (h : OkN y.vats) : ∀ k, k ≤ y.vats.length → capB y k = min 201 (manyK y k) ∧ 1 ≤ manyK y k := by
  intro k
  induction k with
  | zero => intro _; simp only [capB, manyK, szR]; omega
  | succ k ih =>
    intro hk
    obtain ⟨h1, h2⟩ := ih (by omega)
    have h3 := szV_bd h (i := k) (by omega)
    have h4 : 1 * 1 ≤ manyK y k * szV (nth y.vats k) := Int.mul_le_mul h2 h3.1 (by omega) (by omega)
    refine ⟨?_, by simp only [manyK]; omega⟩
    simp only [capB, manyK, h1]
    rcases Int.le_total (manyK y k) 201 with h5 | h5
    · rw [Int.min_eq_right h5]; omega
    · rw [Int.min_eq_left h5]
      have h6 : 201 * 1 ≤ 201 * szV (nth y.vats k) := Int.mul_le_mul_of_nonneg_left h3.1 (by omega)
      have h7 : 201 * szV (nth y.vats k) ≤ manyK y k * szV (nth y.vats k) := Int.mul_le_mul_of_nonneg_right h5 (by omega)
      omega
theorem c141 (w : World) (d e : Value) (y : Bt) (h : BtA All w d e y) : Ex 141 [btV d e y] w (.int .i64 (fault3 y)) := by
  have i1 := h.vats.v1
  have i3 := h.smps.v1
  have ha := h.vats
  have hc := h.smps
  have b1 := ha.bound
  have b3 := hc.bound
  have big : ∀ (hx : 9 < y.last ∨ 3 < y.vats.length ∨ 5 < y.smps.length), fault3 y = 3 := fun hx => by
    have : bigB y = true := by simp [bigB]; omega
    simp [fault3, this]
  refine Rt_of Tryz.func141 rfl Tryz.ntmps141 rfl ?_
  repeat' (first | apply s_ | (apply JO_ob; exact rfl; first | exact ob1 | exact Ob_makeFuncR rfl rfl) | ((first | apply b_ | apply a_ | apply i_); exact z_; intro _) | ((first | apply p_ | apply JO_yes | apply GC_t); exact z_) | (apply n_; exact z_) | (apply GC_f; exact z_) | (apply GX_block_on; exact z_))
  by_cases x1 : 9 < y.last
  · repeat' (first | apply s_ | (apply JO_ob; exact rfl; first | exact ob1) | ((first | apply b_ | apply a_ | apply i_); exact z_; intro _) | ((first | apply p_ | apply JO_yes | apply GC_t); exact z_) | (apply n_; exact z_) | (apply GC_f; exact z_) | (apply GX_block_on; exact z_) | (apply c_; exact z_; all_goals intro _))
    refine GX_ex rfl rfl mem_ ?_
    rw [big (by omega)]
  by_cases x2 : 3 < y.vats.length
  · repeat' (first | apply s_ | (apply JO_ob; exact rfl; first | exact ob1) | ((first | apply b_ | apply a_ | apply i_); exact z_; intro _) | ((first | apply p_ | apply JO_yes | apply GC_t); exact z_) | (apply n_; exact z_) | (apply GC_f; exact z_) | (apply GX_block_on; exact z_) | (apply c_; exact z_; all_goals intro _))
    refine GX_ex rfl rfl mem_ ?_
    rw [big (by omega)]
  by_cases x3 : 5 < y.smps.length
  · repeat' (first | apply s_ | (apply JO_ob; exact rfl; first | exact ob1) | ((first | apply b_ | apply a_ | apply i_); exact z_; intro _) | ((first | apply p_ | apply JO_yes | apply GC_t); exact z_) | (apply n_; exact z_) | (apply GC_f; exact z_) | (apply GX_block_on; exact z_) | (apply c_; exact z_; all_goals intro _))
    refine GX_ex rfl rfl mem_ ?_
    rw [big (by omega)]
  have hbig : bigB y = false := by simp [bigB]; omega
  have bad : (isSun y = false ∨ y.vats.all isBV = false ∨ y.smps.all (isBS y.vats.length y.last) = false) → fault3 y = 1 := fun hx => by
    rcases hx with hx | hx | hx <;> simp [fault3, hbig, hx]
  by_cases x4 : y.last < 0
  · repeat' (first | apply s_ | (apply JO_ob; exact rfl; first | exact ob1) | ((first | apply b_ | apply a_ | apply i_); exact z_; intro _) | ((first | apply p_ | apply JO_yes | apply GC_t); exact z_) | (apply n_; exact z_) | (apply GC_f; exact z_) | (apply GX_block_on; exact z_) | (apply c_; exact z_; all_goals intro _))
    refine GX_ex rfl rfl mem_ ?_
    rw [bad (.inl (by simp only [isSun]; rw [decide_eq_false (by omega), Bool.false_and]))]
  repeat' (first | apply s_ | (apply JO_ob; exact rfl; first | exact ob1 | exact Ob_call rfl (fun w hw => c166 _ _ _ w)) | ((first | apply b_ | apply a_ | apply i_); exact z_; intro _) | ((first | apply p_ | apply JO_yes | apply GC_t); exact z_) | (apply n_; exact z_) | (apply GC_f; exact z_) | (apply GX_block_on; exact z_) | (apply c_; exact z_; all_goals intro _))
  cases hsun : decide (0 ≤ y.sun.1 ∧ y.sun.1 ≤ y.sun.2 ∧ y.sun.2 ≤ 4)
  · repeat' (first | apply s_ | (apply JO_ob; exact rfl; first | exact ob1) | ((first | apply b_ | apply a_ | apply i_); exact z_; intro _) | ((first | apply p_ | apply JO_yes | apply GC_t); exact z_) | (apply n_; exact z_) | (apply GC_f; exact z_) | (apply GX_block_on; exact z_) | (apply c_; exact z_; all_goals intro _))
    refine GX_ex rfl rfl mem_ ?_
    rw [bad (.inl (by simp only [isSun]; rw [hsun, Bool.and_false]))]
  have hSun : isSun y = true := by simp only [isSun]; rw [hsun, decide_eq_true (by omega)]; rfl
  have hs := of_decide_eq_true hsun
  repeat' (first | apply s_ | (apply JO_ob; exact rfl; first | exact ob1 | exact Ob_call rfl (fun w5 hw5 => c167 d _ y.vats isBV w5 (hw5.arr mem_ ha) (p168 w5))) | ((first | apply b_ | apply a_ | apply i_); exact z_; intro _) | ((first | apply p_ | apply JO_yes | apply GC_t); exact z_) | (apply n_; exact z_) | (apply GC_f; exact z_) | (apply GX_block_on; exact z_) | (apply c_; exact z_; all_goals intro _))
  cases hV : y.vats.all isBV
  · repeat' (first | apply s_ | (apply JO_ob; exact rfl; first | exact ob1) | ((first | apply b_ | apply a_ | apply i_); exact z_; intro _) | ((first | apply p_ | apply JO_yes | apply GC_t); exact z_) | (apply n_; exact z_) | (apply GC_f; exact z_) | (apply GX_block_on; exact z_) | (apply c_; exact z_; all_goals intro _))
    refine GX_ex rfl rfl mem_ ?_
    rw [bad (.inr (.inl hV))]
  repeat' (first | apply s_ | (apply JO_ob; exact rfl; first | exact ob1 | exact Ob_call rfl (fun w5 hw5 => c169 e _ y.smps _ w5 (hw5.arr mem_ hc) (p165 w5 d e y (hw5.bt mem_ h)))) | ((first | apply b_ | apply a_ | apply i_); exact z_; intro _) | ((first | apply p_ | apply JO_yes | apply GC_t); exact z_) | (apply n_; exact z_) | (apply GC_f; exact z_) | (apply GX_block_on; exact z_) | (apply c_; exact z_; all_goals intro _))
  cases hS : y.smps.all (isBS y.vats.length y.last)
  · repeat' (first | apply s_ | (apply JO_ob; exact rfl; first | exact ob1) | ((first | apply b_ | apply a_ | apply i_); exact z_; intro _) | ((first | apply p_ | apply JO_yes | apply GC_t); exact z_) | (apply n_; exact z_) | (apply GC_f; exact z_) | (apply GX_block_on; exact z_) | (apply c_; exact z_; all_goals intro _))
    refine GX_ex rfl rfl mem_ ?_
    rw [bad (.inr (.inr hS))]
  have hN := okN_of hV
  repeat' (first | apply s_ | (apply JO_ob; exact rfl; first | exact ob1 | exact Ob_call rfl (fun w5 hw5 => c170 _ _ (by omega) (by omega) (by omega) w5)) | ((first | apply b_ | apply a_ | apply i_); exact z_; intro _) | ((first | apply p_ | apply JO_yes | apply GC_t); exact z_) | (apply n_; exact z_) | (apply GC_f; exact z_) | (apply GX_block_on; exact z_) | (apply c_; exact z_; all_goals intro _))
  rename_i p
  refine GC_loop0 (fun k => y.vats.length - k) (fun k => [(1, pt p), (4, .int .i64 (capB y k)), (52, d), (53, .int .i64 (y.vats.length : Int)), (54, .int .i64 (k : Int))]) (fun k => k ≤ y.vats.length) 0 ⟨rfl, rfl, rfl, rfl, rfl, trivial⟩ (by omega) ?_
  intro k hk
  have q1 := capB_bd hs hN k hk
  by_cases hlt2 : k < y.vats.length
  · have q2 := szV_bd hN hlt2
    have q3 := hN k hlt2
    have q4 := mul_bd (a := capB y k) (b := szV (nth y.vats k)) (m := 201) (n := 10) (by omega) (by omega) (by omega) (by omega)
    have q5 : szV (nth y.vats k) = (nth y.vats k).hi - (nth y.vats k).lo + 1 := rfl
    repeat' (first | apply s_ | (apply JO_ob; exact rfl; first | exact ob1 | exact Ob_call rfl (fun w5 hw5 => c170 _ _ (by omega) (by omega) (by omega) w5) | exact Ob_mul rfl rfl (by rw [← q5]; omega)) | ((first | apply b_ | apply a_ | apply i_); exact z_; intro _) | ((first | apply p_ | apply JO_yes | apply GC_t); exact z_) | (apply n_; exact z_) | (apply GC_f; exact z_) | (apply GX_block_on; exact z_) | (apply c_; exact z_; all_goals intro _))
    rename_i p5 p6
    refine JO_ob rfl (Ob_call rfl (fun w5 hw5 => c171 _ [capB y k * szV (nth y.vats k), 201] w5 (hw5.litArr _ (fun _ => rfl) (.head _) rfl rfl rfl rfl) (by simp))) ?_
    repeat' (first | apply s_ | (apply JO_ob; exact rfl; first | exact ob1) | ((first | apply b_ | apply a_ | apply i_); exact z_; intro _) | ((first | apply p_ | apply JO_yes | apply GC_t); exact z_) | (apply n_; exact z_) | (apply GC_f; exact z_) | (apply GX_block_on; exact z_) | (apply c_; exact z_; all_goals intro _))
    refine GX_loop (k + 1) ⟨rfl, ?_, rfl, rfl, rfl, trivial⟩ (by omega) (by omega) (fun w hw => hw.weak (fun r h => h) (List.Sublist.cons _ (List.Sublist.cons _ (List.Sublist.refl _))))
    rw [capB, minL2]; rfl
  · have hke : k = y.vats.length := by omega
    subst hke
    have hfa : fault3 y = if 200 < many3 y then 3 else 0 := by simp [fault3, hbig, hSun, hV, hS]
    have hm3 : many3 y = manyK y y.vats.length := rfl
    by_cases hmany : 200 < many3 y
    · repeat' (first | apply s_ | (apply JO_ob; exact rfl; first | exact ob1) | ((first | apply b_ | apply a_ | apply i_); exact z_; intro _) | ((first | apply p_ | apply JO_yes | apply GC_t); exact z_) | (apply n_; exact z_) | (apply GC_f; exact z_) | (apply GX_block_on; exact z_) | (apply c_; exact z_; all_goals intro _))
      refine GX_ex rfl rfl mem_ ?_
      rw [hfa, if_pos hmany]
    · repeat' (first | apply s_ | (apply JO_ob; exact rfl; first | exact ob1) | ((first | apply b_ | apply a_ | apply i_); exact z_; intro _) | ((first | apply p_ | apply JO_yes | apply GC_t); exact z_) | (apply n_; exact z_) | (apply GC_f; exact z_) | (apply GX_block_on; exact z_) | (apply c_; exact z_; all_goals intro _))
      refine GX_ex rfl rfl mem_ ?_
      rw [hfa, if_neg hmany]
theorem c128 (w : World) (d e v : Value) (c : Crs) (y : Bt) (h : BtA All w d e y) (hv : Arr All w 1 encI v c.needs) :
    Ex 128 [btV d e y, crV v c] w (.bool (decide (fault3 y = 0) && (inCb y c && okAllC y c))) := by
  have i1 := h.vats.v1
  have i3 := h.smps.v1
  have i4 := hv.v1
  refine Rt_of Tryz.func128 rfl Tryz.ntmps128 rfl ?_
  repeat' (first | apply s_ | (apply JO_ob; exact rfl; first | exact ob1 | exact Ob_call rfl (fun w hw => c141 w d e y (hw.bt mem_ h))) | ((first | apply b_ | apply a_ | apply i_); exact z_; intro _) | ((first | apply p_ | apply JO_yes | apply GC_t); exact z_) | (apply n_; exact z_) | (apply GC_f; exact z_) | (apply GX_block_on; exact z_))
  by_cases hf : fault3 y = 0
  · obtain ⟨hO, hm⟩ := okB_of hf
    repeat' (first | apply s_ | (apply JO_ob; exact rfl; first | exact ob1 | exact Ob_indexa rfl rfl (by omega) | exact Ob_load_a rfl mem_ (by omega) | exact Ob_sliceA rfl) | (apply pA_; exact zA_) | ((first | apply b_ | apply a_ | apply i_); exact z_; intro _) | ((first | apply p_ | apply JO_yes | apply GC_t); exact z_) | (apply n_; exact z_) | (apply GC_f; exact z_) | (apply GX_block_on; exact z_) | (apply c_; exact z_; all_goals intro _))
    refine JO_call (S := fun w0 r w' => ∃ xs, r = .tuple #[kA 3 xs, .bool (inCb y c)] ∧ (inCb y c = true → kA 3 xs = kA 3 (doneL c))) rfl rfl (fun w5 hw5 => c159 w5 d e v c y (hw5.bt mem_ h) (hw5.arr mem_ hv) hO) ?_
    rintro r u0 u1 hu0 hu1 hk01 ⟨xs, rfl, hxs⟩
    cases hq : inCb y c
    · repeat' (first | apply s_ | (apply JO_ob; exact rfl; first | exact ob1 | exact Ob_indexa rfl rfl (by omega) | exact Ob_load_a rfl mem_ (by omega) | exact Ob_sliceA rfl) | (apply pA_; exact zA_) | ((first | apply b_ | apply a_ | apply i_); exact z_; intro _) | ((first | apply p_ | apply JO_yes | apply GC_t); exact z_) | (apply n_; exact z_) | (apply GC_f; exact z_) | (apply GX_block_on; exact z_) | (apply c_; exact z_; all_goals intro _))
      refine GX_ex rfl rfl mem_ ?_
      simp
    · rw [hxs hq]
      repeat' (first | apply s_ | (apply JO_ob; exact rfl; first | exact ob1 | exact Ob_call rfl (fun w hw => c160 w d e c y (hw.bt mem_ h) hO (inCb_iff.1 hq)) | exact Ob_indexa rfl rfl (by omega) | exact Ob_load_a rfl mem_ (by omega) | exact Ob_sliceA rfl) | (apply pA_; exact zA_) | ((first | apply b_ | apply a_ | apply i_); exact z_; intro _) | ((first | apply p_ | apply JO_yes | apply GC_t); exact z_) | (apply n_; exact z_) | (apply GC_f; exact z_) | (apply GX_block_on; exact z_) | (apply c_; exact z_; all_goals intro _))
      refine GX_ex rfl rfl mem_ ?_
      simp [hf]
  · repeat' (first | apply s_ | (apply JO_ob; exact rfl; first | exact ob1) | ((first | apply b_ | apply a_ | apply i_); exact z_; intro _) | ((first | apply p_ | apply JO_yes | apply GC_t); exact z_) | (apply n_; exact z_) | (apply GC_f; exact z_) | (apply GX_block_on; exact z_) | (apply c_; exact z_; all_goals intro _))
    refine GX_ex rfl rfl mem_ ?_
    simp [hf]
/-- What all vats lose. -/
def lossRow (y : Bt) (c : Crs) (l : List Int) : List Int := (List.range y.vats.length).map fun i => lostV (nth y.vats i) (nth (doneL c) i) (nth l i)
theorem c129 (w : World) (d e v u : Value) (c : Crs) (l : List Int) (y : Bt) (h : BtA All w d e y) (hv : Arr All w 1 encI v c.needs) (hu : Arr All w 1 encI u l) (hf : fault3 y = 0) (hc : InC y c) (hl : areEnd y l = true) :
    Rt 129 [btV d e y, crV v c, u] w fun r w' => Keep w w' ∧ ∃ u', r = .tuple #[u', .int .i64 0] ∧ Arr (New w) w' 1 encI u' (lossRow y c l) := by
  have i1 := h.vats.v1
  have i3 := h.smps.v1
  have i4 := hv.v1
  have i5 := hu.v1
  have ha := h.vats
  obtain ⟨hO, hm⟩ := okB_of hf
  have hq := inCb_iff.2 hc
  have v3 := hO.v3
  have hsn := hO.sun
  have hcs := hc.sun
  have hcl := hc.len
  have hl2 : (∀ i, i < l.length → 0 ≤ nth l i ∧ nth l i ≤ y.last) ∧ l.length = y.vats.length := by
    simp only [areEnd, Bool.and_eq_true, decide_eq_true_eq] at hl
    exact ⟨fun i hi => of_decide_eq_true (all_nth.1 hl.1 i hi), hl.2⟩
  have hla := hO.l
  refine Rt_of Tryz.func129 rfl Tryz.ntmps129 rfl ?_
  repeat' (first | apply s_ | ((first | apply JO_ob | apply GD_ex | apply GL_ex); exact rfl; first | exact ob1 | exact Ob_call rfl (fun w hw => c141 w d e y (hw.bt mem_ h))) | ((first | apply b_ | apply a_ | apply i_); exact z_; intro _) | ((first | apply p_ | apply JO_yes | apply GC_t); exact z_) | (apply n_; exact z_) | (apply GC_f; exact z_) | (apply GX_block_on; exact z_) | refine GC_drawB (id := 11) [1, 2, 3, 4, 5, 6, 7, 8, 9] [0] [10, 11, 12] _ (by kernel_rfl) (List.Sublist.refl _) ?_ | ((first | apply GD_at | apply GL_at | apply GD_no | apply GL_no); exact rfl) | apply DFin_0 | (apply q1_; exact z_) | (apply q0_; exact z_) | (apply q2_; exact z_))
  rw [hf]
  repeat' (first | apply s_ | ((first | apply JO_ob | apply GD_ex | apply GL_ex); exact rfl; first | exact ob1 | exact Ob_indexa rfl rfl (by omega) | exact Ob_load_a rfl mem_ (by omega) | exact Ob_sliceA rfl) | (apply pA_; exact zA_) | ((first | apply b_ | apply a_ | apply i_); exact z_; intro _) | ((first | apply p_ | apply JO_yes | apply GC_t); exact z_) | (apply n_; exact z_) | (apply GC_f; exact z_) | (apply GX_block_on; exact z_) | refine GC_drawB (id := 11) [1, 2, 3, 4, 5, 6, 7, 8, 9] [0] [10, 11, 12] _ (by kernel_rfl) (List.Sublist.refl _) ?_ | ((first | apply GD_at | apply GL_at | apply GD_no | apply GL_no); exact rfl) | apply DFin_0 | (apply q1_; exact z_) | (apply q0_; exact z_) | (apply q2_; exact z_) | (apply c_; exact z_; all_goals intro _) | (apply g_; exact z_; all_goals intro _))
  refine JO_call (S := fun w0 r w' => ∃ xs, r = .tuple #[kA 3 xs, .bool (inCb y c)] ∧ (inCb y c = true → kA 3 xs = kA 3 (doneL c))) rfl rfl (fun w5 hw5 => c159 w5 d e v c y (hw5.bt mem_ h) (hw5.arr mem_ hv) hO) ?_
  rintro r u0 u1 hu0 hu1 hk01 ⟨xs, rfl, hxs⟩
  rw [hxs hq, hq]
  repeat' (first | apply s_ | ((first | apply JO_ob | apply GD_ex | apply GL_ex); exact rfl; first | exact ob1 | exact Ob_call rfl (fun w hw => c161 w d e u l y (hw.bt mem_ h) (hw.arr mem_ hu)) | exact Ob_indexa rfl rfl (by omega) | exact Ob_load_a rfl mem_ (by omega) | exact Ob_sliceA rfl) | (apply pA_; exact zA_) | ((first | apply b_ | apply a_ | apply i_); exact z_; intro _) | ((first | apply p_ | apply JO_yes | apply GC_t); exact z_) | (apply n_; exact z_) | (apply GC_f; exact z_) | (apply GX_block_on; exact z_) | refine GC_drawB (id := 11) [1, 2, 3, 4, 5, 6, 7, 8, 9] [0] [10, 11, 12] _ (by kernel_rfl) (List.Sublist.refl _) ?_ | ((first | apply GD_at | apply GL_at | apply GD_no | apply GL_no); exact rfl) | apply DFin_0 | (apply q1_; exact z_) | (apply q0_; exact z_) | (apply q2_; exact z_))
  rw [hl]
  repeat' (first | apply s_ | ((first | apply JO_ob | apply GD_ex | apply GL_ex); exact rfl; first | exact ob1 | exact Ob_indexa rfl rfl (by omega) | exact Ob_load_a rfl mem_ (by omega) | exact Ob_sliceA rfl) | (apply pA_; exact zA_) | ((first | apply b_ | apply a_ | apply i_); exact z_; intro _) | ((first | apply p_ | apply JO_yes | apply GC_t); exact z_) | (apply n_; exact z_) | (apply GC_f; exact z_) | (apply GX_block_on; exact z_) | refine GC_drawB (id := 11) [1, 2, 3, 4, 5, 6, 7, 8, 9] [0] [10, 11, 12] _ (by kernel_rfl) (List.Sublist.refl _) ?_ | ((first | apply GD_at | apply GL_at | apply GD_no | apply GL_no); exact rfl) | apply DFin_0 | (apply q1_; exact z_) | (apply q0_; exact z_) | (apply q2_; exact z_) | (apply c_; exact z_; all_goals intro _) | (apply g_; exact z_; all_goals intro _))
  rename_i p3 p4 p9
  let L := lossRow y c l
  have lL : L.length = y.vats.length := by simp [L, lossRow]
  refine GC_loop (α := Nat × Value × List Value) (fun s => y.vats.length - s.1) (fun s => [(2, u), (3, pt p3), (4, pt p4), (9, pt p9), (11, s.2.1), (34, d), (35, .int .i64 (y.vats.length : Int)), (36, .int .i64 (s.1 : Int))]) (fun _ => [((fun _ => True), w)])
    (fun s => (p9, .cells (encA 3 (doneL c)).toArray 236) :: rowH s.2.1 3 ((L.take s.1).flatMap encI ++ s.2.2))
    (fun s => s.1 ≤ y.vats.length ∧ Own 1 encI s.2.1 (L.take s.1) s.2.2) (0, .slice none 0 0, []) ⟨rfl, rfl, rfl, rfl, rfl, rfl, rfl, rfl, trivial⟩ ⟨Nat.zero_le _, Own.nil fun _ => rfl⟩ (fun w hw => hw.weak (fun r h => .tail _ h) sub_) ?_
  rintro ⟨k, v1, s1⟩ ⟨hk, ho1⟩
  simp only at hk ho1 ⊢
  have j1 := ho1.v1
  by_cases hlt : k < y.vats.length
  · have e5 : nth L k = lostV (nth y.vats k) (nth (doneL c) k) (nth l k) := by simp [L, lossRow, nth, hlt]
    have e6 : nth (doneL c) k = c.sun + nth c.needs k := doneL_nth (by omega)
    have e7 := hO.v k hlt
    have e8 := hc.needs k hlt
    have e9 := hl2.1 k (by omega)
    have e10 := hl2.2
    repeat' (first | apply s_ | ((first | apply JO_ob | apply GD_ex | apply GL_ex); exact rfl; first | exact ob1 | exact Ob_call rfl (fun w5 hw5 => c162 (nth y.vats k) _ _ e7.2 (by omega) (by omega) w5) | exact Ob_indexa rfl rfl (by omega) | exact Ob_load_a rfl mem_ (by omega) | exact Ob_sliceA rfl) | (apply pA_; exact zA_) | ((first | apply b_ | apply a_ | apply i_); exact z_; intro _) | ((first | apply p_ | apply JO_yes | apply GC_t); exact z_) | (apply n_; exact z_) | (apply GC_f; exact z_) | (apply GX_block_on; exact z_) | refine GC_drawB (id := 11) [1, 2, 3, 4, 5, 6, 7, 8, 9] [0] [10, 11, 12] _ (by kernel_rfl) (List.Sublist.refl _) ?_ | ((first | apply GD_at | apply GL_at | apply GD_no | apply GL_no); exact rfl) | apply DFin_0 | (apply q1_; exact z_) | (apply q0_; exact z_) | (apply q2_; exact z_) | (apply c_; exact z_; all_goals intro _) | (apply g_; exact z_; all_goals intro _))
    rw [← e5]
    refine JO_append (xs := L.take k) (ys := [nth L k]) [_, _, _] rfl rfl rfl ho1 (List.Perm.refl _) (fun w hw => hw.slOwn mem_ rfl) rfl (by simp; omega) ?_
    intro v2 s2 ho2
    have j2 := ho2.v1
    rw [← take_snoc (by omega)] at ho2 ⊢
    repeat' (first | apply s_ | ((first | apply JO_ob | apply GD_ex | apply GL_ex); exact rfl; first | exact ob1 | exact Ob_indexa rfl rfl (by omega) | exact Ob_load_a rfl mem_ (by omega) | exact Ob_sliceA rfl) | (apply pA_; exact zA_) | ((first | apply b_ | apply a_ | apply i_); exact z_; intro _) | ((first | apply p_ | apply JO_yes | apply GC_t); exact z_) | (apply n_; exact z_) | (apply GC_f; exact z_) | (apply GX_block_on; exact z_) | refine GC_drawB (id := 11) [1, 2, 3, 4, 5, 6, 7, 8, 9] [0] [10, 11, 12] _ (by kernel_rfl) (List.Sublist.refl _) ?_ | ((first | apply GD_at | apply GL_at | apply GD_no | apply GL_no); exact rfl) | apply DFin_0 | (apply q1_; exact z_) | (apply q0_; exact z_) | (apply q2_; exact z_) | (apply c_; exact z_; all_goals intro _) | (apply g_; exact z_; all_goals intro _))
    exact GX_loop (k + 1, v2, s2) ⟨rfl, rfl, rfl, rfl, rfl, rfl, rfl, rfl, trivial⟩ (by simp only; omega) ⟨by simp only; omega, ho2⟩ fun w hw => hw.weak (fun r h => h) (List.Sublist.cons _ (List.Sublist.cons _ (List.Sublist.refl _)))
  · have hkl : k = L.length := by omega
    rw [hkl, List.take_length] at ho1 ⊢
    repeat' (first | apply s_ | ((first | apply JO_ob | apply GD_ex | apply GL_ex); exact rfl; first | exact ob1 | exact Ob_indexa rfl rfl (by omega) | exact Ob_load_a rfl mem_ (by omega) | exact Ob_sliceA rfl) | (apply pA_; exact zA_) | ((first | apply b_ | apply a_ | apply i_); exact z_; intro _) | ((first | apply p_ | apply JO_yes | apply GC_t); exact z_) | (apply n_; exact z_) | (apply GC_f; exact z_) | (apply GX_block_on; exact z_) | refine GC_drawB (id := 11) [1, 2, 3, 4, 5, 6, 7, 8, 9] [0] [10, 11, 12] _ (by kernel_rfl) (List.Sublist.refl _) ?_ | ((first | apply GD_at | apply GL_at | apply GD_no | apply GL_no); exact rfl) | apply DFin_0 | (apply q1_; exact z_) | (apply q0_; exact z_) | (apply q2_; exact z_) | (apply c_; exact z_; all_goals intro _) | (apply g_; exact z_; all_goals intro _))
    refine GX_ret2 rfl rfl rfl fun w' hw' => ⟨hw'.kp mem_, _, rfl, ho1.ret (A := [_]) (by decide) hw' mem_⟩
end Go.Proofs.YtkbaaikidhbfmaaGreat
/- Contracts: the program's beatings: one course after the other. No statement is proved here. -/
set_option linter.unusedVariables false
set_option linter.unusedSimpArgs false
namespace Go.Proofs.YtkbaaikidhbfmaaGreat
open Go.RowKit
theorem c172 (w : World) (d e : Value) (y : Bt) [V1 d] [V1 e] : Rt 172 [btV d e y] w fun v w' => Keep w w' ∧ ∃ p, v = .func (.func 196) #[] #[pt p] ∧ w.heap.size ≤ p ∧ w'.heap[p]? = some (.cells #[.int .i64 y.sun.1, .int .i64 y.sun.2, d, .int .i64 y.last, e] 50) := by
  refine Rt_of Tryz.func172 rfl Tryz.ntmps172 rfl ?_
  repeat' (first | apply s_ | (apply JO_ob; exact rfl; first | exact ob1) | ((first | apply b_ | apply a_ | apply i_); exact z_; intro _) | ((first | apply p_ | apply JO_yes | apply GC_t); exact z_) | (apply n_; exact z_) | (apply GC_f; exact z_) | (apply GX_block_on; exact z_) | (apply c_; exact z_; all_goals intro _))
  rename_i p
  exact GX_ret1 rfl rfl fun w' hw' => ⟨hw'.kp mem_, p, rfl, hw'.apt _ (.head _) _ (.head _) trivial, hw'.own _ (.head _)⟩
abbrev ch197 (py pl pb pc : Nat) : Value := .func (.func 197) #[] #[pt py, pt pl, pt pb, pt pc]
abbrev hp197 (Yv : Value) (py pl pb pc : Nat) (xs : List Int) : Hp := [(pc, .cells #[ch197 py pl pb pc] 267), (pb, .cells (encA 3 xs).toArray 236), (pl, .cells #[Yv] 266)]
theorem c197 {b0 : World} {Rb : Rgs} {G G2 : Nat → Prop} {w1 w2 : World} {py pl pb pc : Nat} {s1 s2 d la e Yv : Value} {y : Bt} {α : Type} {Rf : α → Rgs} {Hf : α → Hp} {I : List (List Int) → α → Prop} (hG : (G, w1) ∈ Rb) (hpy : G py) (hcell : w1.heap[py]? = some (.cells #[s1, s2, d, la, e] 50)) (hG2 : (G2, w2) ∈ Rb) (hf : Arr G2 w2 4 encV d y.vats) (hO : OkB y)
    (iY : V1 Yv) (hsub : ∀ a, ∀ r ∈ Rb, r ∈ Rf a)
    (hY : ∀ pre x a us Hi, I pre a → (∃ post, lex (btR y) = pre ++ x :: post) → us = [kA 3 (doneL (toC x))] → ∀ w, SH b0 (Rf a) (Hf a ++ Hi) w →
      Yc Yv us w fun v w' => v = .bool true ∧ ∃ a', I (pre ++ [x]) a' ∧ (∀ r ∈ Rf a, r ∈ Rf a') ∧ SH b0 (Rf a') (Hf a' ++ Hi) w') (sn : Int) (hsn : 0 ≤ sn ∧ sn ≤ 4) :
    ∀ (k i : Nat) (xs p : List Int) (pre : List (List Int)) (s : α), i + k = y.vats.length → p.length = i → xs.length = 3 → (∀ j, y.vats.length ≤ j → nth xs j = 0) → (∀ j, j < i → nth xs j = sn + nth p j) → I pre s → (∃ post, lex (btR y) = pre ++ lexP (sn :: p) ((y.vats.map rgV).drop i) ++ post) →
      ∀ w, SH b0 (Rf s) (hp197 Yv py pl pb pc xs ++ Hf s) w → Rt 197 ([.int .i64 sn, .int .i64 (i : Int)] ++ [pt py, pt pl, pt pb, pt pc]) w fun v w' => v = .bool true ∧ ∃ t : List Int × α,
        (t.1.length = 3 ∧ (∀ j, y.vats.length ≤ j → nth t.1 j = 0) ∧ (∀ j, j < i → nth t.1 j = nth xs j) ∧ I (pre ++ lexP (sn :: p) ((y.vats.map rgV).drop i)) t.2) ∧ (∀ r ∈ Rf s, r ∈ Rf t.2) ∧ SH b0 (Rf t.2) (hp197 Yv py pl pb pc t.1 ++ Hf t.2) w' := by
  have ia := hf.v1
  have v3 := hO.v3
  intro k
  induction k with
  | zero =>
    intro i xs p pre s hik hpl hx hz hxp hI hpost w hw
    refine Rt_ofS Tryz.func197 rfl Tryz.ntmps197 rfl hw ?_
    repeat' (first | apply s_ | (apply JO_ob; exact rfl; first | exact ob1 | exact Ob_load_blk rfl (hsub _ _ hG) hpy hcell rfl | exact Ob_indexa rfl rfl (by omega) | exact Ob_load_a rfl mem_ (by omega) | exact Ob_sliceA rfl) | (apply pA_; exact zA_) | ((first | apply b_ | apply a_ | apply i_); exact z_; intro _) | ((first | apply p_ | apply JO_yes | apply GC_t); exact z_) | (apply n_; exact z_) | (apply GC_f; exact z_) | (apply GX_block_on; exact z_) | (apply c_; exact z_; all_goals intro _))
    have hd : (y.vats.map rgV).drop i = [] := List.drop_eq_nil_of_le (by simp; omega)
    rw [hd] at hpost ⊢
    simp only [lexP] at hpost ⊢
    obtain ⟨post, hp⟩ := hpost
    have hk : kA 3 xs = kA 3 (doneL (toC (sn :: p))) := by
      have e : encA 3 xs = encA 3 (doneL (toC (sn :: p))) := encA_ext fun j hj => by
        by_cases hji : j < i
        · rw [hxp j hji, doneL_nth (by simp only [toC]; omega)]; rfl
        · rw [hz j (by omega)]; simp [nth, doneL, toC, show ¬ j < p.length by omega]
      simp only [kA, e]
    refine JO_yieldS (c := .bool true) (us := [kA 3 xs]) (S := fun s' => I (pre ++ [sn :: p]) s' ∧ ∀ r ∈ Rf s, r ∈ Rf s') (R' := Rf) (H' := fun s' => hp197 Yv py pl pb pc xs ++ Hf s') rfl rfl rfl (fun w5 hw5 => ?_) ?_
    · refine (hY pre (sn :: p) s _ (hp197 Yv py pl pb pc xs) hI ⟨post, by rw [hp]; simp⟩ (by rw [hk]) w5 (hw5.perm List.perm_append_comm)).mono ?_
      rintro v w6 ⟨rfl, s', h1, h2, h3⟩
      exact ⟨rfl, s', ⟨h1, h2⟩, h2, h3.perm List.perm_append_comm⟩
    · rintro s' ⟨hs', hr'⟩
      repeat' (first | apply s_ | (apply JO_ob; exact rfl; first | exact ob1 | exact Ob_indexa rfl rfl (by omega) | exact Ob_load_a rfl mem_ (by omega) | exact Ob_sliceA rfl) | (apply pA_; exact zA_) | ((first | apply b_ | apply a_ | apply i_); exact z_; intro _) | ((first | apply p_ | apply JO_yes | apply GC_t); exact z_) | (apply n_; exact z_) | (apply GC_f; exact z_) | (apply GX_block_on; exact z_) | (apply c_; exact z_; all_goals intro _))
      exact GX_ret1 rfl rfl fun w' hw' => ⟨rfl, (xs, s'), ⟨hx, hz, fun _ _ => rfl, hs'⟩, hr', hw'⟩
  | succ k ih =>
    intro i xs p pre s hik hpl hx hz hxp hI hpost w hw
    have hi : i < y.vats.length := by omega
    have b1 := (hO.v i hi).1
    have hrg : nth (y.vats.map rgV) i = ((nth y.vats i).lo, (nth y.vats i).hi) := nth_map _ hi
    refine Rt_ofS Tryz.func197 rfl Tryz.ntmps197 rfl hw ?_
    repeat' (first | apply s_ | (apply JO_ob; exact rfl; first | exact ob1 | exact Ob_load_blk rfl (hsub _ _ hG) hpy hcell rfl | exact Ob_loadn rfl hf (hsub _ _ hG2) rfl (by omega) (by decide) rfl | exact Ob_indexa rfl rfl (by omega) | exact Ob_load_a rfl mem_ (by omega) | exact Ob_sliceA rfl) | (apply pA_; exact zA_) | ((first | apply b_ | apply a_ | apply i_); exact z_; intro _) | ((first | apply p_ | apply JO_yes | apply GC_t); exact z_) | (apply n_; exact z_) | (apply GC_f; exact z_) | (apply GX_block_on; exact z_) | (apply c_; exact z_; all_goals intro _))
    rw [drop_nth (by simpa using hi), hrg] at hpost ⊢
    simp only [lexP] at hpost ⊢
    let fl : Int → List (List Int) := fun m => lexP (sn :: p ++ [m]) ((y.vats.map rgV).drop (i + 1))
    obtain ⟨post, hp⟩ := hpost
    refine GC_loop (α := Int × List Int × α) (fun t => ((nth y.vats i).hi + 1 - t.1).toNat) (fun t => [(0, .int .i64 sn), (1, .int .i64 (i : Int)), (2, pt py), (3, pt pl), (4, pt pb), (5, pt pc), (9, .int .i64 t.1)]) (fun t => Rf t.2.2) (fun t => hp197 Yv py pl pb pc t.2.1 ++ Hf t.2.2)
      (fun t => ((nth y.vats i).lo ≤ t.1 ∧ t.1 ≤ (nth y.vats i).hi + 1) ∧ t.2.1.length = 3 ∧ (∀ j, y.vats.length ≤ j → nth t.2.1 j = 0) ∧ (∀ j, j < i → nth t.2.1 j = nth xs j) ∧ I (pre ++ (rangeL (nth y.vats i).lo (t.1 - 1)).flatMap fl) t.2.2 ∧ ∀ r ∈ Rf s, r ∈ Rf t.2.2)
      ((nth y.vats i).lo, xs, s) ⟨rfl, rfl, rfl, rfl, rfl, rfl, rfl, trivial⟩ ⟨by simp only; omega, hx, hz, fun _ _ => rfl, by rw [rangeL_none (by omega)]; simpa using hI, fun r h => h⟩ (fun w hw => hw) ?_
    rintro ⟨n, ys, sA⟩ ⟨hn, hy3, hyz, hyt, hI1, hr1⟩
    simp only at hn hy3 hyz hyt hI1 hr1 ⊢
    by_cases hlt : n ≤ (nth y.vats i).hi
    · repeat' (first | apply s_ | (apply JO_ob; exact rfl; first | exact ob1 | exact Ob_load_blk rfl (hsub _ _ hG) hpy hcell rfl | exact Ob_loadn rfl hf (hsub _ _ hG2) rfl (by omega) (by decide) rfl | exact Ob_indexa rfl rfl (by omega) | exact Ob_load_a rfl mem_ (by omega) | exact Ob_sliceA rfl) | (apply pA_; exact zA_) | ((first | apply b_ | apply a_ | apply i_); exact z_; intro _) | ((first | apply p_ | apply JO_yes | apply GC_t); exact z_) | (apply n_; exact z_) | (apply GC_f; exact z_) | (apply GX_block_on; exact z_) | (apply c_; exact z_; all_goals intro _))
      refine JO_store_a (j := 1) (xs := ys) rfl rfl rfl (by omega) (by omega) ?_
      repeat' (first | apply s_ | (apply JO_ob; exact rfl; first | exact ob1 | exact Ob_indexa rfl rfl (by omega) | exact Ob_load_a rfl mem_ (by omega) | exact Ob_sliceA rfl) | (apply pA_; exact zA_) | ((first | apply b_ | apply a_ | apply i_); exact z_; intro _) | ((first | apply p_ | apply JO_yes | apply GC_t); exact z_) | (apply n_; exact z_) | (apply GC_f; exact z_) | (apply GX_block_on; exact z_) | (apply c_; exact z_; all_goals intro _))
      have es : rangeL (nth y.vats i).lo n = rangeL (nth y.vats i).lo (n - 1) ++ [n] := rangeL_snoc (by omega)
      refine JO_callvS (f := 197) (c := .bool true) (vs := [.int .i64 sn, .int .i64 ((i : Int) + 1)]) (cap := [pt py, pt pl, pt pb, pt pc]) (S := fun t : List Int × α => (t.1.length = 3 ∧ (∀ j, y.vats.length ≤ j → nth t.1 j = 0) ∧ (∀ j, j < i → nth t.1 j = nth xs j) ∧ I (pre ++ (rangeL (nth y.vats i).lo n).flatMap fl) t.2) ∧ ∀ r ∈ Rf sA, r ∈ Rf t.2)
        (R' := fun t => Rf t.2) (H' := fun t => hp197 Yv py pl pb pc t.1 ++ Hf t.2) rfl rfl rfl (fun w5 hw5 => ?_) ?_
      · refine (ih (i + 1) (ys.set i (sn + n)) (p ++ [n]) (pre ++ (rangeL (nth y.vats i).lo (n - 1)).flatMap fl) sA (by omega) (by simp [hpl]) (by rw [List.length_set]; exact hy3) (fun j hj => by rw [nth_set (by omega), if_neg (by omega)]; exact hyz j hj) (fun j hj => ?_) hI1 ?_ w5 hw5).mono ?_
        · rw [nth_set (by omega)]
          by_cases e : j = i
          · subst e; rw [if_pos rfl, nth_app_last hpl.symm]
          · rw [if_neg e, hyt j (by omega), hxp j (by omega), nth_app_l (by omega)]
        · obtain ⟨l, hl⟩ := rangeL_app (a := (nth y.vats i).lo) (b := n) (c := (nth y.vats i).hi) (by omega) hlt
          refine ⟨l.flatMap fl ++ post, ?_⟩
          rw [hp, hl, es]
          simp [fl]
        · rintro v w6 ⟨rfl, t, ⟨h1, h2, h3, h4⟩, h5, h6⟩
          refine ⟨rfl, t, ⟨⟨h1, h2, fun j hj => ?_, ?_⟩, h5⟩, h5, h6⟩
          · rw [h3 j (by omega), nth_set (by omega), if_neg (by omega)]; exact hyt j hj
          · rw [es, List.flatMap_append]
            simpa [fl] using h4
      · rintro ⟨zs, sB⟩ ⟨⟨h1, h2, h3, h4⟩, h5⟩
        simp only at h1 h2 h3 h4 h5 ⊢
        repeat' (first | apply s_ | (apply JO_ob; exact rfl; first | exact ob1 | exact Ob_indexa rfl rfl (by omega) | exact Ob_load_a rfl mem_ (by omega) | exact Ob_sliceA rfl) | (apply pA_; exact zA_) | ((first | apply b_ | apply a_ | apply i_); exact z_; intro _) | ((first | apply p_ | apply JO_yes | apply GC_t); exact z_) | (apply n_; exact z_) | (apply GC_f; exact z_) | (apply GX_block_on; exact z_) | (apply c_; exact z_; all_goals intro _))
        exact GX_loop (n + 1, zs, sB) ⟨rfl, rfl, rfl, rfl, rfl, rfl, rfl, trivial⟩ (by simp only; omega) ⟨by simp only; omega, h1, h2, h3, by rw [show n + 1 - 1 = n by omega]; exact h4, fun r hr => h5 r (hr1 r hr)⟩ fun w hw => hw
    · have hne : n = (nth y.vats i).hi + 1 := by omega
      subst hne
      repeat' (first | apply s_ | (apply JO_ob; exact rfl; first | exact ob1 | exact Ob_load_blk rfl (hsub _ _ hG) hpy hcell rfl | exact Ob_loadn rfl hf (hsub _ _ hG2) rfl (by omega) (by decide) rfl | exact Ob_indexa rfl rfl (by omega) | exact Ob_load_a rfl mem_ (by omega) | exact Ob_sliceA rfl) | (apply pA_; exact zA_) | ((first | apply b_ | apply a_ | apply i_); exact z_; intro _) | ((first | apply p_ | apply JO_yes | apply GC_t); exact z_) | (apply n_; exact z_) | (apply GC_f; exact z_) | (apply GX_block_on; exact z_) | (apply c_; exact z_; all_goals intro _))
      rw [show (nth y.vats i).hi + 1 - 1 = (nth y.vats i).hi by omega] at hI1
      exact GX_ret1 rfl rfl fun w' hw' => ⟨rfl, (ys, sA), ⟨hy3, hyz, hyt, hI1⟩, hr1, hw'⟩
theorem it196 {b0 : World} {Rb : Rgs} {G G2 : Nat → Prop} {w1 w2 : World} {py : Nat} {d la e : Value} {y : Bt} (hG : (G, w1) ∈ Rb) (hpy : G py) (hcell : w1.heap[py]? = some (.cells #[.int .i64 y.sun.1, .int .i64 y.sun.2, d, la, e] 50)) (hG2 : (G2, w2) ∈ Rb) (hf : Arr G2 w2 4 encV d y.vats) (hO : OkB y) :
    Iter 196 [pt py] (fun (x : List Int) us (_ : Hp) => us = [kA 3 (doneL (toC x))]) (lex (btR y)) b0 Rb := by
  intro Yv α Rf Hf I a0 iY hsub hY hI w hw
  have hs := hO.sun
  refine Rt_ofS Tryz.func196 rfl Tryz.ntmps196 rfl hw ?_
  repeat' (first | apply s_ | (apply JO_ob; exact rfl; first | exact ob1 | exact Ob_load_blk rfl (hsub _ _ hG) hpy hcell rfl | exact Ob_indexa rfl rfl (by omega) | exact Ob_load_a rfl mem_ (by omega) | exact Ob_sliceA rfl) | (apply pA_; exact zA_) | ((first | apply b_ | apply a_ | apply i_); exact z_; intro _) | ((first | apply p_ | apply JO_yes | apply GC_t); exact z_) | (apply n_; exact z_) | (apply GC_f; exact z_) | (apply GX_block_on; exact z_) | (apply c_; exact z_; all_goals intro _))
  rename_i pl pb pc
  let fl : Int → List (List Int) := fun m => lexP [m] (y.vats.map rgV)
  have hall : lex (btR y) = (rangeL y.sun.1 y.sun.2).flatMap fl := by rw [← lexP_nil, btR]; rfl
  refine GC_loop (α := Int × List Int × α) (fun t => (y.sun.2 + 1 - t.1).toNat) (fun t => [(1, pt py), (2, pt pl), (3, pt pb), (4, pt pc), (5, .int .i64 t.1)]) (fun t => Rf t.2.2) (fun t => hp197 Yv py pl pb pc t.2.1 ++ Hf t.2.2)
    (fun t => (y.sun.1 ≤ t.1 ∧ t.1 ≤ y.sun.2 + 1) ∧ t.2.1.length = 3 ∧ (∀ j, y.vats.length ≤ j → nth t.2.1 j = 0) ∧ I ((rangeL y.sun.1 (t.1 - 1)).flatMap fl) t.2.2)
    (y.sun.1, [0, 0, 0], a0) ⟨rfl, rfl, rfl, rfl, rfl, trivial⟩ ⟨by simp only; omega, rfl, fun j hj => ?_, by rw [rangeL_none (by omega)]; exact hI⟩ (fun w hw => hw) ?_
  · match j with
    | 0 => rfl
    | 1 => rfl
    | 2 => rfl
    | j + 3 => simp [nth]
  rintro ⟨n, ys, sA⟩ ⟨hn, hy3, hyz, hI1⟩
  simp only at hn hy3 hyz hI1 ⊢
  by_cases hlt : n ≤ y.sun.2
  · repeat' (first | apply s_ | (apply JO_ob; exact rfl; first | exact ob1 | exact Ob_load_blk rfl (hsub _ _ hG) hpy hcell rfl | exact Ob_indexa rfl rfl (by omega) | exact Ob_load_a rfl mem_ (by omega) | exact Ob_sliceA rfl) | (apply pA_; exact zA_) | ((first | apply b_ | apply a_ | apply i_); exact z_; intro _) | ((first | apply p_ | apply JO_yes | apply GC_t); exact z_) | (apply n_; exact z_) | (apply GC_f; exact z_) | (apply GX_block_on; exact z_) | (apply c_; exact z_; all_goals intro _))
    have es : rangeL y.sun.1 n = rangeL y.sun.1 (n - 1) ++ [n] := rangeL_snoc (by omega)
    refine JO_callvS (f := 197) (c := .bool true) (vs := [.int .i64 n, .int .i64 ((0 : Nat) : Int)]) (cap := [pt py, pt pl, pt pb, pt pc]) (S := fun t : List Int × α => (t.1.length = 3 ∧ (∀ j, y.vats.length ≤ j → nth t.1 j = 0) ∧ I ((rangeL y.sun.1 n).flatMap fl) t.2) ∧ ∀ r ∈ Rf sA, r ∈ Rf t.2)
      (R' := fun t => Rf t.2) (H' := fun t => hp197 Yv py pl pb pc t.1 ++ Hf t.2) rfl rfl rfl (fun w5 hw5 => ?_) ?_
    · refine (c197 hG hpy hcell hG2 hf hO iY hsub (fun pre x a us Hi h1 h2 h3 w hw => hY pre x a us Hi h1 h2 h3 w hw) n (by omega) y.vats.length 0 ys [] ((rangeL y.sun.1 (n - 1)).flatMap fl) sA (by omega) rfl hy3 hyz (fun j hj => absurd hj (Nat.not_lt_zero j)) hI1 ?_ w5 hw5).mono ?_
      · obtain ⟨l, hl⟩ := rangeL_app (a := y.sun.1) (b := n) (c := y.sun.2) (by omega) hlt
        refine ⟨l.flatMap fl, ?_⟩
        rw [hall, hl, es]
        simp [fl]
      · rintro v w6 ⟨rfl, t, ⟨h1, h2, _, h4⟩, h5, h6⟩
        refine ⟨rfl, t, ⟨⟨h1, h2, ?_⟩, h5⟩, h5, h6⟩
        rw [es, List.flatMap_append]
        simpa [fl] using h4
    · rintro ⟨zs, sB⟩ ⟨⟨h1, h2, h4⟩, h5⟩
      simp only at h1 h2 h4 h5 ⊢
      repeat' (first | apply s_ | (apply JO_ob; exact rfl; first | exact ob1 | exact Ob_indexa rfl rfl (by omega) | exact Ob_load_a rfl mem_ (by omega) | exact Ob_sliceA rfl) | (apply pA_; exact zA_) | ((first | apply b_ | apply a_ | apply i_); exact z_; intro _) | ((first | apply p_ | apply JO_yes | apply GC_t); exact z_) | (apply n_; exact z_) | (apply GC_f; exact z_) | (apply GX_block_on; exact z_) | (apply c_; exact z_; all_goals intro _))
      exact GX_loop (n + 1, zs, sB) ⟨rfl, rfl, rfl, rfl, rfl, trivial⟩ (by simp only; omega) ⟨by simp only; omega, h1, h2, by rw [show n + 1 - 1 = n by omega]; exact h4⟩ fun w hw => hw
  · have hne : n = y.sun.2 + 1 := by omega
    subst hne
    repeat' (first | apply s_ | (apply JO_ob; exact rfl; first | exact ob1 | exact Ob_load_blk rfl (hsub _ _ hG) hpy hcell rfl | exact Ob_indexa rfl rfl (by omega) | exact Ob_load_a rfl mem_ (by omega) | exact Ob_sliceA rfl) | (apply pA_; exact zA_) | ((first | apply b_ | apply a_ | apply i_); exact z_; intro _) | ((first | apply p_ | apply JO_yes | apply GC_t); exact z_) | (apply n_; exact z_) | (apply GC_f; exact z_) | (apply GX_block_on; exact z_) | (apply c_; exact z_; all_goals intro _))
    rw [show y.sun.2 + 1 - 1 = y.sun.2 by omega, ← hall] at hI1
    exact GX_norm (GX_ret (rs := []) (vs := []) rfl fun w' hw' => ⟨trivial, sA, hI1, hw'.weak (fun r h => h) (List.sublist_append_right _ _)⟩)
end Go.Proofs.YtkbaaikidhbfmaaGreat
/- Contracts: the program's beatings: a beating at work. No statement is proved here. -/
set_option linter.unusedVariables false
set_option linter.unusedSimpArgs false
namespace Go.Proofs.YtkbaaikidhbfmaaGreat
open Go.RowKit
def padL (n : Nat) (x : List Int) : List Int := (List.range n).map (nth x)
theorem padL_len (n : Nat) (x : List Int) : (padL n x).length = n := by simp [padL]
theorem padL_nth {n i : Nat} {x : List Int} (h : i < n) : nth (padL n x) i = nth x i := by simp [padL, nth, h]
theorem encA_pad (n : Nat) (x : List Int) : encA n (padL n x) = encA n x := encA_ext fun i hi => padL_nth hi
/-- When all vats are done, as the program keeps it. -/
def D3 (l : List Int) : List Int := padL 3 (doneL (toC l))
theorem kA_D3 (l : List Int) : kA 3 (doneL (toC l)) = kA 3 (D3 l) := by simp only [kA, D3, encA_pad]
theorem InC_of {y : Bt} {l : List Int} (h : InL (btR y) l) : InC y (toC l) := by
  cases l with
  | nil => simp [btR, InL] at h
  | cons s l =>
    obtain ⟨h1, h2⟩ := h
    obtain ⟨h3, h4⟩ := InL_iff.1 h2
    refine ⟨h1, by simpa [toC] using h3, fun j hj => ?_⟩
    have := h4 j (by simpa using hj)
    rw [nth_map _ hj] at this
    exact this
theorem lexB_len (y : Bt) (hO : OkB y) (hm : many3 y ≤ 200) : (lex (btR y)).length ≤ 2000 := by
  refine lex_len _ hO.rgs ?_
  have h1 := many1_min hO.rgs
  rw [many3_prod] at hm
  omega
/-- The truths of a beating as the program keeps them: which ones there are. -/
structure DoneT (y : Bt) (pre : List (List Int)) (ts : List (List Int)) : Prop where
  len : ∀ t ∈ ts, t.length = 3
  of : ∀ t ∈ ts, ∃ l ∈ pre, okAllC y (toC l) = true ∧ t = D3 l
  to : ∀ l ∈ pre, okAllC y (toC l) = true → D3 l ∈ ts
theorem c142 (w : World) (d e : Value) (y : Bt) (h : BtA All w d e y) (hO : OkB y) (hm : many3 y ≤ 200) :
    Rt 142 [btV d e y] w fun v w' => Keep w w' ∧ ∃ pw tv ts, v = pt pw ∧ w.heap.size ≤ pw ∧ w'.heap[pw]? = some (.cells #[.int .i64 y.sun.1, .int .i64 y.sun.2, d, .int .i64 y.last, e, tv] 219) ∧ Arr (New w) w' 3 (encA 3) tv ts ∧ DoneT y (lex (btR y)) ts := by
  have i1 := h.vats.v1
  have i2 := h.smps.v1
  refine Rt_ofM Tryz.func142 rfl Tryz.ntmps142 rfl ?_
  repeat' (first | apply s_ | ((first | apply JO_ob | apply GD_ex | apply GL_ex); exact rfl; first | exact ob1 | exact Ob_indexa rfl rfl (by omega) | exact Ob_load_a rfl mem_ (by omega) | exact Ob_sliceA rfl) | (apply pA_; exact zA_) | ((first | apply b_ | apply a_ | apply i_); exact z_; intro _) | ((first | apply p_ | apply JO_yes | apply GC_t); exact z_) | (apply n_; exact z_) | (apply GC_f; exact z_) | (apply GX_block_on; exact z_) | refine GC_drawB (id := 7) [5] [0, 1, 2, 3, 4] [6, 7, 8, 9, 10] _ (by kernel_rfl) (List.Sublist.refl _) ?_ | ((first | apply GD_at | apply GL_at | apply GD_no | apply GL_no); exact rfl) | apply DFin_0 | (apply q1_; exact z_) | (apply q0_; exact z_) | (apply q2_; exact z_) | (apply c_; exact z_; all_goals intro _) | (apply g_; exact z_; all_goals intro _))
  rename_i p pw p3 p4
  refine JO_call (S := fun w0 v w' => ∃ py, v = .func (.func 196) #[] #[pt py] ∧ w0.heap.size ≤ py ∧ w'.heap[py]? = some (.cells #[.int .i64 y.sun.1, .int .i64 y.sun.2, d, .int .i64 y.last, e] 50)) rfl rfl (fun w5 hw5 => c172 w5 d e y) ?_
  rintro v u0 u1 hu0 hu1 hk01 ⟨py, rfl, hpy, hpyc⟩
  repeat' (first | apply s_ | ((first | apply JO_ob | apply GD_ex | apply GL_ex); exact rfl; first | exact ob1 | exact Ob_indexa rfl rfl (by omega) | exact Ob_load_a rfl mem_ (by omega) | exact Ob_sliceA rfl) | (apply pA_; exact zA_) | ((first | apply b_ | apply a_ | apply i_); exact z_; intro _) | ((first | apply p_ | apply JO_yes | apply GC_t); exact z_) | (apply n_; exact z_) | (apply GC_f; exact z_) | (apply GX_block_on; exact z_) | refine GC_drawB (id := 7) [5] [0, 1, 2, 3, 4] [6, 7, 8, 9, 10] _ (by kernel_rfl) (List.Sublist.refl _) ?_ | ((first | apply GD_at | apply GL_at | apply GD_no | apply GL_no); exact rfl) | apply DFin_0 | (apply q1_; exact z_) | (apply q0_; exact z_) | (apply q2_; exact z_) | (apply c_; exact z_; all_goals intro _) | (apply g_; exact z_; all_goals intro _))
  have hit := it196 (b0 := w) (Rb := [(fun b => u0.heap.size ≤ b, u1), (fun _ => True, w)]) (G := fun b => u0.heap.size ≤ b) (w1 := u1) (G2 := fun _ => True) (w2 := w) (py := py) (.head _) hpy hpyc (.tail _ (.head _)) h.vats hO
  refine GC_range (α := List (List Int) × Value × List Value × List Int) (cap := [pt py]) (prs := [11]) rfl hit (fun _ => [(fun b => u0.heap.size ≤ b, u1), (fun _ => True, w)])
    (fun s => (p4, .cells (encA 3 s.2.2.2).toArray 236) :: (p3, .cells #[pt pw] 153) :: (pw, .cells #[.int .i64 y.sun.1, .int .i64 y.sun.2, d, .int .i64 y.last, e, s.2.1] 219) :: (p, .cells #[.int .i64 y.sun.1, .int .i64 y.sun.2, d, .int .i64 y.last, e] 50) :: rowH s.2.1 236 (s.1.flatMap (encA 3) ++ s.2.2.1))
    (fun pre s => DoneT y pre s.1 ∧ s.1.length ≤ pre.length ∧ Own 3 (encA 3) s.2.1 s.1 s.2.2.1 ∧ s.2.2.2.length = 3 ∧ (0 < s.1.length → s.2.2.2 ∈ s.1)) ([], .slice none 0 0, [], [0, 0, 0]) rfl (fun _ r h => h)
    ⟨⟨(fun _ h => by cases h), (fun _ h => by cases h), fun _ h => by cases h⟩, Nat.le_refl _, Own.nil (encA_len 3), rfl, fun h => absurd h (Nat.lt_irrefl 0)⟩ (fun w hw => hw) (fun x us Hi hx => by rw [hx]; rfl) ?_ ?_
  · rintro l dd rc pre x ⟨ts, tv, sp, lv⟩ us Hi hrs hrp ⟨hts, htl, ho, hlv, hlm⟩ hpost hus
    simp only at hts htl ho hlv hlm ⊢
    rw [kA_D3] at hus
    subst hus
    have j1 := ho.v1
    have hxl : x ∈ lex (btR y) := by obtain ⟨post, hp⟩ := hpost; rw [hp]; simp
    have hxc := InC_of (mem_lex.1 hxl)
    have hd3 : (D3 x).length = 3 := padL_len _ _
    have hln : ts.length ≤ 2000 ∧ pre.length < 2000 := by
      obtain ⟨post, hp⟩ := hpost
      have h1 := lexB_len y hO hm
      rw [hp] at h1; simp at h1
      omega
    refine GC_re (H' := (l, .loop rc) :: dOpen dd :: (p4, .cells (encA 3 lv).toArray 236) :: (p3, .cells #[pt pw] 153) :: (pw, .cells #[.int .i64 y.sun.1, .int .i64 y.sun.2, d, .int .i64 y.last, e, tv] 219) :: (p, .cells #[.int .i64 y.sun.1, .int .i64 y.sun.2, d, .int .i64 y.last, e] 50) :: (Hi ++ rowH tv 236 (ts.flatMap (encA 3) ++ sp)))
      (fun w hw => hw.perm ((((((List.perm_append_comm).cons _).cons _).cons _).cons _).cons _ |>.cons _)) ?_
    simp only [putPs]
    repeat' (first | apply s_ | ((first | apply JO_ob | apply GD_ex | apply GL_ex); exact rfl; first | exact ob1 | exact Ob_indexa rfl rfl (by omega) | exact Ob_load_a rfl mem_ (by omega) | exact Ob_sliceA rfl) | (apply pA_; exact zA_) | ((first | apply b_ | apply a_ | apply i_); exact z_; intro _) | ((first | apply p_ | apply JO_yes | apply GC_t); exact z_) | (apply n_; exact z_) | (apply GC_f; exact z_) | (apply GX_block_on; exact z_) | refine GC_drawB (id := 7) [5] [0, 1, 2, 3, 4] [6, 7, 8, 9, 10] _ (by kernel_rfl) (List.Sublist.refl _) ?_ | ((first | apply GD_at | apply GL_at | apply GD_no | apply GL_no); exact rfl) | apply DFin_0 | (apply q1_; exact z_) | (apply q0_; exact z_) | (apply q2_; exact z_) | (apply c_; exact z_; all_goals intro _) | (apply g_; exact z_; all_goals intro _))
    rename_i b8
    refine GX_begin hrs (fun w hw => hw.perm (List.Perm.swap _ _ _)) ?_
    have key : ∀ (hx : ts.length ≠ 0 ∧ D3 x = lv ∨ okAllC y (toC x) = false), DoneT y (pre ++ [x]) ts := fun hx => by
      refine ⟨hts.len, fun t ht => ?_, fun l hl hok => ?_⟩
      · obtain ⟨l, h1, h2⟩ := hts.of t ht
        exact ⟨l, List.mem_append_left _ h1, h2⟩
      · rcases List.mem_append.1 hl with hl | hl
        · exact hts.to l hl hok
        · simp at hl; subst hl
          rcases hx with ⟨h1, h2⟩ | h2
          · rw [h2]; exact hlm (by omega)
          · rw [h2] at hok; cases hok
    have key2 : ∀ (hok : okAllC y (toC x) = true), DoneT y (pre ++ [x]) (ts ++ [D3 x]) := fun hok => by
      refine ⟨fun t ht => ?_, fun t ht => ?_, fun l hl hk => ?_⟩
      · rcases List.mem_append.1 ht with ht | ht
        · exact hts.len t ht
        · simp at ht; rw [ht]; exact hd3
      · rcases List.mem_append.1 ht with ht | ht
        · obtain ⟨l, h1, h2⟩ := hts.of t ht
          exact ⟨l, List.mem_append_left _ h1, h2⟩
        · simp at ht; exact ⟨x, by simp, hok, ht⟩
      · rcases List.mem_append.1 hl with hl | hl
        · exact List.mem_append_left _ (hts.to l hl hk)
        · simp at hl; subst hl; simp
    have c160' : ∀ w5, SH w [(fun b => u0.heap.size ≤ b, u1), (fun _ => True, w)] [] w5 → Ex 160 [btV d e y, kA 3 (D3 x), .slice none 0 0] w5 (.bool (okAllC y (toC x))) := fun w5 hw5 => by
      rw [← kA_D3]; exact c160 w5 d e (toC x) y (hw5.bt (.tail _ (.head _)) h) hO hxc
    by_cases h0 : ts.length = 0
    · repeat' (first | apply s_ | ((first | apply JO_ob | apply GD_ex | apply GL_ex); exact rfl; first | exact ob1 | exact Ob_len_own rfl ho.c | exact Ob_call rfl (fun w5 hw5 => c160' w5 (hw5.weak (fun r h => h) (List.nil_sublist _))) | exact Ob_indexa rfl rfl (by omega) | exact Ob_load_a rfl mem_ (by omega) | exact Ob_sliceA rfl) | (apply pA_; exact zA_) | ((first | apply b_ | apply a_ | apply i_); exact z_; intro _) | ((first | apply p_ | apply JO_yes | apply GC_t); exact z_) | (apply n_; exact z_) | (apply GC_f; exact z_) | (apply GX_block_on; exact z_) | refine GC_drawB (id := 7) [5] [0, 1, 2, 3, 4] [6, 7, 8, 9, 10] _ (by kernel_rfl) (List.Sublist.refl _) ?_ | ((first | apply GD_at | apply GL_at | apply GD_no | apply GL_no); exact rfl) | apply DFin_0 | (apply q1_; exact z_) | (apply q0_; exact z_) | (apply q2_; exact z_) | (apply c_; exact z_; all_goals intro _) | (apply g_; exact z_; all_goals intro _))
      cases hok : okAllC y (toC x)
      · repeat' (first | apply s_ | ((first | apply JO_ob | apply GD_ex | apply GL_ex); exact rfl; first | exact ob1 | exact Ob_indexa rfl rfl (by omega) | exact Ob_load_a rfl mem_ (by omega) | exact Ob_sliceA rfl) | (apply pA_; exact zA_) | ((first | apply b_ | apply a_ | apply i_); exact z_; intro _) | ((first | apply p_ | apply JO_yes | apply GC_t); exact z_) | (apply n_; exact z_) | (apply GC_f; exact z_) | (apply GX_block_on; exact z_) | refine GC_drawB (id := 7) [5] [0, 1, 2, 3, 4] [6, 7, 8, 9, 10] _ (by kernel_rfl) (List.Sublist.refl _) ?_ | ((first | apply GD_at | apply GL_at | apply GD_no | apply GL_no); exact rfl) | apply DFin_0 | (apply q1_; exact z_) | (apply q0_; exact z_) | (apply q2_; exact z_) | (apply c_; exact z_; all_goals intro _) | (apply g_; exact z_; all_goals intro _))
        refine GX_round (H' := dOpen dd :: (p4, .cells (encA 3 lv).toArray 236) :: (p3, .cells #[pt pw] 153) :: (pw, .cells #[.int .i64 y.sun.1, .int .i64 y.sun.2, d, .int .i64 y.last, e, tv] 219) :: (p, .cells #[.int .i64 y.sun.1, .int .i64 y.sun.2, d, .int .i64 y.last, e] 50) :: (Hi ++ rowH tv 236 (ts.flatMap (encA 3) ++ sp))) hrs hrp (fun w hw => hw.weak (fun r h => h) ((List.Sublist.cons _ (List.Sublist.refl _)).cons_cons _)) fun w hw => ?_
        refine ⟨(ts, tv, sp, lv), ⟨key (.inr hok), by simp only [List.length_append]; omega, ho, hlv, hlm⟩, fun _ h => h, hw.perm ((((((List.perm_append_comm).cons _).cons _).cons _).cons _).cons _ |>.cons _)⟩
      · repeat' (first | apply s_ | (apply JO_ob; exact rfl; first | exact ob1 | exact Ob_len_own rfl ho.c | exact Ob_indexa rfl rfl (by omega) | exact Ob_load_a rfl mem_ (by omega) | exact Ob_sliceA rfl) | (apply pA_; exact zA_) | ((first | apply b_ | apply a_ | apply i_); exact z_; intro _) | ((first | apply p_ | apply JO_yes | apply GC_t); exact z_) | (apply n_; exact z_) | (apply GC_f; exact z_) | (apply GX_block_on; exact z_) | (apply c_; exact z_; all_goals intro _))
        refine GC_drawB (id := 7) [5] [0, 1, 2, 3, 4] [6, 7, 8, 9, 10] [(p3, .cells #[pt pw] 153), (pw, .cells #[.int .i64 y.sun.1, .int .i64 y.sun.2, d, .int .i64 y.last, e, tv] 219)] (by kernel_rfl) sub_ ?_
        repeat' (first | apply s_ | ((first | apply JO_ob | apply GD_ex | apply GL_ex); exact rfl; first | exact ob1 | exact Ob_indexa rfl rfl (by omega) | exact Ob_load_a rfl mem_ (by omega) | exact Ob_sliceA rfl) | (apply pA_; exact zA_) | ((first | apply b_ | apply a_ | apply i_); exact z_; intro _) | ((first | apply p_ | apply JO_yes | apply GC_t); exact z_) | (apply n_; exact z_) | (apply GC_f; exact z_) | (apply GX_block_on; exact z_) | refine GC_drawB (id := 7) [5] [0, 1, 2, 3, 4] [6, 7, 8, 9, 10] _ (by kernel_rfl) (List.Sublist.refl _) ?_ | ((first | apply GD_at | apply GL_at | apply GD_no | apply GL_no); exact rfl) | apply DFin_0 | (apply q1_; exact z_) | (apply q0_; exact z_) | (apply q2_; exact z_) | (apply c_; exact z_; all_goals intro _) | (apply g_; exact z_; all_goals intro _))
        refine JO_append (xs := ts) (ys := [D3 x]) (_ :: _ :: _ :: _ :: _ :: _ :: _ :: _ :: Hi) rfl rfl rfl ho (List.Perm.refl _) (fun w hw => hw.slOwn mem_ rfl) (by simp [encA_one]) (by simp; omega) ?_
        intro v2 s2 ho2
        have j2 := ho2.v1
        repeat' (first | apply s_ | ((first | apply JO_ob | apply GD_ex | apply GL_ex); exact rfl; first | exact ob1 | exact Ob_indexa rfl rfl (by omega) | exact Ob_load_a rfl mem_ (by omega) | exact Ob_sliceA rfl) | (apply pA_; exact zA_) | ((first | apply b_ | apply a_ | apply i_); exact z_; intro _) | ((first | apply p_ | apply JO_yes | apply GC_t); exact z_) | (apply n_; exact z_) | (apply GC_f; exact z_) | (apply GX_block_on; exact z_) | refine GC_drawB (id := 7) [5] [0, 1, 2, 3, 4] [6, 7, 8, 9, 10] _ (by kernel_rfl) (List.Sublist.refl _) ?_ | ((first | apply GD_at | apply GL_at | apply GD_no | apply GL_no); exact rfl) | apply DFin_0 | (apply q1_; exact z_) | (apply q0_; exact z_) | (apply q2_; exact z_) | (apply c_; exact z_; all_goals intro _) | (apply g_; exact z_; all_goals intro _))
        refine GX_round (H' := dOpen dd :: (p4, .cells (encA 3 (D3 x)).toArray 236) :: (p3, .cells #[pt pw] 153) :: (pw, .cells #[.int .i64 y.sun.1, .int .i64 y.sun.2, d, .int .i64 y.last, e, v2] 219) :: (p, .cells #[.int .i64 y.sun.1, .int .i64 y.sun.2, d, .int .i64 y.last, e] 50) :: (Hi ++ rowH v2 236 ((ts ++ [D3 x]).flatMap (encA 3) ++ s2))) hrs hrp (fun w hw => hw.weak (fun r h => h) (List.Sublist.cons _ ((List.Sublist.cons _ (List.Sublist.refl _)).cons_cons _))) fun w hw => ?_
        refine ⟨(ts ++ [D3 x], v2, s2, D3 x), ⟨key2 hok, by simp only [List.length_append, List.length_cons, List.length_nil]; omega, ho2, hd3, fun _ => by simp⟩, fun _ h => h, hw.perm ((((((List.perm_append_comm).cons _).cons _).cons _).cons _).cons _ |>.cons _)⟩
    · repeat' (first | apply s_ | ((first | apply JO_ob | apply GD_ex | apply GL_ex); exact rfl; first | exact ob1 | exact Ob_len_own rfl ho.c | exact Ob_eqA rfl rfl hd3 hlv | exact Ob_indexa rfl rfl (by omega) | exact Ob_load_a rfl mem_ (by omega) | exact Ob_sliceA rfl) | (apply pA_; exact zA_) | ((first | apply b_ | apply a_ | apply i_); exact z_; intro _) | ((first | apply p_ | apply JO_yes | apply GC_t); exact z_) | (apply n_; exact z_) | (apply GC_f; exact z_) | (apply GX_block_on; exact z_) | refine GC_drawB (id := 7) [5] [0, 1, 2, 3, 4] [6, 7, 8, 9, 10] _ (by kernel_rfl) (List.Sublist.refl _) ?_ | ((first | apply GD_at | apply GL_at | apply GD_no | apply GL_no); exact rfl) | apply DFin_0 | (apply q1_; exact z_) | (apply q0_; exact z_) | (apply q2_; exact z_) | (apply c_; exact z_; all_goals intro _) | (apply g_; exact z_; all_goals intro _))
      cases heq : decide (D3 x = lv)
      · repeat' (first | apply s_ | ((first | apply JO_ob | apply GD_ex | apply GL_ex); exact rfl; first | exact ob1 | exact Ob_len_own rfl ho.c | exact Ob_call rfl (fun w5 hw5 => c160' w5 (hw5.weak (fun r h => h) (List.nil_sublist _))) | exact Ob_indexa rfl rfl (by omega) | exact Ob_load_a rfl mem_ (by omega) | exact Ob_sliceA rfl) | (apply pA_; exact zA_) | ((first | apply b_ | apply a_ | apply i_); exact z_; intro _) | ((first | apply p_ | apply JO_yes | apply GC_t); exact z_) | (apply n_; exact z_) | (apply GC_f; exact z_) | (apply GX_block_on; exact z_) | refine GC_drawB (id := 7) [5] [0, 1, 2, 3, 4] [6, 7, 8, 9, 10] _ (by kernel_rfl) (List.Sublist.refl _) ?_ | ((first | apply GD_at | apply GL_at | apply GD_no | apply GL_no); exact rfl) | apply DFin_0 | (apply q1_; exact z_) | (apply q0_; exact z_) | (apply q2_; exact z_) | (apply c_; exact z_; all_goals intro _) | (apply g_; exact z_; all_goals intro _))
        cases hok : okAllC y (toC x)
        · repeat' (first | apply s_ | ((first | apply JO_ob | apply GD_ex | apply GL_ex); exact rfl; first | exact ob1 | exact Ob_indexa rfl rfl (by omega) | exact Ob_load_a rfl mem_ (by omega) | exact Ob_sliceA rfl) | (apply pA_; exact zA_) | ((first | apply b_ | apply a_ | apply i_); exact z_; intro _) | ((first | apply p_ | apply JO_yes | apply GC_t); exact z_) | (apply n_; exact z_) | (apply GC_f; exact z_) | (apply GX_block_on; exact z_) | refine GC_drawB (id := 7) [5] [0, 1, 2, 3, 4] [6, 7, 8, 9, 10] _ (by kernel_rfl) (List.Sublist.refl _) ?_ | ((first | apply GD_at | apply GL_at | apply GD_no | apply GL_no); exact rfl) | apply DFin_0 | (apply q1_; exact z_) | (apply q0_; exact z_) | (apply q2_; exact z_) | (apply c_; exact z_; all_goals intro _) | (apply g_; exact z_; all_goals intro _))
          refine GX_round (H' := dOpen dd :: (p4, .cells (encA 3 lv).toArray 236) :: (p3, .cells #[pt pw] 153) :: (pw, .cells #[.int .i64 y.sun.1, .int .i64 y.sun.2, d, .int .i64 y.last, e, tv] 219) :: (p, .cells #[.int .i64 y.sun.1, .int .i64 y.sun.2, d, .int .i64 y.last, e] 50) :: (Hi ++ rowH tv 236 (ts.flatMap (encA 3) ++ sp))) hrs hrp (fun w hw => hw.weak (fun r h => h) ((List.Sublist.cons _ (List.Sublist.refl _)).cons_cons _)) fun w hw => ?_
          refine ⟨(ts, tv, sp, lv), ⟨key (.inr hok), by simp only [List.length_append]; omega, ho, hlv, hlm⟩, fun _ h => h, hw.perm ((((((List.perm_append_comm).cons _).cons _).cons _).cons _).cons _ |>.cons _)⟩
        · repeat' (first | apply s_ | (apply JO_ob; exact rfl; first | exact ob1 | exact Ob_indexa rfl rfl (by omega) | exact Ob_load_a rfl mem_ (by omega) | exact Ob_sliceA rfl) | (apply pA_; exact zA_) | ((first | apply b_ | apply a_ | apply i_); exact z_; intro _) | ((first | apply p_ | apply JO_yes | apply GC_t); exact z_) | (apply n_; exact z_) | (apply GC_f; exact z_) | (apply GX_block_on; exact z_) | (apply c_; exact z_; all_goals intro _))
          refine GC_drawB (id := 7) [5] [0, 1, 2, 3, 4] [6, 7, 8, 9, 10] [(p3, .cells #[pt pw] 153), (pw, .cells #[.int .i64 y.sun.1, .int .i64 y.sun.2, d, .int .i64 y.last, e, tv] 219)] (by kernel_rfl) sub_ ?_
          repeat' (first | apply s_ | ((first | apply JO_ob | apply GD_ex | apply GL_ex); exact rfl; first | exact ob1 | exact Ob_indexa rfl rfl (by omega) | exact Ob_load_a rfl mem_ (by omega) | exact Ob_sliceA rfl) | (apply pA_; exact zA_) | ((first | apply b_ | apply a_ | apply i_); exact z_; intro _) | ((first | apply p_ | apply JO_yes | apply GC_t); exact z_) | (apply n_; exact z_) | (apply GC_f; exact z_) | (apply GX_block_on; exact z_) | refine GC_drawB (id := 7) [5] [0, 1, 2, 3, 4] [6, 7, 8, 9, 10] _ (by kernel_rfl) (List.Sublist.refl _) ?_ | ((first | apply GD_at | apply GL_at | apply GD_no | apply GL_no); exact rfl) | apply DFin_0 | (apply q1_; exact z_) | (apply q0_; exact z_) | (apply q2_; exact z_) | (apply c_; exact z_; all_goals intro _) | (apply g_; exact z_; all_goals intro _))
          refine JO_append (xs := ts) (ys := [D3 x]) (_ :: _ :: _ :: _ :: _ :: _ :: _ :: _ :: Hi) rfl rfl rfl ho (List.Perm.refl _) (fun w hw => hw.slOwn mem_ rfl) (by simp [encA_one]) (by simp; omega) ?_
          intro v2 s2 ho2
          have j2 := ho2.v1
          repeat' (first | apply s_ | ((first | apply JO_ob | apply GD_ex | apply GL_ex); exact rfl; first | exact ob1 | exact Ob_indexa rfl rfl (by omega) | exact Ob_load_a rfl mem_ (by omega) | exact Ob_sliceA rfl) | (apply pA_; exact zA_) | ((first | apply b_ | apply a_ | apply i_); exact z_; intro _) | ((first | apply p_ | apply JO_yes | apply GC_t); exact z_) | (apply n_; exact z_) | (apply GC_f; exact z_) | (apply GX_block_on; exact z_) | refine GC_drawB (id := 7) [5] [0, 1, 2, 3, 4] [6, 7, 8, 9, 10] _ (by kernel_rfl) (List.Sublist.refl _) ?_ | ((first | apply GD_at | apply GL_at | apply GD_no | apply GL_no); exact rfl) | apply DFin_0 | (apply q1_; exact z_) | (apply q0_; exact z_) | (apply q2_; exact z_) | (apply c_; exact z_; all_goals intro _) | (apply g_; exact z_; all_goals intro _))
          refine GX_round (H' := dOpen dd :: (p4, .cells (encA 3 (D3 x)).toArray 236) :: (p3, .cells #[pt pw] 153) :: (pw, .cells #[.int .i64 y.sun.1, .int .i64 y.sun.2, d, .int .i64 y.last, e, v2] 219) :: (p, .cells #[.int .i64 y.sun.1, .int .i64 y.sun.2, d, .int .i64 y.last, e] 50) :: (Hi ++ rowH v2 236 ((ts ++ [D3 x]).flatMap (encA 3) ++ s2))) hrs hrp (fun w hw => hw.weak (fun r h => h) (List.Sublist.cons _ ((List.Sublist.cons _ (List.Sublist.refl _)).cons_cons _))) fun w hw => ?_
          refine ⟨(ts ++ [D3 x], v2, s2, D3 x), ⟨key2 hok, by simp only [List.length_append, List.length_cons, List.length_nil]; omega, ho2, hd3, fun _ => by simp⟩, fun _ h => h, hw.perm ((((((List.perm_append_comm).cons _).cons _).cons _).cons _).cons _ |>.cons _)⟩
      · repeat' (first | apply s_ | ((first | apply JO_ob | apply GD_ex | apply GL_ex); exact rfl; first | exact ob1 | exact Ob_indexa rfl rfl (by omega) | exact Ob_load_a rfl mem_ (by omega) | exact Ob_sliceA rfl) | (apply pA_; exact zA_) | ((first | apply b_ | apply a_ | apply i_); exact z_; intro _) | ((first | apply p_ | apply JO_yes | apply GC_t); exact z_) | (apply n_; exact z_) | (apply GC_f; exact z_) | (apply GX_block_on; exact z_) | refine GC_drawB (id := 7) [5] [0, 1, 2, 3, 4] [6, 7, 8, 9, 10] _ (by kernel_rfl) (List.Sublist.refl _) ?_ | ((first | apply GD_at | apply GL_at | apply GD_no | apply GL_no); exact rfl) | apply DFin_0 | (apply q1_; exact z_) | (apply q0_; exact z_) | (apply q2_; exact z_) | (apply c_; exact z_; all_goals intro _) | (apply g_; exact z_; all_goals intro _))
        refine GX_round (H' := dOpen dd :: (p4, .cells (encA 3 lv).toArray 236) :: (p3, .cells #[pt pw] 153) :: (pw, .cells #[.int .i64 y.sun.1, .int .i64 y.sun.2, d, .int .i64 y.last, e, tv] 219) :: (p, .cells #[.int .i64 y.sun.1, .int .i64 y.sun.2, d, .int .i64 y.last, e] 50) :: (Hi ++ rowH tv 236 (ts.flatMap (encA 3) ++ sp))) hrs hrp (fun w hw => hw.weak (fun r h => h) ((List.Sublist.cons _ (List.Sublist.refl _)).cons_cons _)) fun w hw => ?_
        refine ⟨(ts, tv, sp, lv), ⟨key (.inl ⟨h0, of_decide_eq_true heq⟩), by simp only [List.length_append]; omega, ho, hlv, hlm⟩, fun _ h => h, hw.perm ((((((List.perm_append_comm).cons _).cons _).cons _).cons _).cons _ |>.cons _)⟩
  · rintro dd ⟨ts, tv, sp, lv⟩ ⟨hts, htl, ho, hlv, hlm⟩
    simp only at hts ho ⊢
    refine GX_freeze (A := [dOpen dd, _, _, _, _]) ho (by decide) ?_
    intro G w1 hF hG
    have j1 := hF.v1
    repeat' (first | apply s_ | ((first | apply JO_ob | apply GD_ex | apply GL_ex); exact rfl; first | exact ob1 | exact Ob_indexa rfl rfl (by omega) | exact Ob_load_a rfl mem_ (by omega) | exact Ob_sliceA rfl) | (apply pA_; exact zA_) | ((first | apply b_ | apply a_ | apply i_); exact z_; intro _) | ((first | apply p_ | apply JO_yes | apply GC_t); exact z_) | (apply n_; exact z_) | (apply GC_f; exact z_) | (apply GX_block_on; exact z_) | refine GC_drawB (id := 7) [5] [0, 1, 2, 3, 4] [6, 7, 8, 9, 10] _ (by kernel_rfl) (List.Sublist.refl _) ?_ | ((first | apply GD_at | apply GL_at | apply GD_no | apply GL_no); exact rfl) | apply DFin_0 | (apply q1_; exact z_) | (apply q0_; exact z_) | (apply q2_; exact z_) | (apply c_; exact z_; all_goals intro _) | (apply g_; exact z_; all_goals intro _))
    refine GX_retM1 0 rfl (GX_ret1 rfl rfl fun w' hw' => ⟨hw'.kp mem_, pw, tv, ts, rfl, hw'.apt _ (.tail _ (.tail _ (.tail _ (.head _)))) _ (.tail _ (.tail _ (.head _))) trivial, hw'.own _ (.tail _ (.tail _ (.tail _ (.head _)))), hF.new hG mem_ mem_ hw', hts⟩)
end Go.Proofs.YtkbaaikidhbfmaaGreat
/- Contracts: the program's beatings: bounds. No statement is proved here. -/
set_option linter.unusedVariables false
set_option linter.unusedSimpArgs false
namespace Go.Proofs.YtkbaaikidhbfmaaGreat
open Go.RowKit
theorem DoneT.ne {y : Bt} {ts : List (List Int)} (h : DoneT y (lex (btR y)) ts) : ts = [] ↔ truthsW y = [] := by
  constructor
  · intro h1; subst h1
    refine List.eq_nil_iff_forall_not_mem.2 fun l hl => ?_
    have := List.mem_filter.1 hl
    have := h.to l this.1 this.2
    cases this
  · intro h1
    refine List.eq_nil_iff_forall_not_mem.2 fun t ht => ?_
    obtain ⟨l, h2, h3, _⟩ := h.of t ht
    have : l ∈ truthsW y := List.mem_filter.2 ⟨h2, h3⟩
    rw [h1] at this; cases this
abbrev bwC (d e tv : Value) (y : Bt) : List Value := [.int .i64 y.sun.1, .int .i64 y.sun.2, d, .int .i64 y.last, e, tv]
theorem c102 (w : World) (d e : Value) (y : Bt) (h : BtA All w d e y) :
    Rt 102 [btV d e y, .bool true] w fun v w' => Keep w w' ∧
      ((fault3 y ≠ 0 ∧ v = .tuple #[.pointer none, .int .i64 (fault3 y)]) ∨ (fault3 y = 0 ∧ truthsW y = [] ∧ v = .tuple #[.pointer none, .int .i64 11]) ∨
       (fault3 y = 0 ∧ truthsW y ≠ [] ∧ ∃ pw tv ts, v = .tuple #[pt pw, .int .i64 0] ∧ w.heap.size ≤ pw ∧ w'.heap[pw]? = some (.cells (bwC d e tv y).toArray 219) ∧ Arr (New w) w' 3 (encA 3) tv ts ∧ DoneT y (lex (btR y)) ts)) := by
  have i1 := h.vats.v1
  have i2 := h.smps.v1
  refine Rt_of Tryz.func102 rfl Tryz.ntmps102 rfl ?_
  repeat' (first | apply s_ | (apply JO_ob; exact rfl; first | exact ob1 | exact Ob_call rfl (fun w hw => c141 w d e y (hw.bt mem_ h))) | ((first | apply b_ | apply a_ | apply i_); exact z_; intro _) | ((first | apply p_ | apply JO_yes | apply GC_t); exact z_) | (apply n_; exact z_) | (apply GC_f; exact z_) | (apply GX_block_on; exact z_))
  by_cases hf : fault3 y = 0
  · obtain ⟨hO, hm⟩ := okB_of hf
    repeat' (first | apply s_ | (apply JO_ob; exact rfl; first | exact ob1 | exact Ob_indexa rfl rfl (by omega) | exact Ob_load_a rfl mem_ (by omega) | exact Ob_sliceA rfl) | (apply pA_; exact zA_) | ((first | apply b_ | apply a_ | apply i_); exact z_; intro _) | ((first | apply p_ | apply JO_yes | apply GC_t); exact z_) | (apply n_; exact z_) | (apply GC_f; exact z_) | (apply GX_block_on; exact z_) | (apply c_; exact z_; all_goals intro _))
    refine JO_call (S := fun w0 v w' => ∃ pw tv ts, v = pt pw ∧ w0.heap.size ≤ pw ∧ w'.heap[pw]? = some (.cells (bwC d e tv y).toArray 219) ∧ Arr (New w0) w' 3 (encA 3) tv ts ∧ DoneT y (lex (btR y)) ts) rfl rfl (fun w5 hw5 => c142 w5 d e y (hw5.bt mem_ h) hO hm) ?_
    rintro r u0 u1 hu0 hu1 hk01 ⟨pw, tv, ts, rfl, hpw0, hpw, hT, hD⟩
    have j1 := hT.v1
    by_cases h0 : ts.length = 0
    · repeat' (first | apply s_ | (apply JO_ob; exact rfl; first | exact ob1 | exact Ob_load_blk rfl (.head _) hpw0 hpw rfl | exact Ob_indexa rfl rfl (by omega) | exact Ob_load_a rfl mem_ (by omega) | exact Ob_sliceA rfl) | (apply pA_; exact zA_) | ((first | apply b_ | apply a_ | apply i_); exact z_; intro _) | ((first | apply p_ | apply JO_yes | apply GC_t); exact z_) | (apply n_; exact z_) | (apply GC_f; exact z_) | (apply GX_block_on; exact z_) | (apply c_; exact z_; all_goals intro _))
      exact GX_ret2 rfl rfl rfl fun w' hw' => ⟨hw'.kp mem_, .inr (.inl ⟨hf, hD.ne.1 (List.eq_nil_of_length_eq_zero h0), rfl⟩)⟩
    · repeat' (first | apply s_ | (apply JO_ob; exact rfl; first | exact ob1 | exact Ob_load_blk rfl (.head _) hpw0 hpw rfl | exact Ob_indexa rfl rfl (by omega) | exact Ob_load_a rfl mem_ (by omega) | exact Ob_sliceA rfl) | (apply pA_; exact zA_) | ((first | apply b_ | apply a_ | apply i_); exact z_; intro _) | ((first | apply p_ | apply JO_yes | apply GC_t); exact z_) | (apply n_; exact z_) | (apply GC_f; exact z_) | (apply GX_block_on; exact z_) | (apply c_; exact z_; all_goals intro _))
      exact GX_ret2 rfl rfl rfl fun w' hw' => ⟨hw'.kp mem_, .inr (.inr ⟨hf, fun hh => h0 (by rw [hD.ne.2 hh]; rfl), pw, tv, ts, rfl, Nat.le_trans hu0.b0le hpw0, ((hw'.rng _ (.head _)).2 pw hpw0 (Array.getElem?_eq_some_iff.1 hpw).1).trans hpw, (hw'.arr (.head _) hT).weaken fun b hb _ => Nat.le_trans hu0.b0le hb, hD⟩)⟩
  · repeat' (first | apply s_ | (apply JO_ob; exact rfl; first | exact ob1) | ((first | apply b_ | apply a_ | apply i_); exact z_; intro _) | ((first | apply p_ | apply JO_yes | apply GC_t); exact z_) | (apply n_; exact z_) | (apply GC_f; exact z_) | (apply GX_block_on; exact z_) | (apply c_; exact z_; all_goals intro _))
    exact GX_ret2 rfl rfl rfl fun w' hw' => ⟨hw'.kp mem_, .inl ⟨hf, rfl⟩⟩
theorem c117 (w : World) (a es : Value) (t : List Int) (v : Nat) (hv : v < 3) : Ex 117 [a, kA 3 t, .int .i64 (v : Int), es] w (.int .i64 (nth t v)) := by
  refine Rt_of Tryz.func117 rfl Tryz.ntmps117 rfl ?_
  repeat' (first | apply s_ | (apply JO_ob; exact rfl; first | exact ob1 | exact Ob_indexa rfl rfl (by omega) | exact Ob_load_a rfl mem_ (by omega) | exact Ob_sliceA rfl) | (apply pA_; exact zA_) | ((first | apply b_ | apply a_ | apply i_); exact z_; intro _) | ((first | apply p_ | apply JO_yes | apply GC_t); exact z_) | (apply n_; exact z_) | (apply GC_f; exact z_) | (apply GX_block_on; exact z_) | (apply c_; exact z_; all_goals intro _))
  (first | exact GX_ex rfl rfl mem_ rfl | exact GX_exc rfl rfl mem_ rfl mem_ rfl)
theorem c118 (w : World) (f : FuncId) [hE : Ent f] (pw : Nat) (c1 c2 c3 c4 c5 tv vat es : Value) [V1 vat] [V1 es] (ts : List (List Int)) (val : List Int → Int) (hpw : w.heap[pw]? = some (.cells #[c1, c2, c3, c4, c5, tv] 219)) (hT : Arr All w 3 (encA 3) tv ts) (hne : 0 < ts.length)
    (hval : ∀ t ∈ ts, ∀ w', Keep w w' → Ex f [pt pw, kA 3 t, vat, es] w' (.int .i64 (val t))) (hb : ∀ t ∈ ts, 0 ≤ val t ∧ val t ≤ 1000000) :
    Ex 118 [.agg #[.func (.func f) #[] #[]], pt pw, vat, es] w (.agg (encR (hull (ts.map val))).toArray) := by
  have i4 := hT.v1
  have bT := hT.bound
  refine Rt_of Tryz.func118 rfl Tryz.ntmps118 rfl ?_
  repeat' (first | apply s_ | ((first | apply JO_ob | apply GD_ex | apply GL_ex); exact rfl; first | exact ob1 | exact Ob_load_blk rfl mem_ trivial hpw rfl | exact Ob_load_A (i := 0) rfl hT mem_ rfl hne | (apply Ob_callv (f := f) (cap := []); exact rfl; exact rfl; exact fun w5 hw5 => hval _ (nth_mem hne) w5 (hw5.kp mem_)) | exact Ob_indexa rfl rfl (by omega) | exact Ob_load_a rfl mem_ (by omega) | exact Ob_sliceA rfl) | (apply pA_; exact zA_) | ((first | apply b_ | apply a_ | apply i_); exact z_; intro _) | ((first | apply p_ | apply JO_yes | apply GC_t); exact z_) | (apply n_; exact z_) | (apply GC_f; exact z_) | (apply GX_block_on; exact z_) | refine GC_drawA (id := 1) [0, 1, 2, 3, 4, 5, 6, 7, 8, 9, 10, 11, 12] [] (by kernel_rfl) ?_ | refine GC_drawA (id := 6) [0, 1, 2, 3, 4, 5, 6, 7, 8] [9] (by kernel_rfl) ?_ | ((first | apply GD_at | apply GL_at | apply GD_no | apply GL_no); exact rfl) | apply DFin_0 | (apply q1_; exact z_) | (apply q0_; exact z_) | (apply q2_; exact z_) | (apply c_; exact z_; all_goals intro _) | (apply g_; exact z_; all_goals intro _))
  rename_i p4 p8 p10
  let L := ts.map val
  have lL : L.length = ts.length := by simp [L]
  have eL : ∀ k, k < ts.length → nth L k = val (nth ts k) := fun k hk => nth_map _ hk
  have hLb : ∀ n ∈ L, 0 ≤ n ∧ n ≤ 1000000 := fun n hn => by
    simp only [L, List.mem_map] at hn
    obtain ⟨t, ht, rfl⟩ := hn
    exact hb t ht
  rw [← eL 0 hne]
  refine GC_loop (α := Nat) (fun k => ts.length - k) (fun k => [(1, pt pw), (2, vat), (3, es), (4, pt p4), (8, pt p8), (10, pt p10), (31, tv), (32, .int .i64 (ts.length : Int)), (33, .int .i64 (k : Int))]) (fun _ => [((fun _ => True), w)])
    (fun k => [(p10, .cells #[.int .i64 ((L.take k).foldl min (nth L 0)), .int .i64 ((L.take k).foldl max (nth L 0))] 46), (p8, .cells #[.int .i64 0, .int .i64 0] 46), (p4, .cells #[.func (.func f) #[] #[]] 181)])
    (fun k => k ≤ ts.length) 0 ⟨rfl, rfl, rfl, rfl, rfl, rfl, rfl, rfl, rfl, trivial⟩ (Nat.zero_le _) (fun w hw => hw) ?_
  intro k hk
  by_cases hlk : k < ts.length
  · repeat' (first | apply s_ | ((first | apply JO_ob | apply GD_ex | apply GL_ex); exact rfl; first | exact ob1 | exact Ob_load_blk rfl mem_ trivial hpw rfl | exact Ob_load_A (i := k) rfl hT mem_ rfl hlk | (apply Ob_callv (f := f) (cap := []); exact rfl; exact rfl; exact fun w5 hw5 => hval _ (nth_mem hlk) w5 (hw5.kp mem_)) | exact Ob_call rfl (fun w5 hw5 => c153 _ _ _ w5) | exact Ob_indexa rfl rfl (by omega) | exact Ob_load_a rfl mem_ (by omega) | exact Ob_sliceA rfl) | (apply pA_; exact zA_) | ((first | apply b_ | apply a_ | apply i_); exact z_; intro _) | ((first | apply p_ | apply JO_yes | apply GC_t); exact z_) | (apply n_; exact z_) | (apply GC_f; exact z_) | (apply GX_block_on; exact z_) | refine GC_drawA (id := 1) [0, 1, 2, 3, 4, 5, 6, 7, 8, 9, 10, 11, 12] [] (by kernel_rfl) ?_ | refine GC_drawA (id := 6) [0, 1, 2, 3, 4, 5, 6, 7, 8] [9] (by kernel_rfl) ?_ | ((first | apply GD_at | apply GL_at | apply GD_no | apply GL_no); exact rfl) | apply DFin_0 | (apply q1_; exact z_) | (apply q0_; exact z_) | (apply q2_; exact z_) | (apply c_; exact z_; all_goals intro _) | (apply g_; exact z_; all_goals intro _))
    have e5 : L.take (k + 1) = L.take k ++ [nth L k] := take_snoc (by omega)
    refine GX_loop (k + 1) ⟨rfl, rfl, rfl, rfl, rfl, rfl, rfl, rfl, rfl, trivial⟩ (by omega) (by omega) (fun w hw => ?_)
    simp only [e5, List.foldl_append, List.foldl_cons, List.foldl_nil, eL k hlk]
    exact hw.weak (fun r h => h) (List.Sublist.cons _ (List.Sublist.refl _))
  · have hke : k = ts.length := by omega
    subst hke
    have eLt : L.take ts.length = L := List.take_of_length_le (by omega)
    rw [eLt]
    have eh : ((L.foldl min (nth L 0)), (L.foldl max (nth L 0))) = hull L := hull_from (nth_mem (by omega)) (fun x hx => by have := hLb x hx; omega)
    rw [← eh]
    repeat' (first | apply s_ | ((first | apply JO_ob | apply GD_ex | apply GL_ex); exact rfl; first | exact ob1 | exact Ob_indexa rfl rfl (by omega) | exact Ob_load_a rfl mem_ (by omega) | exact Ob_sliceA rfl) | (apply pA_; exact zA_) | ((first | apply b_ | apply a_ | apply i_); exact z_; intro _) | ((first | apply p_ | apply JO_yes | apply GC_t); exact z_) | (apply n_; exact z_) | (apply GC_f; exact z_) | (apply GX_block_on; exact z_) | refine GC_drawA (id := 1) [0, 1, 2, 3, 4, 5, 6, 7, 8, 9, 10, 11, 12] [] (by kernel_rfl) ?_ | refine GC_drawA (id := 6) [0, 1, 2, 3, 4, 5, 6, 7, 8] [9] (by kernel_rfl) ?_ | ((first | apply GD_at | apply GL_at | apply GD_no | apply GL_no); exact rfl) | apply DFin_0 | (apply q1_; exact z_) | (apply q0_; exact z_) | (apply q2_; exact z_) | (apply c_; exact z_; all_goals intro _) | (apply g_; exact z_; all_goals intro _))
    (first | exact GX_ex rfl rfl mem_ rfl | exact GX_exc rfl rfl mem_ rfl mem_ rfl)
theorem c73 (w : World) (d e : Value) (y : Bt) (h : BtA All w d e y) :
    Rt 73 [btV d e y] w fun v w' => Keep w w' ∧ ∃ u, v = .tuple #[u, .int .i64 (if fault3 y ≠ 0 then fault3 y else if truthsW y = [] then 11 else 0)] := by
  have i1 := h.vats.v1
  have i2 := h.smps.v1
  have ha := h.vats
  refine Rt_of Tryz.func73 rfl Tryz.ntmps73 rfl ?_
  repeat' (first | apply s_ | (apply JO_ob; exact rfl; first | exact ob1) | ((first | apply b_ | apply a_ | apply i_); exact z_; intro _) | ((first | apply p_ | apply JO_yes | apply GC_t); exact z_) | (apply n_; exact z_) | (apply GC_f; exact z_) | (apply GX_block_on; exact z_) | (apply c_; exact z_; all_goals intro _))
  refine JO_call (S := fun w0 v w' => ((fault3 y ≠ 0 ∧ v = .tuple #[.pointer none, .int .i64 (fault3 y)]) ∨ (fault3 y = 0 ∧ truthsW y = [] ∧ v = .tuple #[.pointer none, .int .i64 11]) ∨
       (fault3 y = 0 ∧ truthsW y ≠ [] ∧ ∃ pw tv ts, v = .tuple #[pt pw, .int .i64 0] ∧ w0.heap.size ≤ pw ∧ w'.heap[pw]? = some (.cells (bwC d e tv y).toArray 219) ∧ Arr (New w0) w' 3 (encA 3) tv ts ∧ DoneT y (lex (btR y)) ts))) rfl rfl (fun w5 hw5 => c102 w5 d e y (hw5.bt mem_ h)) ?_
  rintro r u0 u1 hu0 hu1 hk01 (⟨hf, rfl⟩ | ⟨hf, ht, rfl⟩ | ⟨hf, ht, pw, tv, ts, rfl, hpw0, hpw, hT, hD⟩)
  · repeat' (first | apply s_ | (apply JO_ob; exact rfl; first | exact ob1) | ((first | apply b_ | apply a_ | apply i_); exact z_; intro _) | ((first | apply p_ | apply JO_yes | apply GC_t); exact z_) | (apply n_; exact z_) | (apply GC_f; exact z_) | (apply GX_block_on; exact z_) | (apply c_; exact z_; all_goals intro _))
    exact GX_ret2 rfl rfl rfl fun w' hw' => ⟨hw'.kp mem_, _, by rw [if_pos hf]⟩
  · repeat' (first | apply s_ | (apply JO_ob; exact rfl; first | exact ob1) | ((first | apply b_ | apply a_ | apply i_); exact z_; intro _) | ((first | apply p_ | apply JO_yes | apply GC_t); exact z_) | (apply n_; exact z_) | (apply GC_f; exact z_) | (apply GX_block_on; exact z_) | (apply c_; exact z_; all_goals intro _))
    exact GX_ret2 rfl rfl rfl fun w' hw' => ⟨hw'.kp mem_, _, by rw [if_neg (fun h => h hf), if_pos ht]⟩
  · obtain ⟨hO, hm⟩ := okB_of hf
    have v3 := hO.v3
    have hne : 0 < ts.length := by
      rcases Nat.eq_zero_or_pos ts.length with h | h
      · exact absurd (hD.ne.1 (List.eq_nil_of_length_eq_zero h)) ht
      · exact h
    have hb : ∀ v, v < y.vats.length → ∀ t ∈ ts, 0 ≤ nth t v ∧ nth t v ≤ 1000000 := fun v hv t htt => by
      obtain ⟨l, h1, _, h3⟩ := hD.of t htt
      have hc := InC_of (mem_lex.1 h1)
      have h4 := hc.needs v hv
      have h5 := (hO.v v hv).1
      have h6 := hc.sun
      have h7 := hO.sun
      rw [h3, D3, padL_nth (by omega), doneL_nth (by rw [hc.len]; exact hv)]
      omega
    repeat' (first | apply s_ | (apply JO_ob; exact rfl; first | exact ob1) | ((first | apply b_ | apply a_ | apply i_); exact z_; intro _) | ((first | apply p_ | apply JO_yes | apply GC_t); exact z_) | (apply n_; exact z_) | (apply GC_f; exact z_) | (apply GX_block_on; exact z_) | (apply c_; exact z_; all_goals intro _))
    rename_i p
    let B : List Rg := (List.range y.vats.length).map fun i => hull (ts.map fun t => nth t i)
    have lB : B.length = y.vats.length := by simp [B]
    refine GC_loop (α := Nat × Value × List Value) (fun s => y.vats.length - s.1) (fun s => [(4, pt pw), (6, s.2.1), (18, .int .i64 (y.vats.length : Int)), (19, .int .i64 (s.1 : Int))]) (fun _ => [(fun b => u0.heap.size ≤ b, u1), ((fun _ => True), w)])
      (fun s => rowH s.2.1 46 ((B.take s.1).flatMap encR ++ s.2.2))
      (fun s => s.1 ≤ y.vats.length ∧ Own 2 encR s.2.1 (B.take s.1) s.2.2) (0, .slice none 0 0, []) ⟨rfl, rfl, rfl, rfl, trivial⟩ ⟨Nat.zero_le _, Own.nil fun _ => rfl⟩ (fun w hw => hw.weak (fun r h => h) (List.nil_sublist _)) ?_
    rintro ⟨k, v1, s1⟩ ⟨hk, ho1⟩
    simp only at hk ho1 ⊢
    have j1 := ho1.v1
    by_cases hlt : k < y.vats.length
    · have e5 : nth B k = hull (ts.map fun t => nth t k) := by simp [B, nth, hlt]
      repeat' (first | apply s_ | (apply JO_ob; exact rfl; first | exact ob1 | exact Ob_call rfl (fun w5 hw5 => c118 w5 117 pw _ _ _ _ _ tv (.int .i64 (k : Int)) (.slice none 0 0) ts (fun t => nth t k) (((hw5.rng _ (.head _)).2 pw hpw0 (Array.getElem?_eq_some_iff.1 hpw).1).trans hpw) ((hw5.arr (.head _) hT).weaken fun _ _ _ => trivial) hne (fun t ht w' _ => c117 w' _ _ t k (by omega)) (hb k hlt))) | ((first | apply b_ | apply a_ | apply i_); exact z_; intro _) | ((first | apply p_ | apply JO_yes | apply GC_t); exact z_) | (apply n_; exact z_) | (apply GC_f; exact z_) | (apply GX_block_on; exact z_) | (apply c_; exact z_; all_goals intro _))
      rw [← e5]
      refine JO_append (xs := B.take k) (ys := [nth B k]) [_] rfl rfl rfl ho1 (List.Perm.refl _) (fun w hw => hw.slOwn mem_ rfl) (by simp [encR, oneCell]) (by simp; omega) ?_
      intro v2 s2 ho2
      have j2 := ho2.v1
      rw [← take_snoc (by omega)] at ho2 ⊢
      repeat' (first | apply s_ | (apply JO_ob; exact rfl; first | exact ob1) | ((first | apply b_ | apply a_ | apply i_); exact z_; intro _) | ((first | apply p_ | apply JO_yes | apply GC_t); exact z_) | (apply n_; exact z_) | (apply GC_f; exact z_) | (apply GX_block_on; exact z_) | (apply c_; exact z_; all_goals intro _))
      exact GX_loop (k + 1, v2, s2) ⟨rfl, rfl, rfl, rfl, trivial⟩ (by simp only; omega) ⟨by simp only; omega, ho2⟩ fun w hw => hw.weak (fun r h => h) (List.Sublist.cons _ (List.Sublist.refl _))
    · repeat' (first | apply s_ | (apply JO_ob; exact rfl; first | exact ob1) | ((first | apply b_ | apply a_ | apply i_); exact z_; intro _) | ((first | apply p_ | apply JO_yes | apply GC_t); exact z_) | (apply n_; exact z_) | (apply GC_f; exact z_) | (apply GX_block_on; exact z_) | (apply c_; exact z_; all_goals intro _))
      exact GX_ret2 rfl rfl rfl fun w' hw' => ⟨hw'.kp mem_, _, by rw [if_neg (fun h => h hf), if_neg ht]⟩
end Go.Proofs.YtkbaaikidhbfmaaGreat
/- Contracts: slices of the library: grow, concat. No statement is proved here. -/
set_option linter.unusedVariables false
set_option linter.unusedSimpArgs false
namespace Go.Proofs.YtkbaaikidhbfmaaGreat
open Go.RowKit
/-- A block that a call has laid becomes one's own. -/
theorem SH.own1 {b0 : World} {R : Rgs} {H : Hp} {w w' : World} (h : SH b0 R H w) (k : Keep w w') {b : Nat} {o : Obj} (hb : w.heap.size ≤ b) (ho : w'.heap[b]? = some o) : SH b0 R ((b, o) :: H) w' := by
  have h' := h.keep k
  refine ⟨h'.bas, h'.rng, ?_, ?_, ?_⟩
  · intro p hp
    rcases List.mem_cons.1 hp with rfl | hp
    · exact ho
    · exact h'.own p hp
  · refine List.pairwise_cons.2 ⟨fun p hp e => ?_, h'.nd⟩
    have := h.lt hp; simp only at e; omega
  · intro p hp r hr hbr
    rcases List.mem_cons.1 hp with rfl | hp
    · exact Nat.le_trans (h.rng r hr).1 hb
    · exact h'.apt p hp r hr hbr
section
variable {n d : Nat} {D : List Deferred} {Q : Post} {full : List Oper} {b0 : World} {R : Rgs} {H : Hp} {fr : Slots} {K : Kt} {dst : Option Nat} {g : Option (Nat × Bool)} {ty : TypeId} {ps : String} {af : Array Edge} {G : Nat → Prop} {w1 : World} {v u : Value} {w : World}
/-- A call whose word is about the heap as it is known. -/
theorem JO_callS {β : Type} {f : FuncId} {ar : List Operand} {vs : List Value} {ts : Array TypeId} {S : β → Value → Prop} {R' : β → Rgs} {H' : β → Hp} [hE : Ent f] (hd : Nat.blt d n = true) (hx : evs fr ar = some vs)
    (hc : ∀ w, SH b0 R H w → Rt f vs w fun v w' => ∃ s, S s v ∧ (∀ r ∈ R, r ∈ R' s) ∧ SH b0 (R' s) (H' s) w')
    (h : ∀ s v, S s v → K (R' s) (H' s) ((d, v) :: fr)) : JO n full b0 R H ⟨some d, .call ⟨.value (.func f), ar.toArray, ts⟩, ty, ps, af, none⟩ fr K :=
  JO.mk (by rw [Bool.and_eq_true]; exact ⟨hd, rfl⟩) fun w hw => by
    refine St_call hx ((hc w hw).mono ?_)
    rintro v w' ⟨s, hs, hr, hw'⟩
    exact ⟨R' s, H' s, hw', hr, h s v hs⟩
theorem Ob_cap_lit {t e sz by_ : Nat} {x : Operand} {A : Option Addr} {m c : Nat} [h : TySl t e sz by_] (hx : ev fr x = some (.slice A m c)) :
    Ob b0 R H ⟨dst, .call ⟨.builtin .cap, #[x], #[t]⟩, ty, ps, af, g⟩ fr (.int .i64 (c : Int)) := .pure fun w f hf => by
  simp only [execOp, resolve]
  simp [hf x _ hx, invoke, builtin, Builtin.cap_, run_underlying h.h, goInt, Result.andThen]
theorem map_add0 (A : Option Addr) (hA : A = none ∨ ∃ b o, A = some ⟨b, o, none⟩) : A.map (·.add 0) = A := by
  rcases hA with rfl | ⟨b, o, rfl⟩
  · rfl
  · simp [add_none]
theorem Ob_slice_hi {t e sz by_ : Nat} {x y : Operand} {A : Option Addr} {m c : Nat} {k : IntKind} {i : Nat} [h : TySl t e sz by_] (hx : ev fr x = some (.slice A m c)) (hy : ev fr y = some (.int k (i : Int))) (hi : i ≤ c) (hA : A = none ∨ ∃ b o, A = some ⟨b, o, none⟩) :
    Ob b0 R H ⟨dst, .slice t x none (some y) none, ty, ps, af, g⟩ fr (.slice A i c) := .pure fun w f hf => by
  have e1 := map_add0 A hA
  have h3 : 0 ≤ (i : Int) ∧ (i : Int) ≤ (c : Int) := by omega
  simp [execOp, hf x _ hx, hf y _ hy, Instr.sliceAt, run_underlying h.h, Instr.slice, Instr.sliceBounds, Instr.sliceBound, asIntOf, hi, h.s, e1, Result.andThen]
theorem JO_appendz {t ti e sz by_ : Nat} {k : IntKind} {x y : Operand} {m : Nat} [h : TyApp t e sz by_] [hi : TyInt ti k] (hd : Nat.blt d n = true) (hx : ev fr x = some (.slice none 0 0)) (hy : ev fr y = some (.int .i64 (m : Int))) (h0 : 0 < m) (hm : m * (by_ + 1) ≤ 140737488355328)
    (hK : ∀ (b c : Nat) (zs : List Value), m ≤ c → c ≤ 9223372036854775807 → zs.length = c * (sz + 1) → K R ((b, .cells zs.toArray e) :: H) ((d, .slice (some ⟨b, 0, none⟩) m c) :: fr)) :
    JO n full b0 R H ⟨some d, .call ⟨.builtin .append, #[x, y], #[t, ti]⟩, ty, ps, af, none⟩ fr K := by
  refine JO.mk (by rw [Bool.and_eq_true]; exact ⟨hd, rfl⟩) fun w hw f hf => ?_
  obtain ⟨i, z, hi', hz, hs, hby, hzs⟩ := h.info
  have h5 : m * 1 ≤ m * (by_ + 1) := Nat.mul_le_mul_left _ (by omega)
  have hr := Go.Lib.run_append_nil_zeros (P := P) w t ti ty e i z .i64 k h.h hi.h hi' hz m h0 (by omega) (by omega) (by rw [hby]; omega)
  have g1 := grownCap_ge w m 0 e
  have g2 := grownCap_le_maxLen w m 0 e (by simp only [maxLen]; omega)
  simp only [maxLen] at g2
  generalize grownCap w m 0 e = gc at hr g1 g2
  have e1 : (execOp f { dst := some d, op := Op.call ⟨.builtin .append, #[x, y], #[t, ti]⟩, type := ty, pos := ps, after := af, guard := none }).run P w = .ok (.value (.slice (some ⟨w.heap.size, 0, none⟩) m gc)) (w.drew.alloc (.cells (Builtin.zeroCells z.cells m ++ Builtin.zeroCells z.cells (gc - m)) e)) := by
    simp [execOp, resolve, hf x _ hx, hf y _ hy, invoke, builtin, hr, Result.andThen]
  rw [e1]
  have hlen : (Builtin.zeroCells z.cells m ++ Builtin.zeroCells z.cells (gc - m)).toList.length = gc * (sz + 1) := by
    rw [Array.toList_append, List.length_append, Array.length_toList, Array.length_toList, size_zeroCells, size_zeroCells, hzs, ← Nat.add_mul, Nat.add_sub_cancel' g1]
  have hn := hw.drew.new (.cells (Builtin.zeroCells z.cells m ++ Builtin.zeroCells z.cells (gc - m)) e)
  refine ⟨R, _, hn, fun r h => h, ?_⟩
  have := hK w.heap.size gc _ g1 (by omega) hlen
  rw [Array.toArray_toList] at this
  exact this
end
theorem c121 (w : World) (m : Nat) (h0 : 0 < m) (hm : m ≤ 100000) : Rt 121 [.slice none 0 0, .int .i64 (m : Int)] w fun v w' => Keep w w' ∧ ∃ (b c : Nat) (zs : List Value), v = .slice (some ⟨b, 0, none⟩) 0 c ∧ m ≤ c ∧ c ≤ 9223372036854775807 ∧ zs.length = c * 2 ∧ w.heap.size ≤ b ∧ w'.heap[b]? = some (.cells zs.toArray 59) := by
  refine Rt_of Tryz.func121 rfl Tryz.ntmps121 rfl ?_
  repeat' (first | apply s_ | (apply JO_ob; exact rfl; first | exact ob1 | exact Ob_cap_lit rfl | exact Ob_slice_hi (i := 0) rfl rfl (Nat.zero_le _) (.inl rfl)) | ((first | apply b_ | apply a_ | apply i_); exact z_; intro _) | ((first | apply p_ | apply JO_yes | apply GC_t); exact z_) | (apply n_; exact z_) | (apply GC_f; exact z_) | (apply GX_block_on; exact z_) | (apply c_; exact z_; all_goals intro _))
  refine JO_appendz (m := m) rfl rfl ?_ h0 (by omega) ?_
  · exact congrArg (fun z => some (Value.int .i64 z)) (show (m : Int) - (((0 : Nat) : Int) - ((0 : Nat) : Int)) = m by omega)
  · intro b c zs h1 h2 h3
    repeat' (first | apply s_ | (apply JO_ob; exact rfl; first | exact ob1 | exact Ob_slice_hi (i := 0) rfl rfl (Nat.zero_le _) (.inr ⟨_, _, rfl⟩)) | ((first | apply b_ | apply a_ | apply i_); exact z_; intro _) | ((first | apply p_ | apply JO_yes | apply GC_t); exact z_) | (apply n_; exact z_) | (apply GC_f; exact z_) | (apply GX_block_on; exact z_) | (apply c_; exact z_; all_goals intro _))
    exact GX_ret1 rfl rfl fun w' hw' => ⟨hw'.kp mem_, b, c, zs, rfl, h1, h2, h3, hw'.apt _ (.head _) _ (.head _) trivial, hw'.own _ (.head _)⟩
theorem c78 (w : World) (v a b : Value) (xs ys : List Rg) (hv : Arr All w 1 encO v [a, b]) (ha : Arr All w 2 encR a xs) (hb : Arr All w 2 encR b ys) (h0 : 0 < xs.length + ys.length) (h1 : xs.length ≤ 1000) (h2 : ys.length ≤ 1000) :
    Rt 78 [v] w fun r w' => Keep w w' ∧ Arr (New w) w' 2 encR r (xs ++ ys) := by
  have i1 := hv.v1
  let X : List (List Rg) := [xs, ys]
  have hA : ∀ k, k < 2 → Arr All w 2 encR (nth [a, b] k) (nth X k) ∧ (nth X k).length ≤ 1000 := fun k hk => by
    match k, hk with
    | 0, _ => exact ⟨ha, h1⟩
    | 1, _ => exact ⟨hb, h2⟩
  let N : Nat → Nat := fun k => ((X.take k).map List.length).sum
  have hN : ∀ k, k < 2 → N (k + 1) = N k + (nth X k).length := fun k hk => by
    match k, hk with
    | 0, _ => simp [N, X, nth]
    | 1, _ => simp [N, X, nth]
  have hN2 : ∀ k, k ≤ 2 → N k ≤ 2000 := fun k hk => by
    match k, hk with
    | 0, _ => simp [N, X]
    | 1, _ => simp [N, X]; omega
    | 2, _ => simp [N, X]; omega
  have hN3 : N 2 = xs.length + ys.length := by simp [N, X]
  refine Rt_of Tryz.func78 rfl Tryz.ntmps78 rfl ?_
  repeat' (first | apply s_ | (apply JO_ob; exact rfl; first | exact ob1) | ((first | apply b_ | apply a_ | apply i_); exact z_; intro _) | ((first | apply p_ | apply JO_yes | apply GC_t); exact z_) | (apply n_; exact z_) | (apply GC_f; exact z_) | (apply GX_block_on; exact z_) | (apply c_; exact z_; all_goals intro _))
  refine GC_loop0 (fun k => 2 - k) (fun k => [(0, v), (3, .int .i64 (N k : Int)), (9, v), (10, .int .i64 ((2 : Nat) : Int)), (11, .int .i64 (k : Int))]) (fun k => k ≤ 2) 0 ⟨rfl, rfl, rfl, rfl, rfl, trivial⟩ (by omega) ?_
  intro k hk
  by_cases hlt : k < 2
  · have q1 := hA k hlt
    have q2 := hN k hlt
    have q3 := hN2 (k + 1) (by omega)
    have q4 := q1.1
    have q5 := q1.2
    have q6 := q4.v1
    repeat' (first | apply s_ | (apply JO_ob; exact rfl; first | exact ob1 | exact Ob_loadn (xs := [a, b]) (i := k) rfl hv mem_ rfl hlt (by decide) rfl) | ((first | apply b_ | apply a_ | apply i_); exact z_; intro _) | ((first | apply p_ | apply JO_yes | apply GC_t); exact z_) | (apply n_; exact z_) | (apply GC_f; exact z_) | (apply GX_block_on; exact z_) | (apply c_; exact z_; all_goals intro _))
    exact GX_loop0 (k + 1) ⟨rfl, congrArg (fun z => some (Value.int .i64 z)) (by omega), rfl, rfl, rfl, trivial⟩ (by omega) (by omega)
  · have hk2 : k = 2 := by omega
    subst hk2
    repeat' (first | apply s_ | (apply JO_ob; exact rfl; first | exact ob1) | ((first | apply b_ | apply a_ | apply i_); exact z_; intro _) | ((first | apply p_ | apply JO_yes | apply GC_t); exact z_) | (apply n_; exact z_) | (apply GC_f; exact z_) | (apply GX_block_on; exact z_) | (apply c_; exact z_; all_goals intro _))
    refine JO_callS (β := Nat × Nat × List Value) (S := fun s v => v = .slice (some ⟨s.1, 0, none⟩) 0 s.2.1 ∧ s.2.1 ≤ 9223372036854775807 ∧ s.2.2.length = s.2.1 * 2) (R' := fun _ => [(fun _ => True, w)]) (H' := fun s => [(s.1, .cells s.2.2.toArray 59)]) rfl rfl (fun w5 hw5 => ?_) ?_
    · refine (c121 w5 (N 2) (by omega) (by omega)).mono ?_
      rintro r w6 ⟨hk, bb, cc, zs, rfl, g1, g2, g3, g4, g5⟩
      exact ⟨(bb, cc, zs), ⟨rfl, g2, g3⟩, fun r h => h, hw5.own1 hk g4 g5⟩
    · rintro ⟨bb, cc, zs⟩ r ⟨rfl, g2, g3⟩
      simp only at g2 g3 ⊢
      have ho0 : Own 2 encR (.slice (some ⟨bb, 0, none⟩) 0 cc) [] zs := ⟨fun _ => rfl, .inr ⟨bb, cc, rfl, Nat.zero_le _, g2, rfl, by simpa using g3⟩⟩
      repeat' (first | apply s_ | (apply JO_ob; exact rfl; first | exact ob1) | ((first | apply b_ | apply a_ | apply i_); exact z_; intro _) | ((first | apply p_ | apply JO_yes | apply GC_t); exact z_) | (apply n_; exact z_) | (apply GC_f; exact z_) | (apply GX_block_on; exact z_) | (apply c_; exact z_; all_goals intro _))
      let F : Nat → List Rg := fun k => (X.take k).flatten
      have hF : ∀ k, k < 2 → F (k + 1) = F k ++ nth X k := fun k hk => by
        match k, hk with
        | 0, _ => simp [F, X, nth]
        | 1, _ => simp [F, X, nth]
      have hF2 : ∀ k, k ≤ 2 → (F k).length ≤ 2000 := fun k hk => by
        match k, hk with
        | 0, _ => simp [F, X]
        | 1, _ => simp [F, X]; omega
        | 2, _ => simp [F, X]; omega
      refine GC_loop (α := Nat × Value × List Value) (fun s => 2 - s.1) (fun s => [(6, s.2.1), (25, v), (26, .int .i64 ((2 : Nat) : Int)), (27, .int .i64 (s.1 : Int))]) (fun _ => [((fun _ => True), w)])
        (fun s => rowH s.2.1 59 ((F s.1).flatMap encR ++ s.2.2))
        (fun s => s.1 ≤ 2 ∧ Own 2 encR s.2.1 (F s.1) s.2.2) (0, _, zs) ⟨rfl, rfl, rfl, rfl, trivial⟩ ⟨Nat.zero_le _, ho0⟩ (fun w hw => hw) ?_
      rintro ⟨k, v1, s1⟩ ⟨hk, ho1⟩
      simp only at hk ho1 ⊢
      have j1 := ho1.v1
      by_cases hlt : k < 2
      · have q1 := hA k hlt
        have q4 := q1.1
        have q5 := q1.2
        have q6 := q4.v1
        have q7 := hF2 k hk
        repeat' (first | apply s_ | (apply JO_ob; exact rfl; first | exact ob1 | exact Ob_loadn (xs := [a, b]) (i := k) rfl hv mem_ rfl hlt (by decide) rfl) | ((first | apply b_ | apply a_ | apply i_); exact z_; intro _) | ((first | apply p_ | apply JO_yes | apply GC_t); exact z_) | (apply n_; exact z_) | (apply GC_f; exact z_) | (apply GX_block_on; exact z_) | (apply c_; exact z_; all_goals intro _))
        refine JO_append (xs := F k) (ys := nth X k) [] rfl rfl rfl ho1 (List.Perm.refl _) (fun w hw => hw.slArr (.head _) q4 (by decide)) (allOne_flat (fun _ => rfl) _) (by simp; omega) ?_
        intro v2 s2 ho2
        have j2 := ho2.v1
        rw [← hF k hlt] at ho2 ⊢
        repeat' (first | apply s_ | (apply JO_ob; exact rfl; first | exact ob1) | ((first | apply b_ | apply a_ | apply i_); exact z_; intro _) | ((first | apply p_ | apply JO_yes | apply GC_t); exact z_) | (apply n_; exact z_) | (apply GC_f; exact z_) | (apply GX_block_on; exact z_) | (apply c_; exact z_; all_goals intro _))
        exact GX_loop (k + 1, v2, s2) ⟨rfl, rfl, rfl, rfl, trivial⟩ (by simp only; omega) ⟨by simp only; omega, ho2⟩ fun w hw => hw
      · have hk2 : k = 2 := by omega
        subst hk2
        have hf2 : F 2 = xs ++ ys := by simp [F, X]
        rw [hf2] at ho1 ⊢
        repeat' (first | apply s_ | (apply JO_ob; exact rfl; first | exact ob1) | ((first | apply b_ | apply a_ | apply i_); exact z_; intro _) | ((first | apply p_ | apply JO_yes | apply GC_t); exact z_) | (apply n_; exact z_) | (apply GC_f; exact z_) | (apply GX_block_on; exact z_) | (apply c_; exact z_; all_goals intro _))
        exact GX_ret1 rfl rfl fun w' hw' => ⟨hw'.kp mem_, ho1.ret (A := []) (by decide) hw' mem_⟩
end Go.Proofs.YtkbaaikidhbfmaaGreat
/- Contracts: the program's works: what is valid. No statement is proved here. -/
set_option linter.unusedVariables false
set_option linter.unusedSimpArgs false
namespace Go.Proofs.YtkbaaikidhbfmaaGreat
open Go.RowKit
theorem WkA.keep {w w' : World} {a b c : Value} {hs : List Value} {d e f : Value} {k : Wk} (h : WkA All w a b c hs d e f k) (kp : Keep w w') : WkA All w' a b c hs d e f k := h.move fun b _ hb => kp.block b hb
section
variable {w : World} {a b c : Value} {hs : List Value} {d e f : Value} {k : Wk}
theorem c75w (h : WkA All w a b c hs d e f k) : Ex 75 [wkV a b c d e f k] w (.int .i64 (k.yard.vats.length : Int)) := by
  have i1 := h.yard.fields.v1
  have i2 := h.yard.vats.arr.v1
  have i3 := h.yard.smps.v1
  have i4 := h.beat.vats.v1
  have i5 := h.beat.smps.v1
  have i6 := h.ends.v1
  rw [← h.yard.vats.len]
  exact c75 w a b c _ _ _ _ _ _ _ _ _ _ h.yard.vats.arr
theorem c74 (h : WkA All w a b c hs d e f k) (x : Int) : Ex 74 [wkV a b c d e f k, .int .i64 x] w (.bool (decide (0 ≤ x ∧ x ≤ k.beat.last))) := by
  have i1 := h.yard.fields.v1
  have i2 := h.yard.vats.arr.v1
  have i3 := h.yard.smps.v1
  have i4 := h.beat.vats.v1
  have i5 := h.beat.smps.v1
  have i6 := h.ends.v1
  refine Rt_of Tryz.func74 rfl Tryz.ntmps74 rfl ?_
  repeat' (first | apply s_ | (apply JO_ob; exact rfl; first | exact ob1 | exact Ob_call rfl (fun w hw => c77 _ _ _ w)) | ((first | apply b_ | apply a_ | apply i_); exact z_; intro _) | ((first | apply p_ | apply JO_yes | apply GC_t); exact z_) | (apply n_; exact z_) | (apply GC_f; exact z_) | (apply GX_block_on; exact z_) | (apply c_; exact z_; all_goals intro _))
  (first | exact GX_ex rfl rfl mem_ rfl | exact GX_exc rfl rfl mem_ rfl mem_ rfl)
theorem p74 (h : WkA All w a b c hs d e f k) : Pass w (.func (.func 74) #[wkV a b c d e f k] #[]) (fun x => .int .i64 x) (fun x => decide (0 ≤ x ∧ x ≤ k.beat.last)) :=
  ⟨74, [wkV a b c d e f k], [], rfl, inferInstance, fun x w' hk => c74 (h.keep hk) x⟩
theorem Ob_subw {b0 : World} {R : Rgs} {H : Hp} {fr : Slots} {dst : Option Nat} {g : Option (Nat × Bool)} {ty : TypeId} {ps : String} {af : Array Edge} {t yt : TypeId} {x y : Operand} {a b : Int} (hx : ev fr x = some (.int .i64 a)) (hy : ev fr y = some (.int .i64 b)) :
    Ob b0 R H ⟨dst, .binOp .sub t x y yt, ty, ps, af, g⟩ fr (.int .i64 (IntKind.i64.wrap (a - b))) := .pure fun w f hf => by
  rw [run_bin_int (hf x _ hx) (hf y _ hy)]; simp [binOp, Op.intArith, Result.andThen]
/-- How many boxes less one, as the machine says. -/
def boxW (k : Wk) : Int := IntKind.i64.wrap (k.boxes - 1)
theorem c124 (h : WkA All w a b c hs d e f k) (x : Int) : Ex 124 [wkV a b c d e f k, .int .i64 x] w (.bool (decide (0 ≤ x ∧ x ≤ boxW k))) := by
  have i1 := h.yard.fields.v1
  have i2 := h.yard.vats.arr.v1
  have i3 := h.yard.smps.v1
  have i4 := h.beat.vats.v1
  have i5 := h.beat.smps.v1
  have i6 := h.ends.v1
  refine Rt_of Tryz.func124 rfl Tryz.ntmps124 rfl ?_
  repeat' (first | apply s_ | (apply JO_ob; exact rfl; first | exact ob1 | exact Ob_subw rfl rfl | exact Ob_call rfl (fun w hw => c77 _ _ _ w)) | ((first | apply b_ | apply a_ | apply i_); exact z_; intro _) | ((first | apply p_ | apply JO_yes | apply GC_t); exact z_) | (apply n_; exact z_) | (apply GC_f; exact z_) | (apply GX_block_on; exact z_) | (apply c_; exact z_; all_goals intro _))
  (first | exact GX_ex rfl rfl mem_ rfl | exact GX_exc rfl rfl mem_ rfl mem_ rfl)
theorem p124 (h : WkA All w a b c hs d e f k) : Pass w (.func (.func 124) #[wkV a b c d e f k] #[]) (fun x => .int .i64 x) (fun x => decide (0 ≤ x ∧ x ≤ boxW k)) :=
  ⟨124, [wkV a b c d e f k], [], rfl, inferInstance, fun x w' hk => c124 (h.keep hk) x⟩
/-- A list is a plan, as the machine says. -/
def planP (k : Wk) (l : List Int) : Bool := l.all (fun x => decide (0 ≤ x ∧ x ≤ boxW k)) && decide (l.length = k.yard.vats.length)
theorem planP_eq {k : Wk} (h : 1 ≤ k.boxes ∧ k.boxes ≤ 3) (l : List Int) : planP k l = isPlan k l := by
  have : boxW k = k.boxes - 1 := wrap_fits (by omega) (by omega)
  simp only [planP, isPlan, this]
theorem c89 (h : WkA All w a b c hs d e f k) {v : Value} {l : List Int} (hl : Arr All w 1 encI v l) : Ex 89 [wkV a b c d e f k, v] w (.bool (planP k l)) := by
  have i1 := h.yard.fields.v1
  have i2 := h.yard.vats.arr.v1
  have i3 := h.yard.smps.v1
  have i4 := h.beat.vats.v1
  have i5 := h.beat.smps.v1
  have i6 := h.ends.v1
  have i7 := hl.v1
  have b1 := hl.bound
  refine Rt_of Tryz.func89 rfl Tryz.ntmps89 rfl ?_
  by_cases hle : l.length = k.yard.vats.length
  · repeat' (first | apply s_ | (apply JO_ob; exact rfl; first | exact ob1 | exact Ob_makeFuncR rfl rfl | exact Ob_call rfl (fun w hw => c75w (hw.wk mem_ h)) | exact Ob_call rfl (fun w5 hw5 => c76 v _ l (fun x => decide (0 ≤ x ∧ x ≤ boxW k)) w5 (hw5.arr mem_ hl) (p124 (hw5.wk mem_ h)))) | ((first | apply b_ | apply a_ | apply i_); exact z_; intro _) | ((first | apply p_ | apply JO_yes | apply GC_t); exact z_) | (apply n_; exact z_) | (apply GC_f; exact z_) | (apply GX_block_on; exact z_) | (apply c_; exact z_; all_goals intro _))
    refine GX_ex rfl rfl mem_ ?_
    simp [planP, hle]
  · repeat' (first | apply s_ | (apply JO_ob; exact rfl; first | exact ob1 | exact Ob_makeFuncR rfl rfl | exact Ob_call rfl (fun w hw => c75w (hw.wk mem_ h))) | ((first | apply b_ | apply a_ | apply i_); exact z_; intro _) | ((first | apply p_ | apply JO_yes | apply GC_t); exact z_) | (apply n_; exact z_) | (apply GC_f; exact z_) | (apply GX_block_on; exact z_) | (apply c_; exact z_; all_goals intro _))
    refine GX_ex rfl rfl mem_ ?_
    simp [planP, hle]
theorem c79 (h : WkA All w a b c hs d e f k) (h30 : k.yard.fields.length ≤ 1000) : Rt 79 [wkV a b c d e f k] w fun r w' => Keep w w' ∧ Arr (New w) w' 2 encR r k.yard.fields := by
  have i1 := h.yard.fields.v1
  have i2 := h.yard.vats.arr.v1
  have i3 := h.yard.smps.v1
  have i4 := h.beat.vats.v1
  have i5 := h.beat.smps.v1
  have i6 := h.ends.v1
  have ha := h.yard.fields
  refine Rt_of Tryz.func79 rfl Tryz.ntmps79 rfl ?_
  repeat' (first | apply s_ | (apply JO_ob; exact rfl; first | exact ob1) | ((first | apply b_ | apply a_ | apply i_); exact z_; intro _) | ((first | apply p_ | apply JO_yes | apply GC_t); exact z_) | (apply n_; exact z_) | (apply GC_f; exact z_) | (apply GX_block_on; exact z_) | (apply c_; exact z_; all_goals intro _))
  refine GC_loop (α := Nat × Value × List Value) (fun s => k.yard.fields.length - s.1) (fun s => [(2, s.2.1), (7, a), (8, .int .i64 (k.yard.fields.length : Int)), (9, .int .i64 (s.1 : Int))]) (fun _ => [((fun _ => True), w)])
    (fun s => rowH s.2.1 59 ((k.yard.fields.take s.1).flatMap encR ++ s.2.2))
    (fun s => s.1 ≤ k.yard.fields.length ∧ Own 2 encR s.2.1 (k.yard.fields.take s.1) s.2.2) (0, .slice none 0 0, []) ⟨rfl, rfl, rfl, rfl, trivial⟩ ⟨Nat.zero_le _, Own.nil fun _ => rfl⟩ (fun w hw => hw.weak (fun r h => h) (List.nil_sublist _)) ?_
  rintro ⟨i, v1, s1⟩ ⟨hi, ho1⟩
  simp only at hi ho1 ⊢
  have j1 := ho1.v1
  by_cases hlt : i < k.yard.fields.length
  · repeat' (first | apply s_ | (apply JO_ob; exact rfl; first | exact ob1) | ((first | apply b_ | apply a_ | apply i_); exact z_; intro _) | ((first | apply p_ | apply JO_yes | apply GC_t); exact z_) | (apply n_; exact z_) | (apply GC_f; exact z_) | (apply GX_block_on; exact z_) | (apply c_; exact z_; all_goals intro _))
    refine JO_append (xs := k.yard.fields.take i) (ys := [nth k.yard.fields i]) [_, _] rfl rfl rfl ho1 (List.Perm.refl _) (fun w hw => hw.slOwn mem_ rfl) (by simp [encR, oneCell]) (by simp; omega) ?_
    intro v2 s2 ho2
    have j2 := ho2.v1
    rw [← take_snoc (by omega)] at ho2 ⊢
    repeat' (first | apply s_ | (apply JO_ob; exact rfl; first | exact ob1) | ((first | apply b_ | apply a_ | apply i_); exact z_; intro _) | ((first | apply p_ | apply JO_yes | apply GC_t); exact z_) | (apply n_; exact z_) | (apply GC_f; exact z_) | (apply GX_block_on; exact z_) | (apply c_; exact z_; all_goals intro _))
    exact GX_loop (i + 1, v2, s2) ⟨rfl, rfl, rfl, rfl, trivial⟩ (by simp only; omega) ⟨by simp only; omega, ho2⟩ fun w hw => hw.weak (fun r h => h) (List.Sublist.cons _ (List.Sublist.cons _ (List.Sublist.refl _)))
  · have hie : i = k.yard.fields.length := by omega
    rw [hie, List.take_length] at ho1 ⊢
    repeat' (first | apply s_ | (apply JO_ob; exact rfl; first | exact ob1) | ((first | apply b_ | apply a_ | apply i_); exact z_; intro _) | ((first | apply p_ | apply JO_yes | apply GC_t); exact z_) | (apply n_; exact z_) | (apply GC_f; exact z_) | (apply GX_block_on; exact z_) | (apply c_; exact z_; all_goals intro _))
    exact GX_ret1 rfl rfl fun w' hw' => ⟨hw'.kp mem_, ho1.ret (A := []) (by decide) hw' mem_⟩
theorem c80 (h : WkA All w a b c hs d e f k) (h30 : k.beat.vats.length ≤ 1000) : Rt 80 [wkV a b c d e f k] w fun r w' => Keep w w' ∧ Arr (New w) w' 2 encR r (btR k.beat) := by
  have i1 := h.yard.fields.v1
  have i2 := h.yard.vats.arr.v1
  have i3 := h.yard.smps.v1
  have i4 := h.beat.vats.v1
  have i5 := h.beat.smps.v1
  have i6 := h.ends.v1
  have ha := h.beat.vats
  let F : Nat → List Rg := fun i => k.beat.sun :: (k.beat.vats.take i).map rgV
  have hF : ∀ i, i < k.beat.vats.length → F (i + 1) = F i ++ [rgV (nth k.beat.vats i)] := fun i hi => by simp only [F]; rw [take_snoc hi]; simp
  have hFl : ∀ i, i ≤ k.beat.vats.length → (F i).length ≤ 2000 := fun i hi => by simp [F]; omega
  refine Rt_of Tryz.func80 rfl Tryz.ntmps80 rfl ?_
  repeat' (first | apply s_ | (apply JO_ob; exact rfl; first | exact ob1) | ((first | apply b_ | apply a_ | apply i_); exact z_; intro _) | ((first | apply p_ | apply JO_yes | apply GC_t); exact z_) | (apply n_; exact z_) | (apply GC_f; exact z_) | (apply GX_block_on; exact z_) | (apply c_; exact z_; all_goals intro _))
  rename_i p q
  refine GC_loop (α := Nat × Value × List Value) (fun s => k.beat.vats.length - s.1) (fun s => [(3, s.2.1), (18, d), (19, .int .i64 (k.beat.vats.length : Int)), (20, .int .i64 (s.1 : Int))]) (fun _ => [((fun _ => True), w)])
    (fun s => rowH s.2.1 59 ((F s.1).flatMap encR ++ s.2.2))
    (fun s => s.1 ≤ k.beat.vats.length ∧ Own 2 encR s.2.1 (F s.1) s.2.2) (0, .slice (some ⟨q, 0, none⟩) 1 1, []) ⟨rfl, rfl, rfl, rfl, trivial⟩ ⟨Nat.zero_le _, Own.lit _ (fun _ => rfl) rfl rfl⟩ (fun w hw => hw.weak (fun r h => h) sub_) ?_
  rintro ⟨i, v1, s1⟩ ⟨hi, ho1⟩
  simp only at hi ho1 ⊢
  have j1 := ho1.v1
  by_cases hlt : i < k.beat.vats.length
  · have hq := hFl i hi
    repeat' (first | apply s_ | (apply JO_ob; exact rfl; first | exact ob1) | ((first | apply b_ | apply a_ | apply i_); exact z_; intro _) | ((first | apply p_ | apply JO_yes | apply GC_t); exact z_) | (apply n_; exact z_) | (apply GC_f; exact z_) | (apply GX_block_on; exact z_) | (apply c_; exact z_; all_goals intro _))
    refine JO_append (xs := F i) (ys := [rgV (nth k.beat.vats i)]) [_, _] rfl rfl rfl ho1 (List.Perm.refl _) (fun w hw => hw.slOwn mem_ rfl) (by simp [encR, oneCell]) (by simp; omega) ?_
    intro v2 s2 ho2
    have j2 := ho2.v1
    rw [← hF i hlt] at ho2 ⊢
    repeat' (first | apply s_ | (apply JO_ob; exact rfl; first | exact ob1) | ((first | apply b_ | apply a_ | apply i_); exact z_; intro _) | ((first | apply p_ | apply JO_yes | apply GC_t); exact z_) | (apply n_; exact z_) | (apply GC_f; exact z_) | (apply GX_block_on; exact z_) | (apply c_; exact z_; all_goals intro _))
    exact GX_loop (i + 1, v2, s2) ⟨rfl, rfl, rfl, rfl, trivial⟩ (by simp only; omega) ⟨by simp only; omega, ho2⟩ fun w hw => hw.weak (fun r h => h) (List.Sublist.cons _ (List.Sublist.cons _ (List.Sublist.refl _)))
  · have hie : i = k.beat.vats.length := by omega
    have hfe : F i = btR k.beat := by simp only [F, hie, List.take_length, btR]
    rw [hfe] at ho1 ⊢
    repeat' (first | apply s_ | (apply JO_ob; exact rfl; first | exact ob1) | ((first | apply b_ | apply a_ | apply i_); exact z_; intro _) | ((first | apply p_ | apply JO_yes | apply GC_t); exact z_) | (apply n_; exact z_) | (apply GC_f; exact z_) | (apply GX_block_on; exact z_) | (apply c_; exact z_; all_goals intro _))
    exact GX_ret1 rfl rfl fun w' hw' => ⟨hw'.kp mem_, ho1.ret (A := []) (by decide) hw' mem_⟩
end
end Go.Proofs.YtkbaaikidhbfmaaGreat
