/- The law PressMuds of the chapter 09 returns true for every input, and each argument reads afterwards as it read before. No condition. -/
import Derived.Test.YtkbaaikidhbfmaaGreatRows
import Derived.Test.YtkbaaikidhbfmaaGreatB5
/- The walk of the law PressMuds. No statement is proved here. -/
set_option linter.unusedVariables false
set_option linter.unusedSimpArgs false
namespace Go.Proofs.YtkbaaikidhbfmaaGreat
open Go.RowKit
section
variable {w : World} {a b c d e f : Value} {hs : List Value} {k : Wk}
set_option maxHeartbeats 1000000 in
theorem law3 (h : WkA All w a b c hs d e f k) : Ex 3 [wkV a b c d e f k] w (.bool true) := by
  have i1 := h.yard.fields.v1
  have i2 := h.yard.vats.arr.v1
  have i3 := h.yard.smps.v1
  have i4 := h.beat.vats.v1
  have i5 := h.beat.smps.v1
  have i6 := h.ends.v1
  refine Rt_of Tryz.func3 rfl Tryz.ntmps3 rfl ?_
  cases ht : thinW k
  · repeat' (first | apply s_ | ((first | apply JO_ob | apply GD_ex | apply GL_ex); exact rfl; first | exact ob1 | exact Ob_call rfl (fun w5 hw5 => c20F (hw5.wk mem_ h) ht) | exact Ob_call rfl (fun w5 _ => c21 w5)) | ((first | apply b_ | apply a_ | apply i_); exact z_; intro _) | ((first | apply p_ | apply JO_yes | apply GC_t); exact z_) | (apply n_; exact z_) | (apply GC_f; exact z_) | (apply GX_block_on; exact z_) | refine GC_drawA (id := 14) [0, 1, 2, 3, 4, 5, 6, 7, 8, 9] [] (by kernel_rfl) ?_ | ((first | apply GD_at | apply GL_at | apply GD_no | apply GL_no); exact rfl) | apply DFin_0 | (apply q1_; exact z_) | (apply q0_; exact z_) | (apply q2_; exact z_))
    exact GX_ex rfl rfl mem_ rfl
  repeat' (first | apply s_ | ((first | apply JO_ob | apply GD_ex | apply GL_ex); exact rfl; first | exact ob1 | exact Ob_call rfl (fun w5 hw5 => c20T (hw5.wk mem_ h) ht)) | ((first | apply b_ | apply a_ | apply i_); exact z_; intro _) | ((first | apply p_ | apply JO_yes | apply GC_t); exact z_) | (apply n_; exact z_) | (apply GC_f; exact z_) | (apply GX_block_on; exact z_) | refine GC_drawA (id := 14) [0, 1, 2, 3, 4, 5, 6, 7, 8, 9] [] (by kernel_rfl) ?_ | ((first | apply GD_at | apply GL_at | apply GD_no | apply GL_no); exact rfl) | apply DFin_0 | (apply q1_; exact z_) | (apply q0_; exact z_) | (apply q2_; exact z_))
  rename_i p1
  refine JO_call (S := TwoW k) rfl rfl (fun w5 hw5 => c23W (hw5.wk mem_ h) ht) ?_
  rintro _ u0 u1 hu0 hu1 hk0 ⟨a0, b0, c0, hs0, d0, e0, f0, rfl, hW0⟩
  have ia0 := hW0.yard.fields.v1
  have ib0 := hW0.yard.vats.arr.v1
  have ic0 := hW0.yard.smps.v1
  have id0 := hW0.beat.vats.v1
  have ie0 := hW0.beat.smps.v1
  have if0 := hW0.ends.v1
  by_cases hf : fault9 k = 0
  · have hK := okK_of hf
    have v3 := hK.v3
    repeat' (first | apply s_ | ((first | apply JO_ob | apply GD_ex | apply GL_ex); exact rfl; first | exact ob1) | ((first | apply b_ | apply a_ | apply i_); exact z_; intro _) | ((first | apply p_ | apply JO_yes | apply GC_t); exact z_) | (apply n_; exact z_) | (apply GC_f; exact z_) | (apply GX_block_on; exact z_) | refine GC_drawA (id := 14) [0, 1, 2, 3, 4, 5, 6, 7, 8, 9] [] (by kernel_rfl) ?_ | ((first | apply GD_at | apply GL_at | apply GD_no | apply GL_no); exact rfl) | apply DFin_0 | (apply q1_; exact z_) | (apply q0_; exact z_) | (apply q2_; exact z_))
    refine JO_call (S := RgsW (mudsV k fun m => m)) rfl rfl (fun w5 hw5 => c22F (upk hw5 (.head _) hW0) hf) ?_
    rintro _ u2 u3 hu2 hu3 hk1 ⟨rv, rfl, hrv⟩
    have irv := hrv.v1
    have brv := hrv.bound
    have lrv := mudsV_len k fun m => m
    repeat' (first | apply s_ | ((first | apply JO_ob | apply GD_ex | apply GL_ex); exact rfl; first | exact ob1) | ((first | apply b_ | apply a_ | apply i_); exact z_; intro _) | ((first | apply p_ | apply JO_yes | apply GC_t); exact z_) | (apply n_; exact z_) | (apply GC_f; exact z_) | (apply GX_block_on; exact z_) | refine GC_drawA (id := 14) [0, 1, 2, 3, 4, 5, 6, 7, 8, 9] [] (by kernel_rfl) ?_ | ((first | apply GD_at | apply GL_at | apply GD_no | apply GL_no); exact rfl) | apply DFin_0 | (apply q1_; exact z_) | (apply q0_; exact z_) | (apply q2_; exact z_))
    refine JO_call (S := fun w0 v w1 => ∃ u es, v = .tuple #[u, .int .i64 0] ∧ PNest (New w0) w1 u es (pairs k)) rfl rfl (fun w5 hw5 => (c24 (hw5.wk mem_ h) true).mono fun v w6 ⟨kp, g⟩ => ⟨kp, ?_⟩) ?_
    · rcases g with g | g | g
      · exact absurd hf g.1
      · cases g.2.1
      · exact g.2.2
    rintro _ u4 u5 hu4 hu5 hk2 ⟨av, es, rfl, hP⟩
    have iav := hP.arr.v1
    repeat' (first | apply s_ | ((first | apply JO_ob | apply GD_ex | apply GL_ex); exact rfl; first | exact ob1) | ((first | apply b_ | apply a_ | apply i_); exact z_; intro _) | ((first | apply p_ | apply JO_yes | apply GC_t); exact z_) | (apply n_; exact z_) | (apply GC_f; exact z_) | (apply GX_block_on; exact z_) | refine GC_drawA (id := 14) [0, 1, 2, 3, 4, 5, 6, 7, 8, 9] [] (by kernel_rfl) ?_ | ((first | apply GD_at | apply GL_at | apply GD_no | apply GL_no); exact rfl) | apply DFin_0 | (apply q1_; exact z_) | (apply q0_; exact z_) | (apply q2_; exact z_))
    refine JO_call (S := TwoW k) rfl rfl (fun w5 hw5 => c23W (hw5.wk mem_ h) ht) ?_
    rintro _ u6 u7 hu6 hu7 hk3 ⟨a1, b1, c1, hs1, d1, e1, f1, rfl, hW1⟩
    have ia1 := hW1.yard.fields.v1
    have ib1 := hW1.yard.vats.arr.v1
    have ic1 := hW1.yard.smps.v1
    have id1 := hW1.beat.vats.v1
    have ie1 := hW1.beat.smps.v1
    have if1 := hW1.ends.v1
    repeat' (first | apply s_ | ((first | apply JO_ob | apply GD_ex | apply GL_ex); exact rfl; first | exact ob1 | exact Ob_call rfl (fun w5 hw5 => c25F (upk hw5 (.head _) hW1) hf) | exact Ob_call rfl (fun w5 hw5 => c26W (hw5.wk mem_ h))) | ((first | apply b_ | apply a_ | apply i_); exact z_; intro _) | ((first | apply p_ | apply JO_yes | apply GC_t); exact z_) | (apply n_; exact z_) | (apply GC_f; exact z_) | (apply GX_block_on; exact z_) | refine GC_drawA (id := 14) [0, 1, 2, 3, 4, 5, 6, 7, 8, 9] [] (by kernel_rfl) ?_ | ((first | apply GD_at | apply GL_at | apply GD_no | apply GL_no); exact rfl) | apply DFin_0 | (apply q1_; exact z_) | (apply q0_; exact z_) | (apply q2_; exact z_))
    refine GC_loop (α := Nat) (fun i => k.yard.vats.length - i) (fun i => [(1, pt p1), (3, rv), (5, av), (7, .int .i64 (i : Int))]) (fun _ => [(fun b => u4.heap.size ≤ b, u5), (fun b => u2.heap.size ≤ b, u3), ((fun _ => True), w)])
      (fun i => [(p1, .cells (wkC a b c d e f k).toArray 35)]) (fun i => i ≤ k.yard.vats.length) 0 ⟨rfl, rfl, rfl, rfl, trivial⟩ (Nat.zero_le _) (fun w hw => hw.weak (fun r h => by simp only [List.mem_cons, List.not_mem_nil, or_false] at h ⊢; rcases h with h | h | h <;> simp [h]) (List.Sublist.refl _)) ?_
    intro i hi
    by_cases hlt : i < k.yard.vats.length
    · have hlr : i < (mudsV k fun m => m).length := by omega
      repeat' (first | apply s_ | ((first | apply JO_ob | apply GD_ex | apply GL_ex); exact rfl; first | exact ob1 | exact Ob_call rfl (fun w5 hw5 => c28V (hw5.wk mem_ h) hK ⟨hP.len, up hw5 mem_ hP.arr, fun i hi => ⟨up hw5 mem_ (hP.row i hi).1, (hP.row i hi).2.1, up hw5 mem_ (hP.row i hi).2.2⟩⟩ hlt) | exact Ob_call rfl (fun w5 _ => c27 _ _ w5) | exact Ob_neR rfl rfl rfl rfl) | ((first | apply b_ | apply a_ | apply i_); exact z_; intro _) | ((first | apply p_ | apply JO_yes | apply GC_t); exact z_) | (apply n_; exact z_) | (apply GC_f; exact z_) | (apply GX_block_on; exact z_) | refine GC_drawA (id := 14) [0, 1, 2, 3, 4, 5, 6, 7, 8, 9] [] (by kernel_rfl) ?_ | ((first | apply GD_at | apply GL_at | apply GD_no | apply GL_no); exact rfl) | apply DFin_0 | (apply q1_; exact z_) | (apply q0_; exact z_) | (apply q2_; exact z_))
      exact GX_loop (i + 1) ⟨rfl, rfl, rfl, rfl, trivial⟩ (by omega) (by omega) (fun w hw => hw)
    · repeat' (first | apply s_ | ((first | apply JO_ob | apply GD_ex | apply GL_ex); exact rfl; first | exact ob1 | exact Ob_call rfl (fun w5 _ => c21 w5)) | ((first | apply b_ | apply a_ | apply i_); exact z_; intro _) | ((first | apply p_ | apply JO_yes | apply GC_t); exact z_) | (apply n_; exact z_) | (apply GC_f; exact z_) | (apply GX_block_on; exact z_) | refine GC_drawA (id := 14) [0, 1, 2, 3, 4, 5, 6, 7, 8, 9] [] (by kernel_rfl) ?_ | ((first | apply GD_at | apply GL_at | apply GD_no | apply GL_no); exact rfl) | apply DFin_0 | (apply q1_; exact z_) | (apply q0_; exact z_) | (apply q2_; exact z_))
      exact GX_ex rfl rfl mem_ rfl
  · repeat' (first | apply s_ | ((first | apply JO_ob | apply GD_ex | apply GL_ex); exact rfl; first | exact ob1) | ((first | apply b_ | apply a_ | apply i_); exact z_; intro _) | ((first | apply p_ | apply JO_yes | apply GC_t); exact z_) | (apply n_; exact z_) | (apply GC_f; exact z_) | (apply GX_block_on; exact z_) | refine GC_drawA (id := 14) [0, 1, 2, 3, 4, 5, 6, 7, 8, 9] [] (by kernel_rfl) ?_ | ((first | apply GD_at | apply GL_at | apply GD_no | apply GL_no); exact rfl) | apply DFin_0 | (apply q1_; exact z_) | (apply q0_; exact z_) | (apply q2_; exact z_))
    refine JO_call (S := fun w0 v w1 => v = .tuple #[.slice none 0 0, .int .i64 (fault9 k)]) rfl rfl (fun w5 hw5 => (c22 (upk hw5 (.head _) hW0)).mono fun v w6 ⟨kp, g⟩ => ⟨kp, ?_⟩) ?_
    · rcases g with g | g
      · exact g.2
      · exact absurd g.1 hf
    rintro _ u2 u3 hu2 hu3 hk1 rfl
    repeat' (first | apply s_ | ((first | apply JO_ob | apply GD_ex | apply GL_ex); exact rfl; first | exact ob1) | ((first | apply b_ | apply a_ | apply i_); exact z_; intro _) | ((first | apply p_ | apply JO_yes | apply GC_t); exact z_) | (apply n_; exact z_) | (apply GC_f; exact z_) | (apply GX_block_on; exact z_) | refine GC_drawA (id := 14) [0, 1, 2, 3, 4, 5, 6, 7, 8, 9] [] (by kernel_rfl) ?_ | ((first | apply GD_at | apply GL_at | apply GD_no | apply GL_no); exact rfl) | apply DFin_0 | (apply q1_; exact z_) | (apply q0_; exact z_) | (apply q2_; exact z_))
    refine JO_call (S := fun w0 v w1 => v = .tuple #[.slice none 0 0, .int .i64 (fault9 k)]) rfl rfl (fun w5 hw5 => (c24 (hw5.wk mem_ h) true).mono fun v w6 ⟨kp, g⟩ => ⟨kp, ?_⟩) ?_
    · rcases g with g | g | g
      · exact g.2
      · exact absurd g.1 hf
      · exact absurd g.1 hf
    rintro _ u4 u5 hu4 hu5 hk2 rfl
    repeat' (first | apply s_ | ((first | apply JO_ob | apply GD_ex | apply GL_ex); exact rfl; first | exact ob1) | ((first | apply b_ | apply a_ | apply i_); exact z_; intro _) | ((first | apply p_ | apply JO_yes | apply GC_t); exact z_) | (apply n_; exact z_) | (apply GC_f; exact z_) | (apply GX_block_on; exact z_) | refine GC_drawA (id := 14) [0, 1, 2, 3, 4, 5, 6, 7, 8, 9] [] (by kernel_rfl) ?_ | ((first | apply GD_at | apply GL_at | apply GD_no | apply GL_no); exact rfl) | apply DFin_0 | (apply q1_; exact z_) | (apply q0_; exact z_) | (apply q2_; exact z_))
    refine JO_call (S := TwoW k) rfl rfl (fun w5 hw5 => c23W (hw5.wk mem_ h) ht) ?_
    rintro _ u6 u7 hu6 hu7 hk3 ⟨a1, b1, c1, hs1, d1, e1, f1, rfl, hW1⟩
    have ia1 := hW1.yard.fields.v1
    have ib1 := hW1.yard.vats.arr.v1
    have ic1 := hW1.yard.smps.v1
    have id1 := hW1.beat.vats.v1
    have ie1 := hW1.beat.smps.v1
    have if1 := hW1.ends.v1
    repeat' (first | apply s_ | ((first | apply JO_ob | apply GD_ex | apply GL_ex); exact rfl; first | exact ob1 | exact Ob_call rfl (fun w5 hw5 => c25 (upk hw5 (.head _) hW1)) | exact Ob_call rfl (fun w5 _ => c21 w5)) | ((first | apply b_ | apply a_ | apply i_); exact z_; intro _) | ((first | apply p_ | apply JO_yes | apply GC_t); exact z_) | (apply n_; exact z_) | (apply GC_f; exact z_) | (apply GX_block_on; exact z_) | refine GC_drawA (id := 14) [0, 1, 2, 3, 4, 5, 6, 7, 8, 9] [] (by kernel_rfl) ?_ | ((first | apply GD_at | apply GL_at | apply GD_no | apply GL_no); exact rfl) | apply DFin_0 | (apply q1_; exact z_) | (apply q0_; exact z_) | (apply q2_; exact z_))
    exact GX_ex rfl rfl mem_ rfl
end
end Go.Proofs.YtkbaaikidhbfmaaGreat
/- The law PressMuds of the chapter 09 returns true for every input, and each argument reads afterwards as it read before. No condition. -/
set_option linter.unusedVariables false
namespace Go.Proofs.YtkbaaikidhbfmaaGreat.pressMuds
open Go.ChangeShapes Go.WideShapes Go.ChangeAt Go.RowKit
theorem own : ownKnob Tryz.prog.godebug = none := by kernel_rfl
theorem laidOut : laidOutB Tryz.prog = true := by kernel_rfl
set_option maxRecDepth 100000 in
theorem lifted (os : Os) (started : os.Started) (H : Type) (enc : TypeId × Value → H) :
    ReturnsInHanded {} Tryz.checked os 3 .any (Rows.pressMudsSpec.pre6 enc Tryz.prog Tryz.f3 Rows.pressMudsRow.domain false) (Rows.pressMudsSpec.post enc Tryz.prog Tryz.f3 false true false false) := by
  refine returnsInHanded_of_change_sized (C := Tryz.checked) own started (by kernel_rfl) Tryz.func3
    (ChangeSpec.witness6 (enc := enc) (C := Tryz.checked) false ⟨#[], #[.agg #[.slice none 0 0, .slice none 0 0, .slice none 0 0, .int .i64 0, .int .i64 0, .slice none 0 0, .int .i64 0, .slice none 0 0, .slice none 0 0, .int .i64 0, .int .i64 0, .int .i64 0, .int .i64 0]], []⟩ 8 (by kernel_rfl) (by kernel_rfl) (by kernel_rfl) (by kernel_rfl)) ?_
  intro W base args ds gs before hval0 hW hcnd hsz0 _
  have hval : ∀ (j : Nat) t v, Tryz.f3.params[j]? = some t → args[j]? = some v → Value.okWide Tryz.prog W .any base t v := hval0
  have hW1 := hW
  obtain ⟨p, q, hA0, hV, rfl, hfz, hnd⟩ := hW
  have hA : DataW.TrodAll enc Tryz.prog W 0 (fun _ => true) true Tryz.f3.params.toList args.toList ds p := hA0
  rw [Tryz.params3] at hA hval
  obtain ⟨v0, vs0, d0, ds0, p0, q0, hargs, rfl, rfl, h0, r0⟩ := trodAll_cons hA
  obtain ⟨rfl, rfl, rfl⟩ := trodAll_nil r0
  obtain rfl : args = #[v0] := by cases args; simp_all
  obtain ⟨rfl, rfl⟩ := trodVars_none hV
  have k0 := h0
  have lt0 : ∀ x ∈ p0, x.block < W.heap.size := by obtain ⟨m, hm⟩ := k0; exact DataW.trod_lt m _ _ _ hm
  obtain ⟨xa, xb, xc, hs, xd, xe, xf, kk, rfl, hK⟩ := open_works (hval 0 35 v0 rfl rfl) h0
  clear hA0 hval0 hsz0
  refine (callsIn_wide.1 (law3 hK)).mono fun e W1 ⟨v, he, hv, bel⟩ => ?_
  subst he
  subst hv
  exact ⟨_, rfl, _, _, _, [], _, [], hW1, trodAll_mk1 (shut_bool Tryz.underlying4 _), (trodAll_cons_mk (Below.trod laidOut (by kernel_rfl) (of_decide_eq_true (by kernel_rfl)) k0 bel lt0) trodAll_mk0), rfl, bel.frame _, fun h => by cases h⟩
theorem over : Rows.pressMudsRow.holds Tryz.pinned (OpenSpec.ofChange Rows.pressMudsSpec) :=
  OpenClaim.holds_of_wide 3 Tryz.f3 rfl rfl rfl rfl rfl rfl rfl ⟨rfl, rfl, rfl, rfl, rfl⟩ rfl rfl rfl rfl rfl (by kernel_rfl) Tryz.func3 (by kernel_rfl)
    (of_decide_eq_true (by kernel_rfl)) (by unfold Func.isWrapper; first | (rw [if_pos (by decide +kernel)]; kernel_rfl) | (rw [if_neg (by decide +kernel)]; exact ⟨rfl, rfl⟩))
    (fun os started H enc _ => lifted os started H enc)
end Go.Proofs.YtkbaaikidhbfmaaGreat.pressMuds
namespace Go.Proofs.YtkbaaikidhbfmaaGreat
theorem pressMuds_holds : Rows.PressMudsSaid := pressMuds.over
end Go.Proofs.YtkbaaikidhbfmaaGreat
