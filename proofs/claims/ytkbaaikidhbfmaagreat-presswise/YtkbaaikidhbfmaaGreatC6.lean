/- The law PressWise of the chapter 09 returns true for every input, and each argument reads afterwards as it read before. No condition. -/
import Derived.Test.YtkbaaikidhbfmaaGreatRows
import Derived.Test.YtkbaaikidhbfmaaGreatB5
/- The walk of the law PressWise. No statement is proved here. -/
set_option linter.unusedVariables false
set_option linter.unusedSimpArgs false
namespace Go.Proofs.YtkbaaikidhbfmaaGreat
open Go.RowKit
section
variable {w : World} {a b c d e f : Value} {hs : List Value} {k : Wk}
set_option maxHeartbeats 1000000 in
theorem law6 (h : WkA All w a b c hs d e f k) : Ex 6 [wkV a b c d e f k] w (.bool true) := by
  have i1 := h.yard.fields.v1
  have i2 := h.yard.vats.arr.v1
  have i3 := h.yard.smps.v1
  have i4 := h.beat.vats.v1
  have i5 := h.beat.smps.v1
  have i6 := h.ends.v1
  refine Rt_of Tryz.func6 rfl Tryz.ntmps6 rfl ?_
  cases ht : thinW k
  · repeat' (first | apply s_ | (apply JO_ob; exact rfl; first | exact ob1 | exact Ob_call rfl (fun w5 hw5 => c20F (hw5.wk mem_ h) ht) | exact Ob_call rfl (fun w5 _ => c21 w5)) | ((first | apply b_ | apply a_ | apply i_); exact z_; intro _) | ((first | apply p_ | apply JO_yes | apply GC_t); exact z_) | (apply n_; exact z_) | (apply GC_f; exact z_) | (apply GX_block_on; exact z_))
    exact GX_ex rfl rfl mem_ rfl
  repeat' (first | apply s_ | (apply JO_ob; exact rfl; first | exact ob1 | exact Ob_call rfl (fun w5 hw5 => c20T (hw5.wk mem_ h) ht)) | ((first | apply b_ | apply a_ | apply i_); exact z_; intro _) | ((first | apply p_ | apply JO_yes | apply GC_t); exact z_) | (apply n_; exact z_) | (apply GC_f; exact z_) | (apply GX_block_on; exact z_))
  rename_i p1
  refine JO_call (S := TwoW k) rfl rfl (fun w5 hw5 => c23W (hw5.wk mem_ h) ht) ?_
  rintro _ ua0 ub0 ha0 hb0 hk0 ⟨a0, b0, c0, hs0, d0, e0, f0, rfl, hW0⟩
  have iw01 := hW0.yard.fields.v1
  have iw02 := hW0.yard.vats.arr.v1
  have iw03 := hW0.yard.smps.v1
  have iw04 := hW0.beat.vats.v1
  have iw05 := hW0.beat.smps.v1
  have iw06 := hW0.ends.v1
  by_cases hf : fault9 k = 0
  · have hK := okK_of hf
    have v3 := hK.v3
    have ew := wise_eq hK
    repeat' (first | apply s_ | (apply JO_ob; exact rfl; first | exact ob1) | ((first | apply b_ | apply a_ | apply i_); exact z_; intro _) | ((first | apply p_ | apply JO_yes | apply GC_t); exact z_) | (apply n_; exact z_) | (apply GC_f; exact z_) | (apply GX_block_on; exact z_))
    refine JO_call (S := IntsW (wiseV k)) rfl rfl (fun w5 hw5 => c39F (upk hw5 (.head _) hW0) hf) ?_
    rintro _ uc1 ud1 hc1 hd1 hl1 ⟨r0, rfl, hr0⟩
    have ir0 := hr0.v1
    rw [ew] at hr0
    repeat' (first | apply s_ | (apply JO_ob; exact rfl; first | exact ob1) | ((first | apply b_ | apply a_ | apply i_); exact z_; intro _) | ((first | apply p_ | apply JO_yes | apply GC_t); exact z_) | (apply n_; exact z_) | (apply GC_f; exact z_) | (apply GX_block_on; exact z_))
    refine JO_call (S := fun w0 v w1 => ∃ u es, v = .tuple #[u, .int .i64 0] ∧ PNest (New w0) w1 u es (pairs k)) rfl rfl (fun w5 hw5 => (c24 (hw5.wk mem_ h) true).mono fun v w6 ⟨kp, g⟩ => ⟨kp, ?_⟩) ?_
    · rcases g with g | g | g
      · exact absurd hf g.1
      · cases g.2.1
      · exact g.2.2
    rintro _ u4 u5 hu4 hu5 hk2 ⟨av, es, rfl, hP⟩
    have iav := hP.arr.v1
    repeat' (first | apply s_ | (apply JO_ob; exact rfl; first | exact ob1) | ((first | apply b_ | apply a_ | apply i_); exact z_; intro _) | ((first | apply p_ | apply JO_yes | apply GC_t); exact z_) | (apply n_; exact z_) | (apply GC_f; exact z_) | (apply GX_block_on; exact z_))
    refine JO_call (S := ListW (wiseR k)) rfl rfl (fun w5 hw5 => c41 (hw5.wk mem_ h) hK (pn_up hw5 mem_ hP)) ?_
    rintro _ uc3 ud3 hc3 hd3 hl3 hq
    have iq := hq.v1
    repeat' (first | apply s_ | (apply JO_ob; exact rfl; first | exact ob1 | exact Ob_call rfl (fun w5 hw5 => c40T w5 _ _ _ (up hw5 mem_ hr0) (up hw5 mem_ hq)) | exact Ob_call rfl (fun w5 _ => c21 w5)) | ((first | apply b_ | apply a_ | apply i_); exact z_; intro _) | ((first | apply p_ | apply JO_yes | apply GC_t); exact z_) | (apply n_; exact z_) | (apply GC_f; exact z_) | (apply GX_block_on; exact z_))
    exact GX_ex rfl rfl mem_ rfl
  · repeat' (first | apply s_ | (apply JO_ob; exact rfl; first | exact ob1) | ((first | apply b_ | apply a_ | apply i_); exact z_; intro _) | ((first | apply p_ | apply JO_yes | apply GC_t); exact z_) | (apply n_; exact z_) | (apply GC_f; exact z_) | (apply GX_block_on; exact z_))
    refine JO_call (S := fun w0 v w1 => ∃ u l0, v = .tuple #[u, .int .i64 (fault9 k)] ∧ l0.length = 0 ∧ Arr (New w0) w1 1 encI u l0) rfl rfl (fun w5 hw5 => (c39 (upk hw5 (.head _) hW0)).mono fun v w6 ⟨kp, g⟩ => ⟨kp, ?_⟩) ?_
    · rw [if_pos hf] at g; obtain ⟨u, e, g⟩ := g; exact ⟨u, [], e, rfl, g⟩
    rintro _ u2 u3 hu2 hu3 hk1 ⟨r0, l0, rfl, hl0, hr0⟩
    have ir0 := hr0.v1
    repeat' (first | apply s_ | (apply JO_ob; exact rfl; first | exact ob1) | ((first | apply b_ | apply a_ | apply i_); exact z_; intro _) | ((first | apply p_ | apply JO_yes | apply GC_t); exact z_) | (apply n_; exact z_) | (apply GC_f; exact z_) | (apply GX_block_on; exact z_))
    refine JO_call (S := fun w0 v w1 => v = .tuple #[.slice none 0 0, .int .i64 (fault9 k)]) rfl rfl (fun w5 hw5 => (c24 (hw5.wk mem_ h) true).mono fun v w6 ⟨kp, g⟩ => ⟨kp, ?_⟩) ?_
    · rcases g with g | g | g
      · exact g.2
      · exact absurd g.1 hf
      · exact absurd g.1 hf
    rintro _ u6 u7 hu6 hu7 hk3 rfl
    repeat' (first | apply s_ | (apply JO_ob; exact rfl; first | exact ob1 | exact Ob_call rfl (fun w5 _ => c21 w5)) | ((first | apply b_ | apply a_ | apply i_); exact z_; intro _) | ((first | apply p_ | apply JO_yes | apply GC_t); exact z_) | (apply n_; exact z_) | (apply GC_f; exact z_) | (apply GX_block_on; exact z_))
    exact GX_ex rfl rfl mem_ rfl
end
end Go.Proofs.YtkbaaikidhbfmaaGreat
/- The law PressWise of the chapter 09 returns true for every input, and each argument reads afterwards as it read before. No condition. -/
set_option linter.unusedVariables false
namespace Go.Proofs.YtkbaaikidhbfmaaGreat.pressWise
open Go.ChangeShapes Go.WideShapes Go.ChangeAt Go.RowKit
theorem own : ownKnob Tryz.prog.godebug = none := by kernel_rfl
theorem laidOut : laidOutB Tryz.prog = true := by kernel_rfl
set_option maxRecDepth 100000 in
theorem lifted (os : Os) (started : os.Started) (H : Type) (enc : TypeId × Value → H) :
    ReturnsInHanded {} Tryz.checked os 6 .any (Rows.pressWiseSpec.pre6 enc Tryz.prog Tryz.f6 Rows.pressWiseRow.domain false) (Rows.pressWiseSpec.post enc Tryz.prog Tryz.f6 false true false false) := by
  refine returnsInHanded_of_change_sized (C := Tryz.checked) own started (by kernel_rfl) Tryz.func6
    (ChangeSpec.witness6 (enc := enc) (C := Tryz.checked) false ⟨#[], #[.agg #[.slice none 0 0, .slice none 0 0, .slice none 0 0, .int .i64 0, .int .i64 0, .slice none 0 0, .int .i64 0, .slice none 0 0, .slice none 0 0, .int .i64 0, .int .i64 0, .int .i64 0, .int .i64 0]], []⟩ 8 (by kernel_rfl) (by kernel_rfl) (by kernel_rfl) (by kernel_rfl)) ?_
  intro W base args ds gs before hval0 hW hcnd hsz0 _
  have hval : ∀ (j : Nat) t v, Tryz.f6.params[j]? = some t → args[j]? = some v → Value.okWide Tryz.prog W .any base t v := hval0
  have hW1 := hW
  obtain ⟨p, q, hA0, hV, rfl, hfz, hnd⟩ := hW
  have hA : DataW.TrodAll enc Tryz.prog W 0 (fun _ => true) true Tryz.f6.params.toList args.toList ds p := hA0
  rw [Tryz.params6] at hA hval
  obtain ⟨v0, vs0, d0, ds0, p0, q0, hargs, rfl, rfl, h0, r0⟩ := trodAll_cons hA
  obtain ⟨rfl, rfl, rfl⟩ := trodAll_nil r0
  obtain rfl : args = #[v0] := by cases args; simp_all
  obtain ⟨rfl, rfl⟩ := trodVars_none hV
  have k0 := h0
  have lt0 : ∀ x ∈ p0, x.block < W.heap.size := by obtain ⟨m, hm⟩ := k0; exact DataW.trod_lt m _ _ _ hm
  obtain ⟨xa, xb, xc, hs, xd, xe, xf, kk, rfl, hK⟩ := open_works (hval 0 35 v0 rfl rfl) h0
  clear hA0 hval0 hsz0
  refine (callsIn_wide.1 (law6 hK)).mono fun e W1 ⟨v, he, hv, bel⟩ => ?_
  subst he
  subst hv
  exact ⟨_, rfl, _, _, _, [], _, [], hW1, trodAll_mk1 (shut_bool Tryz.underlying4 _), (trodAll_cons_mk (Below.trod laidOut (by kernel_rfl) (of_decide_eq_true (by kernel_rfl)) k0 bel lt0) trodAll_mk0), rfl, bel.frame _, fun h => by cases h⟩
theorem over : Rows.pressWiseRow.holds Tryz.pinned (OpenSpec.ofChange Rows.pressWiseSpec) :=
  OpenClaim.holds_of_wide 6 Tryz.f6 rfl rfl rfl rfl rfl rfl rfl ⟨rfl, rfl, rfl, rfl, rfl⟩ rfl rfl rfl rfl rfl (by kernel_rfl) Tryz.func6 (by kernel_rfl)
    (of_decide_eq_true (by kernel_rfl)) (by unfold Func.isWrapper; first | (rw [if_pos (by decide +kernel)]; kernel_rfl) | (rw [if_neg (by decide +kernel)]; exact ⟨rfl, rfl⟩))
    (fun os started H enc _ => lifted os started H enc)
end Go.Proofs.YtkbaaikidhbfmaaGreat.pressWise
namespace Go.Proofs.YtkbaaikidhbfmaaGreat
theorem pressWise_holds : Rows.PressWiseSaid := pressWise.over
end Go.Proofs.YtkbaaikidhbfmaaGreat
