/- The law PressLossless of the chapter 09 returns true for every input, and each argument reads afterwards as it read before. No condition. -/
import Derived.Test.YtkbaaikidhbfmaaGreatB5
/- A list that is copied, with its block; regions far behind. No statement is proved here. -/
set_option linter.unusedVariables false
set_option linter.unusedSimpArgs false
namespace Go.Proofs.YtkbaaikidhbfmaaGreat
open Go.RowKit
theorem mm_ {α : Type} {x : α} {l : List α} (h : x ∈ l := by repeat (first | exact List.Mem.head _ | apply List.Mem.tail)) : x ∈ l := h
theorem c34o (v : Value) (xs : List Int) (w : World) (hA : Arr All w 1 encI v xs) (hl : xs.length ≤ 1000000) : Rt 34 [v] w fun r w' => Keep w w' ∧ ∃ sp, Own 1 encI r xs sp ∧ ∀ p ∈ rowH r 3 (xs.flatMap encI ++ sp), w.heap.size ≤ p.1 ∧ w'.heap[p.1]? = some p.2 := by
  have hv1 := hA.v1
  refine Rt_of Tryz.func34 rfl Tryz.ntmps34 rfl ?_
  repeat' (first | apply s_ | (apply JO_ob; exact rfl; first | exact ob1) | ((first | apply b_ | apply a_ | apply i_); exact z_; intro _) | ((first | apply p_ | apply JO_yes | apply GC_t); exact z_) | (apply n_; exact z_) | (apply GC_f; exact z_) | (apply GX_block_on; exact z_) | (apply c_; exact z_; all_goals intro _))
  refine JO_append (xs := []) (sp := []) [] rfl rfl rfl (Own.lit [] (fun _ => rfl) rfl rfl) (List.Perm.refl _) (fun w hw => hw.slArr (.head _) hA (by decide)) (allOne_flat (fun _ => rfl) _) (by simp; omega) ?_
  intro v' sp' ho
  have hv1' := ho.v1
  repeat' (first | apply s_ | (apply JO_ob; exact rfl; first | exact ob1) | ((first | apply b_ | apply a_ | apply i_); exact z_; intro _) | ((first | apply p_ | apply JO_yes | apply GC_t); exact z_) | (apply n_; exact z_) | (apply GC_f; exact z_) | (apply GX_block_on; exact z_) | (apply c_; exact z_; all_goals intro _))
  refine GX_ret1 rfl rfl fun w' hw' => ⟨hw'.kp mem_, sp', ho, fun p hp => ?_⟩
  exact ⟨hw'.apt p hp ((fun _ => True), w) (.head _) trivial, hw'.own p hp⟩
/-- A call of list, its block known. -/
theorem JO_list {n d : Nat} {full : List Oper} {b0 : World} {R : Rgs} {H : Hp} {fr : Slots} {K : Kt} {ty : TypeId} {ps : String} {af : Array Edge} {ar : List Operand} {ts : Array TypeId} {v : Value} {xs : List Int} (hd : Nat.blt d n = true) (hx : evs fr ar = some [v]) (hA : ∀ w, SH b0 R H w → Arr All w 1 encI v xs) (hl : xs.length ≤ 1000000)
    (h : ∀ r sp, Own 1 encI r xs sp → K R (rowH r 3 (xs.flatMap encI ++ sp) ++ H) ((d, r) :: fr)) : JO n full b0 R H ⟨some d, .call ⟨.value (.func 34), ar.toArray, ts⟩, ty, ps, af, none⟩ fr K := by
  refine JO_callS (β := Value × List Value) (S := fun s r => r = s.1 ∧ Own 1 encI s.1 xs s.2) (R' := fun _ => R) (H' := fun s => rowH s.1 3 (xs.flatMap encI ++ s.2) ++ H) hd hx (fun w hw => (c34o v xs w (hA w hw) hl).mono ?_) ?_
  · rintro r w' ⟨kp, sp, ho, hb⟩
    refine ⟨(r, sp), ⟨rfl, ho⟩, fun _ h => h, ?_⟩
    rcases ho.c with ⟨rfl, _⟩ | ⟨bb, cc, rfl, _⟩
    · exact hw.keep kp
    · obtain ⟨g1, g2⟩ := hb _ (.head _)
      exact hw.own1 kp g1 g2
  · rintro ⟨r, sp⟩ v ⟨rfl, ho⟩
    exact h _ _ ho
end Go.Proofs.YtkbaaikidhbfmaaGreat
/- What is known, seen from a later world. No statement is proved here. -/
set_option linter.unusedVariables false
set_option linter.unusedSimpArgs false
namespace Go.Proofs.YtkbaaikidhbfmaaGreat
open Go.RowKit
/-- All that is not one's own. -/
def OffA (H : Hp) : Nat → Prop := fun b => ∀ p ∈ H, p.1 ≠ b
section
variable {b0 : World} {R : Rgs} {H : Hp} {w w1 : World} {G : Nat → Prop}
theorem SH.offA (h : SH b0 R H w) : SH b0 ((OffA H, w) :: R) H w := h.add _ fun p hp ho => ho p hp rfl
theorem SH.toA {α : Type} {sz : Nat} {enc : α → List Value} {v : Value} {xs : List α} (hw : SH b0 R H w) (hr : (G, w1) ∈ R) (h : Arr G w1 sz enc v xs) : Arr (OffA H) w sz enc v xs := by
  have h1 : Arr (fun b => G b ∧ OffA H b) w1 sz enc v xs := h.weaken fun b hb hlt => ⟨hb, fun p hp e => by
    subst e
    have := hw.apt p hp _ hr hb
    simp only at this; omega⟩
  have h2 : Arr (fun b => G b ∧ OffA H b) w sz enc v xs := h1.move fun b hb hlt => (hw.rng _ hr).2 b hb.1 hlt
  exact h2.weaken fun b hb _ => hb.2
theorem SH.toAn {v : Value} {hs : List Value} {xss : List (List Int)} (hw : SH b0 R H w) (hr : (G, w1) ∈ R) (h : Nest G w1 v hs xss) : Nest (OffA H) w v hs xss :=
  ⟨h.len, hw.toA hr h.arr, fun i hi => hw.toA hr (h.row i hi)⟩
end
end Go.Proofs.YtkbaaikidhbfmaaGreat
/- A list that is copied by an append, its block known; a block that is handed on. No statement is proved here. -/
set_option linter.unusedVariables false
set_option linter.unusedSimpArgs false
namespace Go.Proofs.YtkbaaikidhbfmaaGreat
open Go.RowKit
section
variable {α : Type} {n d : Nat} {full : List Oper} {b0 : World} {R : Rgs} {H : Hp} {fr : Slots} {K : Kt} {ty : TypeId} {ps : String} {af : Array Edge} {sz : Nat} {enc : α → List Value} {u : Value} {xs ys : List α} {sp : List Value}
/-- append([]T(nil), ys...), ys not empty: the new block lies first. -/
theorem JO_copy (A : Hp) {t e by_ b : Nat} {x y : Operand} [h : TyApp t e sz by_] (hd : Nat.blt d n = true) (hx : ev fr x = some (.slice (some ⟨b, 0, none⟩) 0 0)) (hy : ev fr y = some u) (he : ∀ x, (enc x).length = sz + 1) (hH : H.Perm ((b, .cells #[] e) :: A))
    (hu : ∀ w, SH b0 R H w → SlC w u ys.length (sz + 1) (ys.flatMap enc)) (h1 : (ys.flatMap enc).all oneCell = true) (hb : ys.length * (by_ + 1) ≤ 140737488355328) (h0 : 0 < ys.length)
    (hK : ∀ b' c' sp', Own (sz + 1) enc (.slice (some ⟨b', 0, none⟩) ys.length c') ys sp' → K R ((b', .cells (ys.flatMap enc ++ sp').toArray e) :: A) ((d, .slice (some ⟨b', 0, none⟩) ys.length c') :: fr)) :
    JO n full b0 R H ⟨some d, .call ⟨.builtin .append, #[x, y], #[t, t]⟩, ty, ps, af, none⟩ fr K := by
  have J := JO_append (K := fun R' H' fr' => ∃ v' sp', Own (sz + 1) enc v' ([] ++ ys) sp' ∧ R' = R ∧ H' = A ++ rowH v' e (([] ++ ys).flatMap enc ++ sp') ∧ fr' = (d, v') :: fr) (ps := ps) (ty := ty) (af := af) (full := full) (R := R) A (t := t) (e := e) (xs := []) (ys := ys) (sp := []) hd hx hy (Own.lit [] he rfl rfl) (hH.trans (List.perm_append_singleton _ _).symm) hu h1 (by simpa using hb) fun v' sp' ho => ⟨v', sp', ho, rfl, rfl, rfl⟩
  obtain ⟨j1, j2⟩ := J.use
  refine JO.mk j1 fun w hw => (j2 w hw).mono ?_
  rintro v w' ⟨R', H', hs, hsub, v', sp', ho, e1, e2, e3⟩
  subst e1; subst e2
  rw [List.nil_append] at ho hs
  rcases ho.c with ⟨_, e0, _⟩ | ⟨bb, cc, rfl, _⟩
  · omega
  · refine ⟨R', _, hs.perm (List.perm_append_singleton _ _), fun r h => h, ?_⟩
    rw [e3]
    exact hK bb cc sp' ho
/-- A block with its list is no longer one's own. -/
theorem GX_freeze1 {D : List Deferred} {Q : Post} {A : Hp} {e : TypeId} {x : Exit} {b m c : Nat} (hv : Own sz enc (.slice (some ⟨b, 0, none⟩) m c) xs sp) (hs : 0 < sz)
    (h : ∀ G w1, Arr G w1 sz enc (.slice (some ⟨b, 0, none⟩) m c) xs → GX n D Q b0 ((G, w1) :: R) A x fr) : GX n D Q b0 R ((b, .cells (xs.flatMap enc ++ sp).toArray e) :: A) x fr :=
  GX.mk fun w hw => (GX_freeze (A := A) (e := e) hv hs fun G w1 h1 _ => h G w1 h1).use w (hw.perm (List.perm_append_singleton _ _).symm)
theorem Own.other {b m c : Nat} (hv : Own sz enc (.slice (some ⟨b, 0, none⟩) m c) xs sp) (hl : ys.length = xs.length) : Own sz enc (.slice (some ⟨b, 0, none⟩) m c) ys sp := by
  refine ⟨hv.esz, ?_⟩
  have h1 := flatMap_len hv.esz xs
  have h2 := flatMap_len hv.esz ys
  rcases hv.c with ⟨e, _⟩ | ⟨bb, cc, e, g1, g2, g3, g4⟩
  · cases e
  · rw [hl]
    exact .inr ⟨bb, cc, e, g1, g2, by rw [h2, hl], by rw [h2, hl, ← h1]; exact g4⟩
end
end Go.Proofs.YtkbaaikidhbfmaaGreat
/- Plain mathematics: works with another number of boxes, another force, another last hour, other cakes; the best plans. No statement is proved here. -/
set_option linter.unusedVariables false
set_option linter.unusedSimpArgs false
namespace Go.Proofs.YtkbaaikidhbfmaaGreat
open Go.RowKit
theorem fault9_mk {k : Wk} (h : OkK k) (hm : many1 k.yard.fields * many3 k.beat ≤ 6000) : fault9 k = 0 := by
  have h1 : (truths1 k.yard).length ≠ 0 := fun e => h.t1 ((truths1_nil h.y.f h.m1).1 e)
  have h3 : (truths3 k.beat).length ≠ 0 := fun e => h.t3 ((truths3_nil h.b).1 e)
  have hn : isNum k = true := by simp only [isNum, Bool.and_eq_true, decide_eq_true_eq]; exact ⟨h.boxes, h.force, h.last, h.cake⟩
  unfold fault9
  rw [if_neg (fun e => e h.f1), if_neg h1, if_neg (fun e => e h.f3), if_neg h3, if_neg (fun e => e h.len), if_neg (by rw [h.ends]; decide), if_neg (by rw [hn]; decide), if_neg (by omega)]
theorem fault9_many {k : Wk} (h : fault9 k = 0) : many1 k.yard.fields * many3 k.beat ≤ 6000 := (fault9_0 h).2.2.2.2.2.2.2
def boxK (k : Wk) (b : Int) : Wk := { k with boxes := b }
theorem fault_box {k : Wk} (h : fault9 k = 0) {b : Int} (hb : 1 ≤ b ∧ b ≤ 3) : fault9 (boxK k b) = 0 := by
  have hK := okK_of h
  have hm := fault9_many h
  exact fault9_mk (k := boxK k b) ⟨hK.f1, hK.f3, hK.y, hK.b, hK.m1, hK.m3, hK.len, hK.ends, hK.t1, hK.t3, hb, hK.force, hK.last, hK.cake⟩ hm
theorem best_box (k : Wk) (b b' : Int) : bestL (boxK k b) b' = bestL k b' := rfl
theorem best_len {k : Wk} (h : OkK k) {b : Int} (hb : 1 ≤ b) : (bestL k b).1.length = k.yard.vats.length := (mem_plans.1 (bestL_ok h hb).mem).1
theorem best_bd {k : Wk} (h : OkK k) {b : Int} (hb : 1 ≤ b) : 0 ≤ (bestL k b).2 ∧ (bestL k b).2 ≤ 2703 := by
  rw [(bestL_ok h hb).val]; exact endV_bd h _
def zeros (k : Wk) : List Int := List.replicate k.yard.vats.length 0
theorem zeros_len (k : Wk) : (zeros k).length = k.yard.vats.length := by simp [zeros]
theorem zeros_nth {k : Wk} {i : Nat} (hi : i < k.yard.vats.length) : nth (zeros k) i = 0 := by simp [zeros, nth, hi]
theorem zeros_plan {k : Wk} (h : OkK k) : planP k (zeros k) = true := by
  rw [planP_eq h.boxes, isPlan_iff, mem_plans]
  have hb := h.boxes
  exact ⟨zeros_len k, fun x hx => by rw [List.eq_of_mem_replicate hx]; omega⟩
theorem zeros_end {k : Wk} (h : OkK k) (hn : 0 < k.yard.vats.length) : endV k (zeros k) = (nth (timesV k (zeros k)) (k.yard.vats.length - 1)).2 := by
  have h1 := endV_ge h (zeros k) (i := k.yard.vats.length - 1) (by omega)
  have h2 : endV k (zeros k) ≤ (nth (timesV k (zeros k)) (k.yard.vats.length - 1)).2 := by
    have h0 := (timesV_bd h (zeros k) (i := k.yard.vats.length - 1) (by omega))
    rw [endV_leP h]
    refine ⟨by omega, fun i hi p hp => ?_⟩
    have h3 := (times_in (zeros k) hp (i := k.yard.vats.length - 1) (by omega)).2
    have h4 := atN_grow (hr := hrP k p) (l := zeros k) (v := 0) (n := i + 1) (k.yard.vats.length - 1 - i) (fun j hj => (hrP_bd h hp (by omega)).1)
    rw [show i + 1 + (k.yard.vats.length - 1 - i) = k.yard.vats.length by omega] at h4
    rw [atP_eq, zeros_nth hi]
    rw [atP_eq, zeros_nth (by omega), show k.yard.vats.length - 1 + 1 = k.yard.vats.length by omega] at h3
    omega
  omega
theorem best_one {k : Wk} (h : OkK k) (hn : 0 < k.yard.vats.length) : (bestL k 1).2 = (nth (timesV k (zeros k)) (k.yard.vats.length - 1)).2 := by
  have h1 := bestL_ok h (b := 1) (by omega)
  obtain ⟨g1, g2⟩ := mem_plans.1 h1.mem
  have e : (bestL k 1).1 = zeros k := by
    rw [zeros, ← g1]
    exact List.eq_replicate_iff.2 ⟨rfl, fun x hx => by have := g2 x hx; omega⟩
  rw [h1.val, e, zeros_end h hn]
def mostT (k : Wk) (i : Nat) : Int := endR ((mudsV k fun m => (hoursR k.force m : Int)).take i)
theorem mostT_succ {k : Wk} {i : Nat} (hi : i < k.yard.vats.length) : mostT k (i + 1) = max (mostT k i) (nth (mudsV k fun m => (hoursR k.force m : Int)) i).2 := by
  simp only [mostT]
  rw [take_snoc (by rw [mudsV_len]; exact hi)]
  simp only [endR, List.foldl_append, List.foldl_cons, List.foldl_nil]
theorem mostT_all (k : Wk) : mostT k k.yard.vats.length = mostV k := by
  simp only [mostT, mostV]; rw [List.take_of_length_le (by rw [mudsV_len]; exact Nat.le_refl _)]
end Go.Proofs.YtkbaaikidhbfmaaGreat
/- Plain mathematics: vats that lose nothing, and vats that lose more. No statement is proved here. -/
set_option linter.unusedVariables false
set_option linter.unusedSimpArgs false
namespace Go.Proofs.YtkbaaikidhbfmaaGreat
open Go.RowKit
def vatsB (y : Bt) (vs : List BV) : Bt := { y with vats := vs }
def vatsK (k : Wk) (vs : List BV) : Wk := { k with beat := vatsB k.beat vs }
/-- The same needs; early and late as they may be. -/
structure SameN (vs vs' : List BV) : Prop where
  m : vs'.map rgV = vs.map rgV
  e : ∀ j, j < vs'.length → (0 ≤ (nth vs' j).early ∧ (nth vs' j).early ≤ 20) ∧ 0 ≤ (nth vs' j).late ∧ (nth vs' j).late ≤ 20
theorem SameN.len {vs vs' : List BV} (h : SameN vs vs') : vs'.length = vs.length := by
  have := congrArg List.length h.m
  simpa using this
theorem SameN.rg {vs vs' : List BV} (h : SameN vs vs') {j : Nat} (hj : j < vs.length) : rgV (nth vs' j) = rgV (nth vs j) := by
  rw [← nth_map rgV hj, ← nth_map rgV (by rw [h.len]; exact hj), h.m]
theorem SameN.many {y : Bt} {vs' : List BV} (h : SameN y.vats vs') : many3 (vatsB y vs') = many3 y := by
  have key : ∀ n, n ≤ y.vats.length → manyK (vatsB y vs') n = manyK y n := by
    intro n
    induction n with
    | zero => intro _; rfl
    | succ n ih =>
      intro hn
      have h1 := h.rg (j := n) (by omega)
      show manyK (vatsB y vs') n * szV (nth vs' n) = manyK y n * szV (nth y.vats n)
      rw [ih (by omega), szV_rgV, szV_rgV, h1]
  show manyK (vatsB y vs') vs'.length = manyK y y.vats.length
  rw [h.len]
  exact key _ (Nat.le_refl _)
theorem SameN.truths {y : Bt} {vs' : List BV} (h : SameN y.vats vs') : truthsW (vatsB y vs') = truthsW y := by
  have e : btR (vatsB y vs') = btR y := by
    simp only [btR, vatsB, h.m]
  unfold truthsW
  rw [e]
  rfl
theorem SameN.okB {y : Bt} {vs' : List BV} (h : SameN y.vats vs') (hB : OkB y) : OkB (vatsB y vs') := by
  have hl := h.len
  refine ⟨by show vs'.length ≤ 3; rw [hl]; exact hB.v3, hB.s5, hB.l, hB.sun, fun j hj => ⟨?_, h.e j hj⟩, fun i hi => ?_⟩
  · have hj2 : j < y.vats.length := by rw [← hl]; exact hj
    have h1 := h.rg hj2
    simp only [rgV, Prod.mk.injEq] at h1
    have h2 := (hB.v j hj2).1
    show 0 ≤ (nth vs' j).lo ∧ (nth vs' j).lo ≤ (nth vs' j).hi ∧ (nth vs' j).hi ≤ 9
    omega
  · have := hB.s i hi
    show (0 ≤ (nth y.smps i).vat ∧ (nth y.smps i).vat < (vs'.length : Int)) ∧ 0 ≤ (nth y.smps i).hour ∧ (nth y.smps i).hour ≤ y.last
    rw [hl]; exact this
theorem fault3_mk {y : Bt} (h : OkB y) (hm : many3 y ≤ 200) : fault3 y = 0 := by
  have b1 : bigB y = false := by
    have h1 := h.v3; have h2 := h.s5; have h3 := h.l
    simp only [bigB, Bool.or_eq_false_iff, decide_eq_false_iff_not]
    omega
  have b2 : (isSun y && y.vats.all isBV && y.smps.all (isBS y.vats.length y.last)) = true := by
    simp only [Bool.and_eq_true]
    refine ⟨⟨?_, all_nth.2 fun j hj => ?_⟩, all_nth.2 fun j hj => ?_⟩
    · have h3 := h.l; have h4 := h.sun
      simp only [isSun, Bool.and_eq_true, decide_eq_true_eq]
      omega
    · have := h.v j hj
      simp only [isBV, Bool.and_eq_true, decide_eq_true_eq]
      omega
    · have := h.s j hj
      simp only [isBS, Bool.and_eq_true, decide_eq_true_eq]
      omega
  unfold fault3
  rw [if_neg (by rw [b1]; decide), if_neg (by rw [b2]; decide), if_neg (by omega)]
theorem fault_vats {k : Wk} (hf : fault9 k = 0) {vs' : List BV} (h : SameN k.beat.vats vs') : fault9 (vatsK k vs') = 0 := by
  have hK := okK_of hf
  have hm := fault9_many hf
  have hb := h.okB hK.b
  have e1 := h.many
  have e2 := h.truths
  have m3 : many3 (vatsB k.beat vs') ≤ 200 := by rw [e1]; exact hK.m3
  refine fault9_mk (k := vatsK k vs') ⟨hK.f1, fault3_mk hb m3, hK.y, hb, hK.m1, m3, ?_, ?_, hK.t1, by show truthsW (vatsB k.beat vs') ≠ []; rw [e2]; exact hK.t3, hK.boxes, hK.force, hK.last, hK.cake⟩ ?_
  · show vs'.length = k.yard.vats.length
    rw [h.len]; exact hK.len
  · have := hK.ends
    simp only [areEnd, Bool.and_eq_true, decide_eq_true_eq] at this
    show areEnd (vatsB k.beat vs') k.ends = true
    simp only [areEnd, Bool.and_eq_true, decide_eq_true_eq]
    refine ⟨this.1, ?_⟩
    show k.ends.length = vs'.length
    rw [h.len]; exact this.2
  · show many1 k.yard.fields * many3 (vatsB k.beat vs') ≤ 6000
    rw [e1]; exact hm
theorem pairs_vats {k : Wk} (hf : fault9 k = 0) {vs' : List BV} (h : SameN k.beat.vats vs') (p : List Int × Crs) : p ∈ pairs (vatsK k vs') ↔ p ∈ pairs k := by
  have h1 := okK_of hf
  have h2 := okK_of (fault_vats hf h)
  rw [pairs_mem h1, pairs_mem h2]
  have e2 := h.truths
  show p.1 ∈ truthsX k.yard ∧ (∃ l ∈ truthsW (vatsB k.beat vs'), toC l = p.2) ↔ _
  rw [e2]
/-- Nothing is lost. -/
def noLoss (vs : List BV) : List BV := vs.map fun v => { v with early := 0, late := 0 }
theorem noLoss_same (vs : List BV) : SameN vs (noLoss vs) :=
  ⟨by simp only [noLoss, List.map_map]; rfl, fun j hj => by
    have hj2 : j < vs.length := by simpa [noLoss] using hj
    rw [noLoss, nth_map _ hj2]
    simp⟩
theorem lossless_x {k : Wk} (hf : fault9 k = 0) {i : Nat} (hi : i < k.yard.vats.length) :
    nth (mudsV (vatsK k (noLoss k.beat.vats)) fun m => m) i = nth (bnds k.yard.vats.length (dots k.yard (truthsX k.yard))) i := by
  have hs := noLoss_same k.beat.vats
  have h1 := okK_of hf
  have h2 := okK_of (fault_vats hf hs)
  have hv : i < k.beat.vats.length := by rw [h1.len]; exact hi
  rw [mudsV_id (k := vatsK k (noLoss k.beat.vats)) hi, bnds_nth hi]
  have hz : ∀ p ∈ pairs (vatsK k (noLoss k.beat.vats)), mudR (vatsK k (noLoss k.beat.vats)) p.1 p.2 (i : Int) = dot p.1 (nth k.yard.vats i) := by
    intro p hp
    have hb := ((pairs_mem h2).1 hp).1
    have hd := dot_bd h1.y (mem_lex.1 (List.mem_filter.1 hb).1) hi
    have e0 : nth (noLoss k.beat.vats) i = { nth k.beat.vats i with early := 0, late := 0 } := by rw [noLoss, nth_map _ hv]
    have e : lostC (vatsB k.beat (noLoss k.beat.vats)) p.2 (i : Int) (nth k.ends i) = 0 := by
      simp only [lostC, vatsB, Int.toNat_natCast, e0]; omega
    show max 0 (dot p.1 (nth k.yard.vats (i : Int).toNat) - lostC (vatsB k.beat (noLoss k.beat.vats)) p.2 (i : Int) (nth k.ends (i : Int).toNat)) = _
    rw [Int.toNat_natCast, e]
    omega
  refine hull_eq fun x => ?_
  simp only [mudsL, dots, List.mem_map]
  constructor
  · rintro ⟨p, hp, rfl⟩
    exact ⟨p.1, ((pairs_mem h2).1 hp).1, (hz p hp).symm⟩
  · rintro ⟨bs, hbs, rfl⟩
    obtain ⟨l, hl⟩ := List.exists_mem_of_ne_nil _ h2.t3
    have hp := (pairs_mem h2 (p := (bs, toC l))).2 ⟨hbs, l, hl, rfl⟩
    exact ⟨_, hp, hz _ hp⟩
theorem ext_nth {α : Type} [Inhabited α] {xs ys : List α} (hl : xs.length = ys.length) (h : ∀ i, i < xs.length → nth xs i = nth ys i) : xs = ys := by
  refine List.ext_getElem hl fun i h1 h2 => ?_
  have := h i h1
  simpa [nth, h1, h2] using this
/-- A vat that loses more. -/
def moreLoss (vs : List BV) (j : Nat) (a b : Int) : List BV := vs.set j { nth vs j with early := min 20 ((nth vs j).early + a), late := min 20 ((nth vs j).late + b) }
theorem nth_setV {vs : List BV} {i j : Nat} {v : BV} (h : i < vs.length) : nth (vs.set i v) j = if j = i then v else nth vs j := by
  simp only [nth, List.getD_eq_getElem?_getD, List.getElem?_set]
  by_cases e : i = j
  · subst e; simp [h]
  · simp [e, show ¬ j = i from fun h => e h.symm]
theorem moreLoss_nth {vs : List BV} {j : Nat} {a b : Int} (hj : j < vs.length) (i : Nat) : nth (moreLoss vs j a b) i = if i = j then { nth vs j with early := min 20 ((nth vs j).early + a), late := min 20 ((nth vs j).late + b) } else nth vs i := nth_setV hj
theorem moreLoss_same {vs : List BV} {j : Nat} {a b : Int} (hj : j < vs.length) (ha : 0 ≤ a) (hb : 0 ≤ b) (he : ∀ j, j < vs.length → (0 ≤ (nth vs j).early ∧ (nth vs j).early ≤ 20) ∧ 0 ≤ (nth vs j).late ∧ (nth vs j).late ≤ 20) : SameN vs (moreLoss vs j a b) := by
  have hl : (moreLoss vs j a b).length = vs.length := by simp [moreLoss]
  refine ⟨?_, fun i hi => ?_⟩
  · refine ext_nth (by simp [moreLoss]) fun i hi => ?_
    have hi2 : i < vs.length := by simpa [moreLoss] using hi
    rw [nth_map _ (by omega), nth_map _ hi2, moreLoss_nth hj]
    by_cases e : i = j
    · subst e; rw [if_pos rfl]; rfl
    · rw [if_neg e]
  · have h1 := he i (by omega)
    have h2 := he j hj
    rw [moreLoss_nth hj]
    by_cases e : i = j
    · subst e; rw [if_pos rfl]; simp only; omega
    · rw [if_neg e]; exact h1
theorem lossy_y {k : Wk} (hf : fault9 k = 0) {j : Nat} {a b : Int} (hj : j < k.beat.vats.length) (ha : 0 ≤ a) (hb : 0 ≤ b) {i : Nat} (hi : i < k.yard.vats.length) :
    (nth (mudsV (vatsK k (moreLoss k.beat.vats j a b)) fun m => m) i).1 ≤ (nth (mudsV k fun m => m) i).1 := by
  have h1 := okK_of hf
  have he : ∀ j, j < k.beat.vats.length → (0 ≤ (nth k.beat.vats j).early ∧ (nth k.beat.vats j).early ≤ 20) ∧ 0 ≤ (nth k.beat.vats j).late ∧ (nth k.beat.vats j).late ≤ 20 := fun j hj => (h1.b.v j hj).2
  have hs := moreLoss_same hj ha hb he
  rw [mudsV_id (k := vatsK k (moreLoss k.beat.vats j a b)) hi, mudsV_id hi]
  refine lo_le fun x hx => ?_
  obtain ⟨p, hp, rfl⟩ := List.mem_map.1 hx
  refine ⟨_, List.mem_map.2 ⟨p, (pairs_vats hf hs p).2 hp, rfl⟩, ?_⟩
  have hl : lostC k.beat p.2 (i : Int) (nth k.ends i) ≤ lostC (vatsB k.beat (moreLoss k.beat.vats j a b)) p.2 (i : Int) (nth k.ends i) := by
    have g1 : (nth k.beat.vats i).early ≤ (nth (moreLoss k.beat.vats j a b) i).early ∧ (nth k.beat.vats i).late ≤ (nth (moreLoss k.beat.vats j a b) i).late := by
      rw [moreLoss_nth hj]
      by_cases e : i = j
      · subst e
        have := he i hj
        rw [if_pos rfl]; simp only; omega
      · rw [if_neg e]; exact ⟨Int.le_refl _, Int.le_refl _⟩
    simp only [lostC, vatsB, Int.toNat_natCast]
    exact Int.add_le_add (Int.mul_le_mul_of_nonneg_left g1.1 (by omega)) (Int.mul_le_mul_of_nonneg_left g1.2 (by omega))
  show max 0 (dot p.1 (nth k.yard.vats (i : Int).toNat) - lostC (vatsB k.beat (moreLoss k.beat.vats j a b)) p.2 (i : Int) (nth k.ends (i : Int).toNat)) ≤ max 0 (dot p.1 (nth k.yard.vats (i : Int).toNat) - lostC k.beat p.2 (i : Int) (nth k.ends (i : Int).toNat))
  rw [Int.toNat_natCast]
  omega
/-- The same, one by one. -/
def zv (v : BV) : BV := { v with early := 0, late := 0 }
def zn (vs : List BV) : Nat → List BV
  | 0 => vs
  | i + 1 => (zn vs i).set i (zv (nth vs i))
theorem zn_len (vs : List BV) : ∀ i, (zn vs i).length = vs.length
  | 0 => rfl
  | i + 1 => by rw [zn, List.length_set]; exact zn_len vs i
theorem zn_nth (vs : List BV) : ∀ i j, j < vs.length → nth (zn vs i) j = if j < i then zv (nth vs j) else nth vs j
  | 0, j, _ => by rw [if_neg (by omega)]; rfl
  | i + 1, j, hj => by
    rw [zn]
    by_cases hi : i < vs.length
    · rw [nth_setV (by rw [zn_len]; exact hi)]
      by_cases e : j = i
      · subst e; rw [if_pos rfl, if_pos (by omega)]
      · rw [if_neg e, zn_nth vs i j hj]
        by_cases h : j < i
        · rw [if_pos h, if_pos (by omega)]
        · rw [if_neg h, if_neg (by omega)]
    · rw [List.set_eq_of_length_le (by rw [zn_len]; omega), zn_nth vs i j hj, if_pos (by omega), if_pos (by omega)]
theorem zn_all (vs : List BV) : zn vs vs.length = noLoss vs := by
  refine ext_nth (by rw [zn_len]; simp [noLoss]) fun i hi => ?_
  rw [zn_len] at hi
  rw [zn_nth vs _ _ hi, if_pos hi, noLoss, nth_map _ hi]; rfl
end Go.Proofs.YtkbaaikidhbfmaaGreat
/- The walk of the law PressLossless. No statement is proved here. -/
set_option linter.unusedVariables false
set_option linter.unusedSimpArgs false
namespace Go.Proofs.YtkbaaikidhbfmaaGreat
open Go.RowKit
theorem c46F {w : World} {a b c : Value} {hs : List Value} {y : Yd} (h : YdA All w a b c hs y) (hf : fault1 y = 0) (ht : truthsX y ≠ []) : Rt 46 [.agg #[a, b, c]] w fun v w' => Keep w w' ∧ RgsW (bnds y.vats.length (dots y (truthsX y))) w v w' :=
  (c46 w a b c hs y h).mono fun v w' q => ⟨q.1, by
    rcases q.2 with ⟨q, _⟩ | ⟨_, q, _⟩ | ⟨_, _, q⟩
    · exact absurd hf q
    · exact absurd q ht
    · exact q⟩
section
variable {w : World} {a b c d e f : Value} {hs : List Value} {k : Wk}
set_option maxRecDepth 100000 in
set_option maxHeartbeats 8000000 in
theorem law15_good (h : WkA All w a b c hs d e f k) (x y : Int) (hx : 0 ≤ x ∧ x ≤ 255) (hy : 0 ≤ y ∧ y ≤ 255) (hr : readyW k = true) (hn0 : 0 < k.yard.vats.length) : Ex 15 [wkV a b c d e f k, .int .u8 x, .int .u8 y] w (.bool true) := by
  have i1 := h.yard.fields.v1
  have i2 := h.yard.vats.arr.v1
  have i3 := h.yard.smps.v1
  have i4 := h.beat.vats.v1
  have i5 := h.beat.smps.v1
  have i6 := h.ends.v1
  obtain ⟨ht, hf⟩ := ready_iff.1 hr
  have hK := okK_of hf
  have v3 := hK.v3
  have hbl := hK.len
  have hn1 : 0 < k.beat.vats.length := by omega
  refine Rt_of Tryz.func15 rfl Tryz.ntmps15 rfl ?_

  apply GC_seq
  refine GC_mid (α := Nat) (fun s => [(3, pt s), (1, .int .u8 x), (2, .int .u8 y)]) (fun s => [((fun _ => True), w)]) (fun s => [(s, .cells (wkC a b c d e f k).toArray 35)]) (fun s => True) ?_ ?_
  · repeat' (first | apply s_ | ((first | apply JO_ob | apply GD_ex | apply GL_ex); exact rfl; first | exact ob1) | ((first | apply b_ | apply a_ | apply i_); exact z_; intro _) | ((first | apply p_ | apply JO_yes | apply GC_t); exact z_) | (apply n_; exact z_) | (apply GC_f; exact z_) | (apply GX_block_on; exact z_) | refine GC_drawB (id := 3) [] [0, 1] [2, 3, 4, 5] _ (by kernel_rfl) (List.Sublist.refl _) ?_ | refine GC_drawB (id := 4) [] [1, 2, 3, 6, 7, 8] [0, 4, 5, 9, 10, 11, 12, 13, 14, 15] _ (by kernel_rfl) (List.Sublist.refl _) ?_ | refine GC_drawB (id := 8) [0, 1, 2, 3, 8, 9] [4, 5, 6, 7] [10, 11, 12, 13] _ (by kernel_rfl) (List.Sublist.refl _) ?_ | refine GC_drawA (id := 9) [0, 1, 2, 3, 4, 5, 6, 7, 8, 9, 10, 11] [] (by kernel_rfl) ?_ | refine GC_drawB (id := 10) [0, 2, 3, 4, 5, 6, 7, 8, 9, 10, 11, 12, 13, 14, 21, 22] [1, 15, 16, 17, 18, 19, 20] [23, 24, 25, 26] _ (by kernel_rfl) (List.Sublist.refl _) ?_ | refine GC_drawA (id := 20) [0, 1, 2, 3, 4, 5, 6, 7, 8, 9, 10, 11, 12, 13, 14, 15, 16, 17, 18, 19, 20, 21, 22, 23, 24, 25, 26, 27, 28] [] (by kernel_rfl) ?_ | ((first | apply GD_at | apply GL_at | apply GD_no | apply GL_no); exact rfl) | apply DFin_0 | (apply q1_; exact z_) | (apply q0_; exact z_) | (apply q2_; exact z_))
    all_goals exact GX_loop _ ⟨rfl, rfl, rfl, trivial⟩ Nat.zero_lt_one trivial (fun w hw => hw.cut)
  intro p3 _
  try simp only
  apply GC_seq
  refine GC_mid (α := Unit) (fun s => [(3, pt p3), (1, .int .u8 x), (2, .int .u8 y)]) (fun s => [((fun _ => True), w)]) (fun s => [(p3, .cells (wkC a b c d e f k).toArray 35)]) (fun s => True) ?_ ?_
  · repeat' (first | apply s_ | ((first | apply JO_ob | apply GD_ex | apply GL_ex); exact rfl; first | exact ob1 | exact Ob_call rfl (fun w5 hw5 => c48T (hw5.wk mem_ h) hr) | exact Ob_call rfl (fun w5 hw5 => c26W (hw5.wk mem_ h))) | ((first | apply b_ | apply a_ | apply i_); exact z_; intro _) | ((first | apply p_ | apply JO_yes | apply GC_t); exact z_) | (apply n_; exact z_) | (apply GC_f; exact z_) | (apply GX_block_on; exact z_) | refine GC_drawB (id := 3) [] [0, 1] [2, 3, 4, 5] _ (by kernel_rfl) (List.Sublist.refl _) ?_ | refine GC_drawB (id := 4) [] [1, 2, 3, 6, 7, 8] [0, 4, 5, 9, 10, 11, 12, 13, 14, 15] _ (by kernel_rfl) (List.Sublist.refl _) ?_ | refine GC_drawB (id := 8) [0, 1, 2, 3, 8, 9] [4, 5, 6, 7] [10, 11, 12, 13] _ (by kernel_rfl) (List.Sublist.refl _) ?_ | refine GC_drawA (id := 9) [0, 1, 2, 3, 4, 5, 6, 7, 8, 9, 10, 11] [] (by kernel_rfl) ?_ | refine GC_drawB (id := 10) [0, 2, 3, 4, 5, 6, 7, 8, 9, 10, 11, 12, 13, 14, 21, 22] [1, 15, 16, 17, 18, 19, 20] [23, 24, 25, 26] _ (by kernel_rfl) (List.Sublist.refl _) ?_ | refine GC_drawA (id := 20) [0, 1, 2, 3, 4, 5, 6, 7, 8, 9, 10, 11, 12, 13, 14, 15, 16, 17, 18, 19, 20, 21, 22, 23, 24, 25, 26, 27, 28] [] (by kernel_rfl) ?_ | ((first | apply GD_at | apply GL_at | apply GD_no | apply GL_no); exact rfl) | apply DFin_0 | (apply q1_; exact z_) | (apply q0_; exact z_) | (apply q2_; exact z_))
    all_goals exact GX_loop () ⟨rfl, rfl, rfl, trivial⟩ Nat.zero_lt_one trivial (fun w hw => hw.cut)
  intro _ _
  try simp only
  apply GC_seq
  refine GC_mid (α := Nat × Nat) (fun s => [(7, pt s.1), (8, pt s.2), (3, pt p3), (1, .int .u8 x), (2, .int .u8 y)]) (fun s => [((fun _ => True), w)]) (fun s => [(s.2, .cells (wkC a b c d e f k).toArray 35), (s.1, .cells (wkC a b c d e f k).toArray 35), (p3, .cells (wkC a b c d e f k).toArray 35)]) (fun s => True) ?_ ?_
  · repeat' (first | apply s_ | ((first | apply JO_ob | apply GD_ex | apply GL_ex); exact rfl; first | exact ob1) | ((first | apply b_ | apply a_ | apply i_); exact z_; intro _) | ((first | apply p_ | apply JO_yes | apply GC_t); exact z_) | (apply n_; exact z_) | (apply GC_f; exact z_) | (apply GX_block_on; exact z_) | refine GC_drawB (id := 3) [] [0, 1] [2, 3, 4, 5] _ (by kernel_rfl) (List.Sublist.refl _) ?_ | refine GC_drawB (id := 4) [] [1, 2, 3, 6, 7, 8] [0, 4, 5, 9, 10, 11, 12, 13, 14, 15] _ (by kernel_rfl) (List.Sublist.refl _) ?_ | refine GC_drawB (id := 8) [0, 1, 2, 3, 8, 9] [4, 5, 6, 7] [10, 11, 12, 13] _ (by kernel_rfl) (List.Sublist.refl _) ?_ | refine GC_drawA (id := 9) [0, 1, 2, 3, 4, 5, 6, 7, 8, 9, 10, 11] [] (by kernel_rfl) ?_ | refine GC_drawB (id := 10) [0, 2, 3, 4, 5, 6, 7, 8, 9, 10, 11, 12, 13, 14, 21, 22] [1, 15, 16, 17, 18, 19, 20] [23, 24, 25, 26] _ (by kernel_rfl) (List.Sublist.refl _) ?_ | refine GC_drawA (id := 20) [0, 1, 2, 3, 4, 5, 6, 7, 8, 9, 10, 11, 12, 13, 14, 15, 16, 17, 18, 19, 20, 21, 22, 23, 24, 25, 26, 27, 28] [] (by kernel_rfl) ?_ | ((first | apply GD_at | apply GL_at | apply GD_no | apply GL_no); exact rfl) | apply DFin_0 | (apply q1_; exact z_) | (apply q0_; exact z_) | (apply q2_; exact z_))
    all_goals try simp only [setH]
    all_goals first | exact GX_loop (_, _) ⟨rfl, rfl, rfl, rfl, rfl, trivial⟩ Nat.zero_lt_one trivial (fun w hw => hw.weak (fun r h => h) (List.Sublist.refl _)) | exact GX_loop (_, _) ⟨rfl, rfl, rfl, rfl, rfl, trivial⟩ Nat.zero_lt_one trivial (fun w hw => (hw.perm (List.Perm.swap ..)).weak (fun r h => h) (List.Sublist.refl _))
  rintro ⟨p7, p8⟩ _
  try simp only
  apply GC_seq
  refine GC_mid (α := (Nat × Nat × List Value) × (Nat × Nat × List Value)) (fun s => [(7, pt p7), (8, pt p8), (3, pt p3), (1, .int .u8 x), (2, .int .u8 y)]) (fun s => [((fun _ => True), w)]) (fun s => [(s.2.1, .cells ((k.beat.vats).flatMap encV ++ s.2.2.2).toArray 108), (s.1.1, .cells ((k.beat.vats).flatMap encV ++ s.1.2.2).toArray 108), (p8, .cells (wkC a b c (.slice (some ⟨s.2.1, 0, none⟩) k.beat.vats.length s.2.2.1) e f k).toArray 35), (p7, .cells (wkC a b c (.slice (some ⟨s.1.1, 0, none⟩) k.beat.vats.length s.1.2.1) e f k).toArray 35), (p3, .cells (wkC a b c d e f k).toArray 35)]) (fun s => Own 4 encV (.slice (some ⟨s.1.1, 0, none⟩) k.beat.vats.length s.1.2.1) (k.beat.vats) s.1.2.2 ∧ Own 4 encV (.slice (some ⟨s.2.1, 0, none⟩) k.beat.vats.length s.2.2.1) (k.beat.vats) s.2.2.2) ?_ ?_
  · refine GC_drawB (id := 4) [] [1, 2, 3, 6, 7, 8] [0, 4, 5, 9, 10, 11, 12, 13, 14, 15] [(p3, .cells (wkC a b c d e f k).toArray 35)] (by kernel_rfl) (.cons _ (.cons _ (List.Sublist.refl _))) ?_
    repeat' (first | apply s_ | ((first | apply JO_ob | apply GD_ex | apply GL_ex); exact rfl; first | exact ob1) | ((first | apply b_ | apply a_ | apply i_); exact z_; intro _) | ((first | apply p_ | apply JO_yes | apply GC_t); exact z_) | (apply n_; exact z_) | (apply GC_f; exact z_) | (apply GX_block_on; exact z_) | refine GC_drawB (id := 3) [] [0, 1] [2, 3, 4, 5] _ (by kernel_rfl) (List.Sublist.refl _) ?_ | refine GC_drawB (id := 4) [] [1, 2, 3, 6, 7, 8] [0, 4, 5, 9, 10, 11, 12, 13, 14, 15] _ (by kernel_rfl) (List.Sublist.refl _) ?_ | refine GC_drawB (id := 8) [0, 1, 2, 3, 8, 9] [4, 5, 6, 7] [10, 11, 12, 13] _ (by kernel_rfl) (List.Sublist.refl _) ?_ | refine GC_drawA (id := 9) [0, 1, 2, 3, 4, 5, 6, 7, 8, 9, 10, 11] [] (by kernel_rfl) ?_ | refine GC_drawB (id := 10) [0, 2, 3, 4, 5, 6, 7, 8, 9, 10, 11, 12, 13, 14, 21, 22] [1, 15, 16, 17, 18, 19, 20] [23, 24, 25, 26] _ (by kernel_rfl) (List.Sublist.refl _) ?_ | refine GC_drawA (id := 20) [0, 1, 2, 3, 4, 5, 6, 7, 8, 9, 10, 11, 12, 13, 14, 15, 16, 17, 18, 19, 20, 21, 22, 23, 24, 25, 26, 27, 28] [] (by kernel_rfl) ?_ | ((first | apply GD_at | apply GL_at | apply GD_no | apply GL_no); exact rfl) | apply DFin_0 | (apply q1_; exact z_) | (apply q0_; exact z_) | (apply q2_; exact z_))
    all_goals
      refine JO_copy (ys := k.beat.vats) _ rfl rfl rfl (fun _ => rfl) (by first | exact List.Perm.refl _ | exact List.Perm.swap _ _ _) (fun w hw => hw.slArr mm_ h.beat.vats (by decide)) (allOne_flat (fun _ => rfl) _) (by omega) (by omega) ?_
      intro b1 c1 sp1 ho1
      repeat' (first | apply s_ | ((first | apply JO_ob | apply GD_ex | apply GL_ex); exact rfl; first | exact ob1) | ((first | apply b_ | apply a_ | apply i_); exact z_; intro _) | ((first | apply p_ | apply JO_yes | apply GC_t); exact z_) | (apply n_; exact z_) | (apply GC_f; exact z_) | (apply GX_block_on; exact z_) | refine GC_drawB (id := 3) [] [0, 1] [2, 3, 4, 5] _ (by kernel_rfl) (List.Sublist.refl _) ?_ | refine GC_drawB (id := 4) [] [1, 2, 3, 6, 7, 8] [0, 4, 5, 9, 10, 11, 12, 13, 14, 15] _ (by kernel_rfl) (List.Sublist.refl _) ?_ | refine GC_drawB (id := 8) [0, 1, 2, 3, 8, 9] [4, 5, 6, 7] [10, 11, 12, 13] _ (by kernel_rfl) (List.Sublist.refl _) ?_ | refine GC_drawA (id := 9) [0, 1, 2, 3, 4, 5, 6, 7, 8, 9, 10, 11] [] (by kernel_rfl) ?_ | refine GC_drawB (id := 10) [0, 2, 3, 4, 5, 6, 7, 8, 9, 10, 11, 12, 13, 14, 21, 22] [1, 15, 16, 17, 18, 19, 20] [23, 24, 25, 26] _ (by kernel_rfl) (List.Sublist.refl _) ?_ | refine GC_drawA (id := 20) [0, 1, 2, 3, 4, 5, 6, 7, 8, 9, 10, 11, 12, 13, 14, 15, 16, 17, 18, 19, 20, 21, 22, 23, 24, 25, 26, 27, 28] [] (by kernel_rfl) ?_ | ((first | apply GD_at | apply GL_at | apply GD_no | apply GL_no); exact rfl) | apply DFin_0 | (apply q1_; exact z_) | (apply q0_; exact z_) | (apply q2_; exact z_))
    all_goals
      refine JO_copy (ys := k.beat.vats) _ rfl rfl rfl (fun _ => rfl) (by first | exact List.Perm.refl _ | exact List.Perm.swap _ _ _) (fun w hw => hw.slArr mm_ h.beat.vats (by decide)) (allOne_flat (fun _ => rfl) _) (by omega) (by omega) ?_
      intro b2 c2 sp2 ho2
      repeat' (first | apply s_ | ((first | apply JO_ob | apply GD_ex | apply GL_ex); exact rfl; first | exact ob1) | ((first | apply b_ | apply a_ | apply i_); exact z_; intro _) | ((first | apply p_ | apply JO_yes | apply GC_t); exact z_) | (apply n_; exact z_) | (apply GC_f; exact z_) | (apply GX_block_on; exact z_) | refine GC_drawB (id := 3) [] [0, 1] [2, 3, 4, 5] _ (by kernel_rfl) (List.Sublist.refl _) ?_ | refine GC_drawB (id := 4) [] [1, 2, 3, 6, 7, 8] [0, 4, 5, 9, 10, 11, 12, 13, 14, 15] _ (by kernel_rfl) (List.Sublist.refl _) ?_ | refine GC_drawB (id := 8) [0, 1, 2, 3, 8, 9] [4, 5, 6, 7] [10, 11, 12, 13] _ (by kernel_rfl) (List.Sublist.refl _) ?_ | refine GC_drawA (id := 9) [0, 1, 2, 3, 4, 5, 6, 7, 8, 9, 10, 11] [] (by kernel_rfl) ?_ | refine GC_drawB (id := 10) [0, 2, 3, 4, 5, 6, 7, 8, 9, 10, 11, 12, 13, 14, 21, 22] [1, 15, 16, 17, 18, 19, 20] [23, 24, 25, 26] _ (by kernel_rfl) (List.Sublist.refl _) ?_ | refine GC_drawA (id := 20) [0, 1, 2, 3, 4, 5, 6, 7, 8, 9, 10, 11, 12, 13, 14, 15, 16, 17, 18, 19, 20, 21, 22, 23, 24, 25, 26, 27, 28] [] (by kernel_rfl) ?_ | ((first | apply GD_at | apply GL_at | apply GD_no | apply GL_no); exact rfl) | apply DFin_0 | (apply q1_; exact z_) | (apply q0_; exact z_) | (apply q2_; exact z_))
    all_goals try simp only [setH]
    all_goals first | exact GX_loop ((b1, c1, sp1), (b2, c2, sp2)) ⟨rfl, rfl, rfl, rfl, rfl, trivial⟩ Nat.zero_lt_one ⟨ho1, ho2⟩ (fun w hw => hw.weak (fun r h => h) (List.Sublist.refl _)) | exact GX_loop ((b2, c2, sp2), (b1, c1, sp1)) ⟨rfl, rfl, rfl, rfl, rfl, trivial⟩ Nat.zero_lt_one ⟨ho2, ho1⟩ (fun w hw => (hw.perm (List.Perm.swap ..)).weak (fun r h => h) (List.Sublist.refl _))
  rintro ⟨⟨b1, c1, sp1⟩, ⟨b2, c2, sp2⟩⟩ ⟨ho1, ho2⟩
  simp only at ho1 ho2 ⊢
  apply GC_seq
  refine GC_mid (α := Unit) (fun s => [(7, pt p7), (8, pt p8), (3, pt p3), (1, .int .u8 x), (2, .int .u8 y)]) (fun s => [((fun _ => True), w)]) (fun s => [(b2, .cells ((k.beat.vats).flatMap encV ++ sp2).toArray 108), (b1, .cells ((noLoss k.beat.vats).flatMap encV ++ sp1).toArray 108), (p8, .cells (wkC a b c (.slice (some ⟨b2, 0, none⟩) k.beat.vats.length c2) e f k).toArray 35), (p7, .cells (wkC a b c (.slice (some ⟨b1, 0, none⟩) k.beat.vats.length c1) e f k).toArray 35), (p3, .cells (wkC a b c d e f k).toArray 35)]) (fun s => True) ?_ ?_
  · repeat' (first | apply s_ | ((first | apply JO_ob | apply GD_ex | apply GL_ex); exact rfl; first | exact ob1) | ((first | apply b_ | apply a_ | apply i_); exact z_; intro _) | ((first | apply p_ | apply JO_yes | apply GC_t); exact z_) | (apply n_; exact z_) | (apply GC_f; exact z_) | (apply GX_block_on; exact z_) | refine GC_drawB (id := 3) [] [0, 1] [2, 3, 4, 5] _ (by kernel_rfl) (List.Sublist.refl _) ?_ | refine GC_drawB (id := 4) [] [1, 2, 3, 6, 7, 8] [0, 4, 5, 9, 10, 11, 12, 13, 14, 15] _ (by kernel_rfl) (List.Sublist.refl _) ?_ | refine GC_drawB (id := 8) [0, 1, 2, 3, 8, 9] [4, 5, 6, 7] [10, 11, 12, 13] _ (by kernel_rfl) (List.Sublist.refl _) ?_ | refine GC_drawA (id := 9) [0, 1, 2, 3, 4, 5, 6, 7, 8, 9, 10, 11] [] (by kernel_rfl) ?_ | refine GC_drawB (id := 10) [0, 2, 3, 4, 5, 6, 7, 8, 9, 10, 11, 12, 13, 14, 21, 22] [1, 15, 16, 17, 18, 19, 20] [23, 24, 25, 26] _ (by kernel_rfl) (List.Sublist.refl _) ?_ | refine GC_drawA (id := 20) [0, 1, 2, 3, 4, 5, 6, 7, 8, 9, 10, 11, 12, 13, 14, 15, 16, 17, 18, 19, 20, 21, 22, 23, 24, 25, 26, 27, 28] [] (by kernel_rfl) ?_ | ((first | apply GD_at | apply GL_at | apply GD_no | apply GL_no); exact rfl) | apply DFin_0 | (apply q1_; exact z_) | (apply q0_; exact z_) | (apply q2_; exact z_))
    refine GC_loop (α := Nat) (fun i => k.beat.vats.length - i) (fun i => [(9, .int .i64 (i : Int)), (7, pt p7), (8, pt p8), (3, pt p3), (1, .int .u8 x), (2, .int .u8 y)]) (fun _ => [((fun _ => True), w)]) (fun i => [(b2, .cells ((k.beat.vats).flatMap encV ++ sp2).toArray 108), (b1, .cells ((zn k.beat.vats i).flatMap encV ++ sp1).toArray 108), (p8, .cells (wkC a b c (.slice (some ⟨b2, 0, none⟩) k.beat.vats.length c2) e f k).toArray 35), (p7, .cells (wkC a b c (.slice (some ⟨b1, 0, none⟩) k.beat.vats.length c1) e f k).toArray 35), (p3, .cells (wkC a b c d e f k).toArray 35)]) (fun i => i ≤ k.beat.vats.length) 0 ⟨rfl, rfl, rfl, rfl, rfl, rfl, trivial⟩ (Nat.zero_le _) (fun w hw => hw) ?_
    intro i hi
    by_cases hlt : i < k.beat.vats.length
    · have hz1 : (zn k.beat.vats i)[i]? = some (nth k.beat.vats i) := by
        rw [nth_some (by rw [zn_len]; exact hlt), zn_nth _ _ _ hlt, if_neg (by omega)]
      repeat' (first | apply s_ | (apply JO_ob; exact rfl; first | exact ob1 | exact Ob_len_lit rfl) | ((first | apply b_ | apply a_ | apply i_); exact z_; intro _) | ((first | apply p_ | apply JO_yes | apply GC_t); exact z_) | (apply n_; exact z_) | (apply GC_f; exact z_) | (apply GX_block_on; exact z_))
      refine GC_drawB (id := 8) [0, 1, 2, 3, 8, 9] [4, 5, 6, 7] [10, 11, 12, 13] [(p7, .cells (wkC a b c (.slice (some ⟨b1, 0, none⟩) k.beat.vats.length c1) e f k).toArray 35)] (by kernel_rfl) (.cons _ (.cons _ (.cons _ (.cons_cons _ (List.nil_sublist _))))) ?_
      repeat' (first | apply s_ | ((first | apply JO_ob | apply GD_ex | apply GL_ex); exact rfl; first | exact ob1 | exact Ob_len_lit rfl | exact Ob_index_row rfl rfl hlt) | ((first | apply b_ | apply a_ | apply i_); exact z_; intro _) | ((first | apply p_ | apply JO_yes | apply GC_t); exact z_) | (apply n_; exact z_) | (apply GC_f; exact z_) | (apply GX_block_on; exact z_) | refine GC_drawB (id := 3) [] [0, 1] [2, 3, 4, 5] _ (by kernel_rfl) (List.Sublist.refl _) ?_ | refine GC_drawB (id := 4) [] [1, 2, 3, 6, 7, 8] [0, 4, 5, 9, 10, 11, 12, 13, 14, 15] _ (by kernel_rfl) (List.Sublist.refl _) ?_ | refine GC_drawB (id := 8) [0, 1, 2, 3, 8, 9] [4, 5, 6, 7] [10, 11, 12, 13] _ (by kernel_rfl) (List.Sublist.refl _) ?_ | refine GC_drawA (id := 9) [0, 1, 2, 3, 4, 5, 6, 7, 8, 9, 10, 11] [] (by kernel_rfl) ?_ | refine GC_drawB (id := 10) [0, 2, 3, 4, 5, 6, 7, 8, 9, 10, 11, 12, 13, 14, 21, 22] [1, 15, 16, 17, 18, 19, 20] [23, 24, 25, 26] _ (by kernel_rfl) (List.Sublist.refl _) ?_ | refine GC_drawA (id := 20) [0, 1, 2, 3, 4, 5, 6, 7, 8, 9, 10, 11, 12, 13, 14, 15, 16, 17, 18, 19, 20, 21, 22, 23, 24, 25, 26, 27, 28] [] (by kernel_rfl) ?_ | ((first | apply GD_at | apply GL_at | apply GD_no | apply GL_no); exact rfl) | apply DFin_0 | (apply q1_; exact z_) | (apply q0_; exact z_) | (apply q2_; exact z_))
      refine JO_store_row (enc := encV) (m := 1) (k := 2) (sz := 4) (j := 1) (xs := zn k.beat.vats i) (sp := sp1) (a := nth k.beat.vats i) (a' := { nth k.beat.vats i with early := 0 }) (vs := [.int .i64 0]) (fun _ => rfl) rfl rfl rfl inferInstance rfl hz1 (by omega) rfl ?_
      simp only [setH]
      repeat' (first | apply s_ | ((first | apply JO_ob | apply GD_ex | apply GL_ex); exact rfl; first | exact ob1 | exact Ob_index_row rfl rfl hlt) | ((first | apply b_ | apply a_ | apply i_); exact z_; intro _) | ((first | apply p_ | apply JO_yes | apply GC_t); exact z_) | (apply n_; exact z_) | (apply GC_f; exact z_) | (apply GX_block_on; exact z_) | refine GC_drawB (id := 3) [] [0, 1] [2, 3, 4, 5] _ (by kernel_rfl) (List.Sublist.refl _) ?_ | refine GC_drawB (id := 4) [] [1, 2, 3, 6, 7, 8] [0, 4, 5, 9, 10, 11, 12, 13, 14, 15] _ (by kernel_rfl) (List.Sublist.refl _) ?_ | refine GC_drawB (id := 8) [0, 1, 2, 3, 8, 9] [4, 5, 6, 7] [10, 11, 12, 13] _ (by kernel_rfl) (List.Sublist.refl _) ?_ | refine GC_drawA (id := 9) [0, 1, 2, 3, 4, 5, 6, 7, 8, 9, 10, 11] [] (by kernel_rfl) ?_ | refine GC_drawB (id := 10) [0, 2, 3, 4, 5, 6, 7, 8, 9, 10, 11, 12, 13, 14, 21, 22] [1, 15, 16, 17, 18, 19, 20] [23, 24, 25, 26] _ (by kernel_rfl) (List.Sublist.refl _) ?_ | refine GC_drawA (id := 20) [0, 1, 2, 3, 4, 5, 6, 7, 8, 9, 10, 11, 12, 13, 14, 15, 16, 17, 18, 19, 20, 21, 22, 23, 24, 25, 26, 27, 28] [] (by kernel_rfl) ?_ | ((first | apply GD_at | apply GL_at | apply GD_no | apply GL_no); exact rfl) | apply DFin_0 | (apply q1_; exact z_) | (apply q0_; exact z_) | (apply q2_; exact z_))
      refine JO_store_row (enc := encV) (m := 1) (k := 3) (sz := 4) (j := 1) (xs := (zn k.beat.vats i).set i { nth k.beat.vats i with early := 0 }) (sp := sp1) (a := { nth k.beat.vats i with early := 0 }) (a' := zv (nth k.beat.vats i)) (vs := [.int .i64 0]) (fun _ => rfl) rfl rfl rfl inferInstance rfl (by rw [List.getElem?_set_self (by rw [zn_len]; exact hlt)]) (by omega) rfl ?_
      simp only [setH]
      repeat' (first | apply s_ | ((first | apply JO_ob | apply GD_ex | apply GL_ex); exact rfl; first | exact ob1 | exact Ob_index_row rfl rfl hlt) | ((first | apply b_ | apply a_ | apply i_); exact z_; intro _) | ((first | apply p_ | apply JO_yes | apply GC_t); exact z_) | (apply n_; exact z_) | (apply GC_f; exact z_) | (apply GX_block_on; exact z_) | refine GC_drawB (id := 3) [] [0, 1] [2, 3, 4, 5] _ (by kernel_rfl) (List.Sublist.refl _) ?_ | refine GC_drawB (id := 4) [] [1, 2, 3, 6, 7, 8] [0, 4, 5, 9, 10, 11, 12, 13, 14, 15] _ (by kernel_rfl) (List.Sublist.refl _) ?_ | refine GC_drawB (id := 8) [0, 1, 2, 3, 8, 9] [4, 5, 6, 7] [10, 11, 12, 13] _ (by kernel_rfl) (List.Sublist.refl _) ?_ | refine GC_drawA (id := 9) [0, 1, 2, 3, 4, 5, 6, 7, 8, 9, 10, 11] [] (by kernel_rfl) ?_ | refine GC_drawB (id := 10) [0, 2, 3, 4, 5, 6, 7, 8, 9, 10, 11, 12, 13, 14, 21, 22] [1, 15, 16, 17, 18, 19, 20] [23, 24, 25, 26] _ (by kernel_rfl) (List.Sublist.refl _) ?_ | refine GC_drawA (id := 20) [0, 1, 2, 3, 4, 5, 6, 7, 8, 9, 10, 11, 12, 13, 14, 15, 16, 17, 18, 19, 20, 21, 22, 23, 24, 25, 26, 27, 28] [] (by kernel_rfl) ?_ | ((first | apply GD_at | apply GL_at | apply GD_no | apply GL_no); exact rfl) | apply DFin_0 | (apply q1_; exact z_) | (apply q0_; exact z_) | (apply q2_; exact z_))
      exact GX_loop (i + 1) ⟨rfl, rfl, rfl, rfl, rfl, rfl, trivial⟩ (by omega) (by omega) (fun w hw => by simp only [List.set_set] at hw; exact hw)
    · have hie : i = k.beat.vats.length := by omega
      subst hie
      rw [zn_all]
      repeat' (first | apply s_ | ((first | apply JO_ob | apply GD_ex | apply GL_ex); exact rfl; first | exact ob1 | exact Ob_len_lit rfl) | ((first | apply b_ | apply a_ | apply i_); exact z_; intro _) | ((first | apply p_ | apply JO_yes | apply GC_t); exact z_) | (apply n_; exact z_) | (apply GC_f; exact z_) | (apply GX_block_on; exact z_) | refine GC_drawB (id := 3) [] [0, 1] [2, 3, 4, 5] _ (by kernel_rfl) (List.Sublist.refl _) ?_ | refine GC_drawB (id := 4) [] [1, 2, 3, 6, 7, 8] [0, 4, 5, 9, 10, 11, 12, 13, 14, 15] _ (by kernel_rfl) (List.Sublist.refl _) ?_ | refine GC_drawB (id := 8) [0, 1, 2, 3, 8, 9] [4, 5, 6, 7] [10, 11, 12, 13] _ (by kernel_rfl) (List.Sublist.refl _) ?_ | refine GC_drawA (id := 9) [0, 1, 2, 3, 4, 5, 6, 7, 8, 9, 10, 11] [] (by kernel_rfl) ?_ | refine GC_drawB (id := 10) [0, 2, 3, 4, 5, 6, 7, 8, 9, 10, 11, 12, 13, 14, 21, 22] [1, 15, 16, 17, 18, 19, 20] [23, 24, 25, 26] _ (by kernel_rfl) (List.Sublist.refl _) ?_ | refine GC_drawA (id := 20) [0, 1, 2, 3, 4, 5, 6, 7, 8, 9, 10, 11, 12, 13, 14, 15, 16, 17, 18, 19, 20, 21, 22, 23, 24, 25, 26, 27, 28] [] (by kernel_rfl) ?_ | ((first | apply GD_at | apply GL_at | apply GD_no | apply GL_no); exact rfl) | apply DFin_0 | (apply q1_; exact z_) | (apply q0_; exact z_) | (apply q2_; exact z_))
      exact GX_loop () ⟨rfl, rfl, rfl, rfl, rfl, trivial⟩ Nat.zero_lt_one trivial (fun w hw => hw)
  intro _ _
  try simp only
  obtain ⟨j, hj⟩ : ∃ j : Nat, x % (k.beat.vats.length : Int) = (j : Int) := ⟨(x % (k.beat.vats.length : Int)).toNat, (Int.toNat_of_nonneg (Int.emod_nonneg _ (by omega))).symm⟩
  have hjl : j < k.beat.vats.length := by
    have := Int.emod_lt_of_pos x (b := (k.beat.vats.length : Int)) (by omega)
    omega
  have he : ∀ j, j < k.beat.vats.length → (0 ≤ (nth k.beat.vats j).early ∧ (nth k.beat.vats j).early ≤ 20) ∧ 0 ≤ (nth k.beat.vats j).late ∧ (nth k.beat.vats j).late ≤ 20 := fun j hj => (hK.b.v j hj).2
  have hej := he j hjl
  apply GC_seq
  refine GC_mid (α := Unit) (fun s => [(10, .pointer (some ⟨b2, oo (ix 4 j) 0, none⟩)), (7, pt p7), (8, pt p8), (3, pt p3), (1, .int .u8 x), (2, .int .u8 y)]) (fun s => [((fun _ => True), w)]) (fun s => [(b2, .cells ((k.beat.vats).flatMap encV ++ sp2).toArray 108), (b1, .cells ((noLoss k.beat.vats).flatMap encV ++ sp1).toArray 108), (p8, .cells (wkC a b c (.slice (some ⟨b2, 0, none⟩) k.beat.vats.length c2) e f k).toArray 35), (p7, .cells (wkC a b c (.slice (some ⟨b1, 0, none⟩) k.beat.vats.length c1) e f k).toArray 35), (p3, .cells (wkC a b c d e f k).toArray 35)]) (fun s => True) ?_ ?_
  · repeat' (first | apply s_ | ((first | apply JO_ob | apply GD_ex | apply GL_ex); exact rfl; first | exact ob1 | exact Ob_convert rfl (wrapI (by omega) (by omega)) | exact Ob_len_lit rfl | exact Ob_rem rfl rfl (by omega) (by omega) | exact Ob_index_row rfl (congrArg (fun z => some (Value.int .i64 z)) hj) hjl) | ((first | apply b_ | apply a_ | apply i_); exact z_; intro _) | ((first | apply p_ | apply JO_yes | apply GC_t); exact z_) | (apply n_; exact z_) | (apply GC_f; exact z_) | (apply GX_block_on; exact z_) | refine GC_drawB (id := 3) [] [0, 1] [2, 3, 4, 5] _ (by kernel_rfl) (List.Sublist.refl _) ?_ | refine GC_drawB (id := 4) [] [1, 2, 3, 6, 7, 8] [0, 4, 5, 9, 10, 11, 12, 13, 14, 15] _ (by kernel_rfl) (List.Sublist.refl _) ?_ | refine GC_drawB (id := 8) [0, 1, 2, 3, 8, 9] [4, 5, 6, 7] [10, 11, 12, 13] _ (by kernel_rfl) (List.Sublist.refl _) ?_ | refine GC_drawA (id := 9) [0, 1, 2, 3, 4, 5, 6, 7, 8, 9, 10, 11] [] (by kernel_rfl) ?_ | refine GC_drawB (id := 10) [0, 2, 3, 4, 5, 6, 7, 8, 9, 10, 11, 12, 13, 14, 21, 22] [1, 15, 16, 17, 18, 19, 20] [23, 24, 25, 26] _ (by kernel_rfl) (List.Sublist.refl _) ?_ | refine GC_drawA (id := 20) [0, 1, 2, 3, 4, 5, 6, 7, 8, 9, 10, 11, 12, 13, 14, 15, 16, 17, 18, 19, 20, 21, 22, 23, 24, 25, 26, 27, 28] [] (by kernel_rfl) ?_ | ((first | apply GD_at | apply GL_at | apply GD_no | apply GL_no); exact rfl) | apply DFin_0 | (apply q1_; exact z_) | (apply q0_; exact z_) | (apply q2_; exact z_))
    all_goals exact GX_loop () ⟨rfl, rfl, rfl, rfl, rfl, rfl, trivial⟩ Nat.zero_lt_one trivial (fun w hw => hw.cut)
  intro _ _
  try simp only
  apply GC_seq
  refine GC_mid (α := (Nat → Prop) × World) (fun s => [(7, pt p7), (8, pt p8), (3, pt p3)]) (fun s => [(s.1, s.2), ((fun _ => True), w)]) (fun s => [(p8, .cells (wkC a b c (.slice (some ⟨b2, 0, none⟩) k.beat.vats.length c2) e f (vatsK k (moreLoss k.beat.vats j (y % 4) (y / 4 % 4)))).toArray 35), (p7, .cells (wkC a b c (.slice (some ⟨b1, 0, none⟩) k.beat.vats.length c1) e f (vatsK k (noLoss k.beat.vats))).toArray 35), (p3, .cells (wkC a b c d e f k).toArray 35)]) (fun s => WkA s.1 s.2 a b c hs (.slice (some ⟨b1, 0, none⟩) k.beat.vats.length c1) e f (vatsK k (noLoss k.beat.vats)) ∧ WkA s.1 s.2 a b c hs (.slice (some ⟨b2, 0, none⟩) k.beat.vats.length c2) e f (vatsK k (moreLoss k.beat.vats j (y % 4) (y / 4 % 4)))) ?_ ?_
  · repeat' (first | apply s_ | (apply JO_ob; exact rfl; first | exact ob1) | ((first | apply b_ | apply a_ | apply i_); exact z_; intro _) | ((first | apply p_ | apply JO_yes | apply GC_t); exact z_) | (apply n_; exact z_) | (apply GC_f; exact z_) | (apply GX_block_on; exact z_))
    refine GC_drawB (id := 10) [0, 2, 3, 4, 5, 6, 7, 8, 9, 10, 11, 12, 13, 14, 21, 22] [1, 15, 16, 17, 18, 19, 20] [23, 24, 25, 26] [] (by kernel_rfl) (List.nil_sublist _) ?_
    repeat' (first | apply s_ | ((first | apply JO_ob | apply GD_ex | apply GL_ex); exact rfl; first | exact ob1 | exact Ob_convert rfl (wrapI (by omega) (by omega)) | exact Ob_load_row (enc := encV) (xs := k.beat.vats) (sp := sp2) (sz := 4) (i := j) (k := 2) (fun _ => rfl) rfl mem_ (nth_some hjl) (by omega) rfl | exact Ob_load_row (enc := encV) (xs := k.beat.vats) (sp := sp2) (sz := 4) (i := j) (k := 3) (fun _ => rfl) rfl mem_ (nth_some hjl) (by omega) rfl | exact Ob_rem rfl rfl (by omega) (by omega) | exact Ob_quo rfl rfl (by omega) (by omega) (by omega)) | ((first | apply b_ | apply a_ | apply i_); exact z_; intro _) | ((first | apply p_ | apply JO_yes | apply GC_t); exact z_) | (apply n_; exact z_) | (apply GC_f; exact z_) | (apply GX_block_on; exact z_) | refine GC_drawB (id := 3) [] [0, 1] [2, 3, 4, 5] _ (by kernel_rfl) (List.Sublist.refl _) ?_ | refine GC_drawB (id := 4) [] [1, 2, 3, 6, 7, 8] [0, 4, 5, 9, 10, 11, 12, 13, 14, 15] _ (by kernel_rfl) (List.Sublist.refl _) ?_ | refine GC_drawB (id := 8) [0, 1, 2, 3, 8, 9] [4, 5, 6, 7] [10, 11, 12, 13] _ (by kernel_rfl) (List.Sublist.refl _) ?_ | refine GC_drawA (id := 9) [0, 1, 2, 3, 4, 5, 6, 7, 8, 9, 10, 11] [] (by kernel_rfl) ?_ | refine GC_drawB (id := 10) [0, 2, 3, 4, 5, 6, 7, 8, 9, 10, 11, 12, 13, 14, 21, 22] [1, 15, 16, 17, 18, 19, 20] [23, 24, 25, 26] _ (by kernel_rfl) (List.Sublist.refl _) ?_ | refine GC_drawA (id := 20) [0, 1, 2, 3, 4, 5, 6, 7, 8, 9, 10, 11, 12, 13, 14, 15, 16, 17, 18, 19, 20, 21, 22, 23, 24, 25, 26, 27, 28] [] (by kernel_rfl) ?_ | ((first | apply GD_at | apply GL_at | apply GD_no | apply GL_no); exact rfl) | apply DFin_0 | (apply q1_; exact z_) | (apply q0_; exact z_) | (apply q2_; exact z_))

    refine JO_store_row (enc := encV) (m := 1) (k := 2) (sz := 4) (j := 0) (xs := k.beat.vats) (sp := sp2) (a := nth k.beat.vats j) (a' := { nth k.beat.vats j with early := min 20 ((nth k.beat.vats j).early + y % 4) }) (vs := [.int .i64 (min 20 ((nth k.beat.vats j).early + y % 4))]) (fun _ => rfl) rfl rfl rfl inferInstance rfl (nth_some hjl) (by omega) rfl ?_
    simp only [setH]
    repeat' (first | apply s_ | ((first | apply JO_ob | apply GD_ex | apply GL_ex); exact rfl; first | exact ob1 | exact Ob_convert rfl (wrapI (by omega) (by omega)) | exact Ob_load_row (enc := encV) (xs := k.beat.vats) (sp := sp2) (sz := 4) (i := j) (k := 2) (fun _ => rfl) rfl mem_ (nth_some hjl) (by omega) rfl | exact Ob_load_row (enc := encV) (xs := k.beat.vats) (sp := sp2) (sz := 4) (i := j) (k := 3) (fun _ => rfl) rfl mem_ (nth_some hjl) (by omega) rfl | exact Ob_rem rfl rfl (by omega) (by omega) | exact Ob_quo rfl rfl (by omega) (by omega) (by omega)) | ((first | apply b_ | apply a_ | apply i_); exact z_; intro _) | ((first | apply p_ | apply JO_yes | apply GC_t); exact z_) | (apply n_; exact z_) | (apply GC_f; exact z_) | (apply GX_block_on; exact z_) | refine GC_drawB (id := 3) [] [0, 1] [2, 3, 4, 5] _ (by kernel_rfl) (List.Sublist.refl _) ?_ | refine GC_drawB (id := 4) [] [1, 2, 3, 6, 7, 8] [0, 4, 5, 9, 10, 11, 12, 13, 14, 15] _ (by kernel_rfl) (List.Sublist.refl _) ?_ | refine GC_drawB (id := 8) [0, 1, 2, 3, 8, 9] [4, 5, 6, 7] [10, 11, 12, 13] _ (by kernel_rfl) (List.Sublist.refl _) ?_ | refine GC_drawA (id := 9) [0, 1, 2, 3, 4, 5, 6, 7, 8, 9, 10, 11] [] (by kernel_rfl) ?_ | refine GC_drawB (id := 10) [0, 2, 3, 4, 5, 6, 7, 8, 9, 10, 11, 12, 13, 14, 21, 22] [1, 15, 16, 17, 18, 19, 20] [23, 24, 25, 26] _ (by kernel_rfl) (List.Sublist.refl _) ?_ | refine GC_drawA (id := 20) [0, 1, 2, 3, 4, 5, 6, 7, 8, 9, 10, 11, 12, 13, 14, 15, 16, 17, 18, 19, 20, 21, 22, 23, 24, 25, 26, 27, 28] [] (by kernel_rfl) ?_ | ((first | apply GD_at | apply GL_at | apply GD_no | apply GL_no); exact rfl) | apply DFin_0 | (apply q1_; exact z_) | (apply q0_; exact z_) | (apply q2_; exact z_))
    refine JO_store_row (enc := encV) (m := 1) (k := 3) (sz := 4) (j := 0) (xs := k.beat.vats.set j { nth k.beat.vats j with early := min 20 ((nth k.beat.vats j).early + y % 4) }) (sp := sp2) (a := { nth k.beat.vats j with early := min 20 ((nth k.beat.vats j).early + y % 4) }) (a' := { nth k.beat.vats j with early := min 20 ((nth k.beat.vats j).early + y % 4), late := min 20 ((nth k.beat.vats j).late + y / 4 % 4) }) (vs := [.int .i64 (min 20 ((nth k.beat.vats j).late + y / 4 % 4))]) (fun _ => rfl) rfl rfl rfl inferInstance rfl (by rw [List.getElem?_set_self hjl]) (by omega) rfl ?_
    simp only [setH]
    repeat' (first | apply s_ | ((first | apply JO_ob | apply GD_ex | apply GL_ex); exact rfl; first | exact ob1) | ((first | apply b_ | apply a_ | apply i_); exact z_; intro _) | ((first | apply p_ | apply JO_yes | apply GC_t); exact z_) | (apply n_; exact z_) | (apply GC_f; exact z_) | (apply GX_block_on; exact z_) | refine GC_drawB (id := 3) [] [0, 1] [2, 3, 4, 5] _ (by kernel_rfl) (List.Sublist.refl _) ?_ | refine GC_drawB (id := 4) [] [1, 2, 3, 6, 7, 8] [0, 4, 5, 9, 10, 11, 12, 13, 14, 15] _ (by kernel_rfl) (List.Sublist.refl _) ?_ | refine GC_drawB (id := 8) [0, 1, 2, 3, 8, 9] [4, 5, 6, 7] [10, 11, 12, 13] _ (by kernel_rfl) (List.Sublist.refl _) ?_ | refine GC_drawA (id := 9) [0, 1, 2, 3, 4, 5, 6, 7, 8, 9, 10, 11] [] (by kernel_rfl) ?_ | refine GC_drawB (id := 10) [0, 2, 3, 4, 5, 6, 7, 8, 9, 10, 11, 12, 13, 14, 21, 22] [1, 15, 16, 17, 18, 19, 20] [23, 24, 25, 26] _ (by kernel_rfl) (List.Sublist.refl _) ?_ | refine GC_drawA (id := 20) [0, 1, 2, 3, 4, 5, 6, 7, 8, 9, 10, 11, 12, 13, 14, 15, 16, 17, 18, 19, 20, 21, 22, 23, 24, 25, 26, 27, 28] [] (by kernel_rfl) ?_ | ((first | apply GD_at | apply GL_at | apply GD_no | apply GL_no); exact rfl) | apply DFin_0 | (apply q1_; exact z_) | (apply q0_; exact z_) | (apply q2_; exact z_))
    refine GX_freeze1 (xs := (k.beat.vats.set j { nth k.beat.vats j with early := min 20 ((nth k.beat.vats j).early + y % 4) }).set j { nth k.beat.vats j with early := min 20 ((nth k.beat.vats j).early + y % 4), late := min 20 ((nth k.beat.vats j).late + y / 4 % 4) }) (ho2.other (by simp)) (by decide) fun G1 w1 hV1 => ?_
    refine GX_freeze1 (xs := noLoss k.beat.vats) (ho1.other (by simp [noLoss])) (by decide) fun G2 w2 hV2 => ?_
    rw [List.set_set] at hV1
    refine GX_loopw fun w5 hw5 => ?_
    have hv1 := hw5.toA (.tail _ (.head _)) hV1
    have hv2 := hw5.toA (.head _) hV2
    have u1 := hw5.toA (.tail _ (.tail _ (.head _))) h.yard.fields
    have u2 := hw5.toAn (.tail _ (.tail _ (.head _))) h.yard.vats
    have u3 := hw5.toA (.tail _ (.tail _ (.head _))) h.yard.smps
    have u5 := hw5.toA (.tail _ (.tail _ (.head _))) h.beat.smps
    have u6 := hw5.toA (.tail _ (.tail _ (.head _))) h.ends
    exact ⟨(OffA _, w5), ⟨rfl, rfl, rfl, trivial⟩, Nat.zero_lt_one, ⟨⟨⟨u1, u2, u3⟩, ⟨hv2, u5⟩, u6⟩, ⟨⟨u1, u2, u3⟩, ⟨hv1, u5⟩, u6⟩⟩, hw5.offA.cut⟩
  rintro ⟨G', w'⟩ ⟨hX, hY⟩
  simp only at hX hY ⊢
  have hsX := noLoss_same k.beat.vats
  have hsY := moreLoss_same (a := y % 4) (b := y / 4 % 4) hjl (by omega) (by omega) he
  have hfX := fault_vats hf hsX
  have hfY := fault_vats hf hsY
  have hlX := hsX.len
  have hlY := hsY.len
  have htX : thinW (vatsK k (noLoss k.beat.vats)) = true := by
    have h0 := ht
    simp only [thinW, thinB] at h0 ⊢
    show (thinY k.yard && (decide ((noLoss k.beat.vats).length ≤ 30) && decide (k.beat.smps.length ≤ 30)) && decide (k.ends.length ≤ 30)) = true
    rw [hlX]; exact h0
  have htY : thinW (vatsK k (moreLoss k.beat.vats j (y % 4) (y / 4 % 4))) = true := by
    have h0 := ht
    simp only [thinW, thinB] at h0 ⊢
    show (thinY k.yard && (decide ((moreLoss k.beat.vats j (y % 4) (y / 4 % 4)).length ≤ 30) && decide (k.beat.smps.length ≤ 30)) && decide (k.ends.length ≤ 30)) = true
    rw [hlY]; exact h0
  have htk : thinY k.yard = true := by
    have h0 := ht
    simp only [thinW, Bool.and_eq_true] at h0
    exact h0.1.1
  have eXY : (mudsV (vatsK k (noLoss k.beat.vats)) fun m => m) = bnds k.yard.vats.length (dots k.yard (truthsX k.yard)) := by
    refine ext_nth (by rw [mudsV_len]; simp [bnds, vatsK]) fun i hi => ?_
    rw [mudsV_len] at hi
    exact lossless_x hf hi
  have fY : ∀ i, i < k.yard.vats.length → (nth (mudsV (vatsK k (moreLoss k.beat.vats j (y % 4) (y / 4 % 4))) fun m => m) i).1 ≤ (nth (mudsV k fun m => m) i).1 := fun i hi => lossy_y hf hjl (by omega) (by omega) hi
  have lB : (bnds k.yard.vats.length (dots k.yard (truthsX k.yard))).length = k.yard.vats.length := by simp [bnds]
  have lK := mudsV_len k fun m => m
  have lY : (mudsV (vatsK k (moreLoss k.beat.vats j (y % 4) (y / 4 % 4))) fun m => m).length = k.yard.vats.length := mudsV_len _ _
  apply GC_seq
  refine GC_mid (α := VG) (fun s => [(11, s.1), (12, .int .i64 0), (7, pt p7), (8, pt p8), (3, pt p3)]) (fun s => [(s.2.1, s.2.2), (G', w'), ((fun _ => True), w)]) (fun s => [(p8, .cells (wkC a b c (.slice (some ⟨b2, 0, none⟩) k.beat.vats.length c2) e f (vatsK k (moreLoss k.beat.vats j (y % 4) (y / 4 % 4)))).toArray 35), (p7, .cells (wkC a b c (.slice (some ⟨b1, 0, none⟩) k.beat.vats.length c1) e f (vatsK k (noLoss k.beat.vats))).toArray 35), (p3, .cells (wkC a b c d e f k).toArray 35)]) (fun s => Arr s.2.1 s.2.2 2 encR s.1 (mudsV (vatsK k (noLoss k.beat.vats)) fun m => m)) ?_ ?_
  · repeat' (first | apply s_ | ((first | apply JO_ob | apply GD_ex | apply GL_ex); exact rfl; first | exact ob1) | ((first | apply b_ | apply a_ | apply i_); exact z_; intro _) | ((first | apply p_ | apply JO_yes | apply GC_t); exact z_) | (apply n_; exact z_) | (apply GC_f; exact z_) | (apply GX_block_on; exact z_) | refine GC_drawB (id := 3) [] [0, 1] [2, 3, 4, 5] _ (by kernel_rfl) (List.Sublist.refl _) ?_ | refine GC_drawB (id := 4) [] [1, 2, 3, 6, 7, 8] [0, 4, 5, 9, 10, 11, 12, 13, 14, 15] _ (by kernel_rfl) (List.Sublist.refl _) ?_ | refine GC_drawB (id := 8) [0, 1, 2, 3, 8, 9] [4, 5, 6, 7] [10, 11, 12, 13] _ (by kernel_rfl) (List.Sublist.refl _) ?_ | refine GC_drawA (id := 9) [0, 1, 2, 3, 4, 5, 6, 7, 8, 9, 10, 11] [] (by kernel_rfl) ?_ | refine GC_drawB (id := 10) [0, 2, 3, 4, 5, 6, 7, 8, 9, 10, 11, 12, 13, 14, 21, 22] [1, 15, 16, 17, 18, 19, 20] [23, 24, 25, 26] _ (by kernel_rfl) (List.Sublist.refl _) ?_ | refine GC_drawA (id := 20) [0, 1, 2, 3, 4, 5, 6, 7, 8, 9, 10, 11, 12, 13, 14, 15, 16, 17, 18, 19, 20, 21, 22, 23, 24, 25, 26, 27, 28] [] (by kernel_rfl) ?_ | ((first | apply GD_at | apply GL_at | apply GD_no | apply GL_no); exact rfl) | apply DFin_0 | (apply q1_; exact z_) | (apply q0_; exact z_) | (apply q2_; exact z_))
    refine JO_call (S := TwoW ((vatsK k (noLoss k.beat.vats)))) rfl rfl (fun w5 hw5 => c23W ((upk hw5 mm_ hX)) htX) ?_
    rintro _ uc9 ud9 hc9 hd9 hl9 ⟨a0, b0, c0, hs0, d0, e0, f0, rfl, hW0⟩
    have iw01 := hW0.yard.fields.v1
    have iw02 := hW0.yard.vats.arr.v1
    have iw03 := hW0.yard.smps.v1
    have iw04 := hW0.beat.vats.v1
    have iw05 := hW0.beat.smps.v1
    have iw06 := hW0.ends.v1
    repeat' (first | apply s_ | ((first | apply JO_ob | apply GD_ex | apply GL_ex); exact rfl; first | exact ob1) | ((first | apply b_ | apply a_ | apply i_); exact z_; intro _) | ((first | apply p_ | apply JO_yes | apply GC_t); exact z_) | (apply n_; exact z_) | (apply GC_f; exact z_) | (apply GX_block_on; exact z_) | refine GC_drawB (id := 3) [] [0, 1] [2, 3, 4, 5] _ (by kernel_rfl) (List.Sublist.refl _) ?_ | refine GC_drawB (id := 4) [] [1, 2, 3, 6, 7, 8] [0, 4, 5, 9, 10, 11, 12, 13, 14, 15] _ (by kernel_rfl) (List.Sublist.refl _) ?_ | refine GC_drawB (id := 8) [0, 1, 2, 3, 8, 9] [4, 5, 6, 7] [10, 11, 12, 13] _ (by kernel_rfl) (List.Sublist.refl _) ?_ | refine GC_drawA (id := 9) [0, 1, 2, 3, 4, 5, 6, 7, 8, 9, 10, 11] [] (by kernel_rfl) ?_ | refine GC_drawB (id := 10) [0, 2, 3, 4, 5, 6, 7, 8, 9, 10, 11, 12, 13, 14, 21, 22] [1, 15, 16, 17, 18, 19, 20] [23, 24, 25, 26] _ (by kernel_rfl) (List.Sublist.refl _) ?_ | refine GC_drawA (id := 20) [0, 1, 2, 3, 4, 5, 6, 7, 8, 9, 10, 11, 12, 13, 14, 15, 16, 17, 18, 19, 20, 21, 22, 23, 24, 25, 26, 27, 28] [] (by kernel_rfl) ?_ | ((first | apply GD_at | apply GL_at | apply GD_no | apply GL_no); exact rfl) | apply DFin_0 | (apply q1_; exact z_) | (apply q0_; exact z_) | (apply q2_; exact z_))
    refine JO_call (S := RgsW (mudsV (vatsK k (noLoss k.beat.vats)) fun m => m)) rfl rfl (fun w5 hw5 => c22F (upk hw5 (.head _) hW0) hfX) ?_
    rintro _ uc0 ud0 hc0 hd0 hl0 ⟨r0, rfl, hr0⟩
    have ir0 := hr0.v1
    have br0 := hr0.bound
    repeat' (first | apply s_ | ((first | apply JO_ob | apply GD_ex | apply GL_ex); exact rfl; first | exact ob1) | ((first | apply b_ | apply a_ | apply i_); exact z_; intro _) | ((first | apply p_ | apply JO_yes | apply GC_t); exact z_) | (apply n_; exact z_) | (apply GC_f; exact z_) | (apply GX_block_on; exact z_) | refine GC_drawB (id := 3) [] [0, 1] [2, 3, 4, 5] _ (by kernel_rfl) (List.Sublist.refl _) ?_ | refine GC_drawB (id := 4) [] [1, 2, 3, 6, 7, 8] [0, 4, 5, 9, 10, 11, 12, 13, 14, 15] _ (by kernel_rfl) (List.Sublist.refl _) ?_ | refine GC_drawB (id := 8) [0, 1, 2, 3, 8, 9] [4, 5, 6, 7] [10, 11, 12, 13] _ (by kernel_rfl) (List.Sublist.refl _) ?_ | refine GC_drawA (id := 9) [0, 1, 2, 3, 4, 5, 6, 7, 8, 9, 10, 11] [] (by kernel_rfl) ?_ | refine GC_drawB (id := 10) [0, 2, 3, 4, 5, 6, 7, 8, 9, 10, 11, 12, 13, 14, 21, 22] [1, 15, 16, 17, 18, 19, 20] [23, 24, 25, 26] _ (by kernel_rfl) (List.Sublist.refl _) ?_ | refine GC_drawA (id := 20) [0, 1, 2, 3, 4, 5, 6, 7, 8, 9, 10, 11, 12, 13, 14, 15, 16, 17, 18, 19, 20, 21, 22, 23, 24, 25, 26, 27, 28] [] (by kernel_rfl) ?_ | ((first | apply GD_at | apply GL_at | apply GD_no | apply GL_no); exact rfl) | apply DFin_0 | (apply q1_; exact z_) | (apply q0_; exact z_) | (apply q2_; exact z_))
    all_goals exact GX_loop (r0, (fun b => uc0.heap.size ≤ b), ud0) ⟨rfl, rfl, rfl, rfl, rfl, trivial⟩ Nat.zero_lt_one hr0 (fun w hw => hw.cut)
  rintro ⟨ra, Ga, wa⟩ hra
  simp only at hra ⊢
  have ira := hra.v1
  have bra := hra.bound
  rw [eXY] at hra
  apply GC_seq
  refine GC_mid (α := VG) (fun s => [(13, s.1), (14, .int .i64 0), (11, ra), (12, .int .i64 0), (7, pt p7), (8, pt p8), (3, pt p3)]) (fun s => [(s.2.1, s.2.2), (Ga, wa), (G', w'), ((fun _ => True), w)]) (fun s => [(p8, .cells (wkC a b c (.slice (some ⟨b2, 0, none⟩) k.beat.vats.length c2) e f (vatsK k (moreLoss k.beat.vats j (y % 4) (y / 4 % 4)))).toArray 35), (p7, .cells (wkC a b c (.slice (some ⟨b1, 0, none⟩) k.beat.vats.length c1) e f (vatsK k (noLoss k.beat.vats))).toArray 35), (p3, .cells (wkC a b c d e f k).toArray 35)]) (fun s => Arr s.2.1 s.2.2 2 encR s.1 (bnds k.yard.vats.length (dots k.yard (truthsX k.yard)))) ?_ ?_
  · repeat' (first | apply s_ | ((first | apply JO_ob | apply GD_ex | apply GL_ex); exact rfl; first | exact ob1) | ((first | apply b_ | apply a_ | apply i_); exact z_; intro _) | ((first | apply p_ | apply JO_yes | apply GC_t); exact z_) | (apply n_; exact z_) | (apply GC_f; exact z_) | (apply GX_block_on; exact z_) | refine GC_drawB (id := 3) [] [0, 1] [2, 3, 4, 5] _ (by kernel_rfl) (List.Sublist.refl _) ?_ | refine GC_drawB (id := 4) [] [1, 2, 3, 6, 7, 8] [0, 4, 5, 9, 10, 11, 12, 13, 14, 15] _ (by kernel_rfl) (List.Sublist.refl _) ?_ | refine GC_drawB (id := 8) [0, 1, 2, 3, 8, 9] [4, 5, 6, 7] [10, 11, 12, 13] _ (by kernel_rfl) (List.Sublist.refl _) ?_ | refine GC_drawA (id := 9) [0, 1, 2, 3, 4, 5, 6, 7, 8, 9, 10, 11] [] (by kernel_rfl) ?_ | refine GC_drawB (id := 10) [0, 2, 3, 4, 5, 6, 7, 8, 9, 10, 11, 12, 13, 14, 21, 22] [1, 15, 16, 17, 18, 19, 20] [23, 24, 25, 26] _ (by kernel_rfl) (List.Sublist.refl _) ?_ | refine GC_drawA (id := 20) [0, 1, 2, 3, 4, 5, 6, 7, 8, 9, 10, 11, 12, 13, 14, 15, 16, 17, 18, 19, 20, 21, 22, 23, 24, 25, 26, 27, 28] [] (by kernel_rfl) ?_ | ((first | apply GD_at | apply GL_at | apply GD_no | apply GL_no); exact rfl) | apply DFin_0 | (apply q1_; exact z_) | (apply q0_; exact z_) | (apply q2_; exact z_))
    refine JO_call (S := (fun w0 v w' => ∃ a' b' c' hs', v = .agg #[a', b', c'] ∧ YdA (New w0) w' a' b' c' hs' k.yard)) rfl rfl (fun w5 hw5 => c60 w5 a b c hs k.yard (hw5.yd mm_ h.yard) htk) ?_
    rintro _ uc9 ud9 hc9 hd9 hl9 ⟨a0, b0, c0, hs0, rfl, hY0⟩
    have iw01 := hY0.fields.v1
    have iw02 := hY0.vats.arr.v1
    have iw03 := hY0.smps.v1
    repeat' (first | apply s_ | ((first | apply JO_ob | apply GD_ex | apply GL_ex); exact rfl; first | exact ob1) | ((first | apply b_ | apply a_ | apply i_); exact z_; intro _) | ((first | apply p_ | apply JO_yes | apply GC_t); exact z_) | (apply n_; exact z_) | (apply GC_f; exact z_) | (apply GX_block_on; exact z_) | refine GC_drawB (id := 3) [] [0, 1] [2, 3, 4, 5] _ (by kernel_rfl) (List.Sublist.refl _) ?_ | refine GC_drawB (id := 4) [] [1, 2, 3, 6, 7, 8] [0, 4, 5, 9, 10, 11, 12, 13, 14, 15] _ (by kernel_rfl) (List.Sublist.refl _) ?_ | refine GC_drawB (id := 8) [0, 1, 2, 3, 8, 9] [4, 5, 6, 7] [10, 11, 12, 13] _ (by kernel_rfl) (List.Sublist.refl _) ?_ | refine GC_drawA (id := 9) [0, 1, 2, 3, 4, 5, 6, 7, 8, 9, 10, 11] [] (by kernel_rfl) ?_ | refine GC_drawB (id := 10) [0, 2, 3, 4, 5, 6, 7, 8, 9, 10, 11, 12, 13, 14, 21, 22] [1, 15, 16, 17, 18, 19, 20] [23, 24, 25, 26] _ (by kernel_rfl) (List.Sublist.refl _) ?_ | refine GC_drawA (id := 20) [0, 1, 2, 3, 4, 5, 6, 7, 8, 9, 10, 11, 12, 13, 14, 15, 16, 17, 18, 19, 20, 21, 22, 23, 24, 25, 26, 27, 28] [] (by kernel_rfl) ?_ | ((first | apply GD_at | apply GL_at | apply GD_no | apply GL_no); exact rfl) | apply DFin_0 | (apply q1_; exact z_) | (apply q0_; exact z_) | (apply q2_; exact z_))
    refine JO_call (S := RgsW (bnds k.yard.vats.length (dots k.yard (truthsX k.yard)))) rfl rfl (fun w5 hw5 => c46F ((hw5.yd (.head _) hY0).weaken fun _ _ _ => trivial) hK.f1 hK.t1) ?_
    rintro _ uc0 ud0 hc0 hd0 hl0 ⟨r0, rfl, hr0⟩
    have ir0 := hr0.v1
    have br0 := hr0.bound
    repeat' (first | apply s_ | ((first | apply JO_ob | apply GD_ex | apply GL_ex); exact rfl; first | exact ob1) | ((first | apply b_ | apply a_ | apply i_); exact z_; intro _) | ((first | apply p_ | apply JO_yes | apply GC_t); exact z_) | (apply n_; exact z_) | (apply GC_f; exact z_) | (apply GX_block_on; exact z_) | refine GC_drawB (id := 3) [] [0, 1] [2, 3, 4, 5] _ (by kernel_rfl) (List.Sublist.refl _) ?_ | refine GC_drawB (id := 4) [] [1, 2, 3, 6, 7, 8] [0, 4, 5, 9, 10, 11, 12, 13, 14, 15] _ (by kernel_rfl) (List.Sublist.refl _) ?_ | refine GC_drawB (id := 8) [0, 1, 2, 3, 8, 9] [4, 5, 6, 7] [10, 11, 12, 13] _ (by kernel_rfl) (List.Sublist.refl _) ?_ | refine GC_drawA (id := 9) [0, 1, 2, 3, 4, 5, 6, 7, 8, 9, 10, 11] [] (by kernel_rfl) ?_ | refine GC_drawB (id := 10) [0, 2, 3, 4, 5, 6, 7, 8, 9, 10, 11, 12, 13, 14, 21, 22] [1, 15, 16, 17, 18, 19, 20] [23, 24, 25, 26] _ (by kernel_rfl) (List.Sublist.refl _) ?_ | refine GC_drawA (id := 20) [0, 1, 2, 3, 4, 5, 6, 7, 8, 9, 10, 11, 12, 13, 14, 15, 16, 17, 18, 19, 20, 21, 22, 23, 24, 25, 26, 27, 28] [] (by kernel_rfl) ?_ | ((first | apply GD_at | apply GL_at | apply GD_no | apply GL_no); exact rfl) | apply DFin_0 | (apply q1_; exact z_) | (apply q0_; exact z_) | (apply q2_; exact z_))
    all_goals exact GX_loop (r0, (fun b => uc0.heap.size ≤ b), ud0) ⟨rfl, rfl, rfl, rfl, rfl, rfl, rfl, trivial⟩ Nat.zero_lt_one hr0 (fun w hw => hw.cut)
  rintro ⟨rb, Gb, wb⟩ hrb
  simp only at hrb ⊢
  have irb := hrb.v1
  have brb := hrb.bound
  apply GC_seq
  refine GC_mid (α := VG) (fun s => [(15, s.1), (16, .int .i64 0), (13, rb), (14, .int .i64 0), (11, ra), (12, .int .i64 0), (7, pt p7), (8, pt p8), (3, pt p3)]) (fun s => [(s.2.1, s.2.2), (Gb, wb), (Ga, wa), (G', w'), ((fun _ => True), w)]) (fun s => [(p8, .cells (wkC a b c (.slice (some ⟨b2, 0, none⟩) k.beat.vats.length c2) e f (vatsK k (moreLoss k.beat.vats j (y % 4) (y / 4 % 4)))).toArray 35), (p7, .cells (wkC a b c (.slice (some ⟨b1, 0, none⟩) k.beat.vats.length c1) e f (vatsK k (noLoss k.beat.vats))).toArray 35), (p3, .cells (wkC a b c d e f k).toArray 35)]) (fun s => Arr s.2.1 s.2.2 2 encR s.1 (mudsV k fun m => m)) ?_ ?_
  · repeat' (first | apply s_ | ((first | apply JO_ob | apply GD_ex | apply GL_ex); exact rfl; first | exact ob1) | ((first | apply b_ | apply a_ | apply i_); exact z_; intro _) | ((first | apply p_ | apply JO_yes | apply GC_t); exact z_) | (apply n_; exact z_) | (apply GC_f; exact z_) | (apply GX_block_on; exact z_) | refine GC_drawB (id := 3) [] [0, 1] [2, 3, 4, 5] _ (by kernel_rfl) (List.Sublist.refl _) ?_ | refine GC_drawB (id := 4) [] [1, 2, 3, 6, 7, 8] [0, 4, 5, 9, 10, 11, 12, 13, 14, 15] _ (by kernel_rfl) (List.Sublist.refl _) ?_ | refine GC_drawB (id := 8) [0, 1, 2, 3, 8, 9] [4, 5, 6, 7] [10, 11, 12, 13] _ (by kernel_rfl) (List.Sublist.refl _) ?_ | refine GC_drawA (id := 9) [0, 1, 2, 3, 4, 5, 6, 7, 8, 9, 10, 11] [] (by kernel_rfl) ?_ | refine GC_drawB (id := 10) [0, 2, 3, 4, 5, 6, 7, 8, 9, 10, 11, 12, 13, 14, 21, 22] [1, 15, 16, 17, 18, 19, 20] [23, 24, 25, 26] _ (by kernel_rfl) (List.Sublist.refl _) ?_ | refine GC_drawA (id := 20) [0, 1, 2, 3, 4, 5, 6, 7, 8, 9, 10, 11, 12, 13, 14, 15, 16, 17, 18, 19, 20, 21, 22, 23, 24, 25, 26, 27, 28] [] (by kernel_rfl) ?_ | ((first | apply GD_at | apply GL_at | apply GD_no | apply GL_no); exact rfl) | apply DFin_0 | (apply q1_; exact z_) | (apply q0_; exact z_) | (apply q2_; exact z_))
    refine JO_call (S := TwoW (k)) rfl rfl (fun w5 hw5 => c23W ((hw5.wk mm_ h)) ht) ?_
    rintro _ uc9 ud9 hc9 hd9 hl9 ⟨a0, b0, c0, hs0, d0, e0, f0, rfl, hW0⟩
    have iw01 := hW0.yard.fields.v1
    have iw02 := hW0.yard.vats.arr.v1
    have iw03 := hW0.yard.smps.v1
    have iw04 := hW0.beat.vats.v1
    have iw05 := hW0.beat.smps.v1
    have iw06 := hW0.ends.v1
    repeat' (first | apply s_ | ((first | apply JO_ob | apply GD_ex | apply GL_ex); exact rfl; first | exact ob1) | ((first | apply b_ | apply a_ | apply i_); exact z_; intro _) | ((first | apply p_ | apply JO_yes | apply GC_t); exact z_) | (apply n_; exact z_) | (apply GC_f; exact z_) | (apply GX_block_on; exact z_) | refine GC_drawB (id := 3) [] [0, 1] [2, 3, 4, 5] _ (by kernel_rfl) (List.Sublist.refl _) ?_ | refine GC_drawB (id := 4) [] [1, 2, 3, 6, 7, 8] [0, 4, 5, 9, 10, 11, 12, 13, 14, 15] _ (by kernel_rfl) (List.Sublist.refl _) ?_ | refine GC_drawB (id := 8) [0, 1, 2, 3, 8, 9] [4, 5, 6, 7] [10, 11, 12, 13] _ (by kernel_rfl) (List.Sublist.refl _) ?_ | refine GC_drawA (id := 9) [0, 1, 2, 3, 4, 5, 6, 7, 8, 9, 10, 11] [] (by kernel_rfl) ?_ | refine GC_drawB (id := 10) [0, 2, 3, 4, 5, 6, 7, 8, 9, 10, 11, 12, 13, 14, 21, 22] [1, 15, 16, 17, 18, 19, 20] [23, 24, 25, 26] _ (by kernel_rfl) (List.Sublist.refl _) ?_ | refine GC_drawA (id := 20) [0, 1, 2, 3, 4, 5, 6, 7, 8, 9, 10, 11, 12, 13, 14, 15, 16, 17, 18, 19, 20, 21, 22, 23, 24, 25, 26, 27, 28] [] (by kernel_rfl) ?_ | ((first | apply GD_at | apply GL_at | apply GD_no | apply GL_no); exact rfl) | apply DFin_0 | (apply q1_; exact z_) | (apply q0_; exact z_) | (apply q2_; exact z_))
    refine JO_call (S := RgsW (mudsV k fun m => m)) rfl rfl (fun w5 hw5 => c22F (upk hw5 (.head _) hW0) hf) ?_
    rintro _ uc0 ud0 hc0 hd0 hl0 ⟨r0, rfl, hr0⟩
    have ir0 := hr0.v1
    have br0 := hr0.bound
    repeat' (first | apply s_ | ((first | apply JO_ob | apply GD_ex | apply GL_ex); exact rfl; first | exact ob1) | ((first | apply b_ | apply a_ | apply i_); exact z_; intro _) | ((first | apply p_ | apply JO_yes | apply GC_t); exact z_) | (apply n_; exact z_) | (apply GC_f; exact z_) | (apply GX_block_on; exact z_) | refine GC_drawB (id := 3) [] [0, 1] [2, 3, 4, 5] _ (by kernel_rfl) (List.Sublist.refl _) ?_ | refine GC_drawB (id := 4) [] [1, 2, 3, 6, 7, 8] [0, 4, 5, 9, 10, 11, 12, 13, 14, 15] _ (by kernel_rfl) (List.Sublist.refl _) ?_ | refine GC_drawB (id := 8) [0, 1, 2, 3, 8, 9] [4, 5, 6, 7] [10, 11, 12, 13] _ (by kernel_rfl) (List.Sublist.refl _) ?_ | refine GC_drawA (id := 9) [0, 1, 2, 3, 4, 5, 6, 7, 8, 9, 10, 11] [] (by kernel_rfl) ?_ | refine GC_drawB (id := 10) [0, 2, 3, 4, 5, 6, 7, 8, 9, 10, 11, 12, 13, 14, 21, 22] [1, 15, 16, 17, 18, 19, 20] [23, 24, 25, 26] _ (by kernel_rfl) (List.Sublist.refl _) ?_ | refine GC_drawA (id := 20) [0, 1, 2, 3, 4, 5, 6, 7, 8, 9, 10, 11, 12, 13, 14, 15, 16, 17, 18, 19, 20, 21, 22, 23, 24, 25, 26, 27, 28] [] (by kernel_rfl) ?_ | ((first | apply GD_at | apply GL_at | apply GD_no | apply GL_no); exact rfl) | apply DFin_0 | (apply q1_; exact z_) | (apply q0_; exact z_) | (apply q2_; exact z_))
    all_goals exact GX_loop (r0, (fun b => uc0.heap.size ≤ b), ud0) ⟨rfl, rfl, rfl, rfl, rfl, rfl, rfl, rfl, rfl, trivial⟩ Nat.zero_lt_one hr0 (fun w hw => hw.cut)
  rintro ⟨rc, Gc, wc⟩ hrc
  simp only at hrc ⊢
  have irc := hrc.v1
  have brc := hrc.bound
  apply GC_seq
  refine GC_mid (α := VG) (fun s => [(17, s.1), (18, .int .i64 0), (15, rc), (16, .int .i64 0), (13, rb), (14, .int .i64 0), (11, ra), (12, .int .i64 0), (7, pt p7), (8, pt p8), (3, pt p3)]) (fun s => [(s.2.1, s.2.2), (Gc, wc), (Gb, wb), (Ga, wa), (G', w'), ((fun _ => True), w)]) (fun s => [(p8, .cells (wkC a b c (.slice (some ⟨b2, 0, none⟩) k.beat.vats.length c2) e f (vatsK k (moreLoss k.beat.vats j (y % 4) (y / 4 % 4)))).toArray 35), (p7, .cells (wkC a b c (.slice (some ⟨b1, 0, none⟩) k.beat.vats.length c1) e f (vatsK k (noLoss k.beat.vats))).toArray 35), (p3, .cells (wkC a b c d e f k).toArray 35)]) (fun s => Arr s.2.1 s.2.2 2 encR s.1 (mudsV (vatsK k (moreLoss k.beat.vats j (y % 4) (y / 4 % 4))) fun m => m)) ?_ ?_
  · repeat' (first | apply s_ | ((first | apply JO_ob | apply GD_ex | apply GL_ex); exact rfl; first | exact ob1) | ((first | apply b_ | apply a_ | apply i_); exact z_; intro _) | ((first | apply p_ | apply JO_yes | apply GC_t); exact z_) | (apply n_; exact z_) | (apply GC_f; exact z_) | (apply GX_block_on; exact z_) | refine GC_drawB (id := 3) [] [0, 1] [2, 3, 4, 5] _ (by kernel_rfl) (List.Sublist.refl _) ?_ | refine GC_drawB (id := 4) [] [1, 2, 3, 6, 7, 8] [0, 4, 5, 9, 10, 11, 12, 13, 14, 15] _ (by kernel_rfl) (List.Sublist.refl _) ?_ | refine GC_drawB (id := 8) [0, 1, 2, 3, 8, 9] [4, 5, 6, 7] [10, 11, 12, 13] _ (by kernel_rfl) (List.Sublist.refl _) ?_ | refine GC_drawA (id := 9) [0, 1, 2, 3, 4, 5, 6, 7, 8, 9, 10, 11] [] (by kernel_rfl) ?_ | refine GC_drawB (id := 10) [0, 2, 3, 4, 5, 6, 7, 8, 9, 10, 11, 12, 13, 14, 21, 22] [1, 15, 16, 17, 18, 19, 20] [23, 24, 25, 26] _ (by kernel_rfl) (List.Sublist.refl _) ?_ | refine GC_drawA (id := 20) [0, 1, 2, 3, 4, 5, 6, 7, 8, 9, 10, 11, 12, 13, 14, 15, 16, 17, 18, 19, 20, 21, 22, 23, 24, 25, 26, 27, 28] [] (by kernel_rfl) ?_ | ((first | apply GD_at | apply GL_at | apply GD_no | apply GL_no); exact rfl) | apply DFin_0 | (apply q1_; exact z_) | (apply q0_; exact z_) | (apply q2_; exact z_))
    refine JO_call (S := TwoW ((vatsK k (moreLoss k.beat.vats j (y % 4) (y / 4 % 4))))) rfl rfl (fun w5 hw5 => c23W ((upk hw5 mm_ hY)) htY) ?_
    rintro _ uc9 ud9 hc9 hd9 hl9 ⟨a0, b0, c0, hs0, d0, e0, f0, rfl, hW0⟩
    have iw01 := hW0.yard.fields.v1
    have iw02 := hW0.yard.vats.arr.v1
    have iw03 := hW0.yard.smps.v1
    have iw04 := hW0.beat.vats.v1
    have iw05 := hW0.beat.smps.v1
    have iw06 := hW0.ends.v1
    repeat' (first | apply s_ | ((first | apply JO_ob | apply GD_ex | apply GL_ex); exact rfl; first | exact ob1) | ((first | apply b_ | apply a_ | apply i_); exact z_; intro _) | ((first | apply p_ | apply JO_yes | apply GC_t); exact z_) | (apply n_; exact z_) | (apply GC_f; exact z_) | (apply GX_block_on; exact z_) | refine GC_drawB (id := 3) [] [0, 1] [2, 3, 4, 5] _ (by kernel_rfl) (List.Sublist.refl _) ?_ | refine GC_drawB (id := 4) [] [1, 2, 3, 6, 7, 8] [0, 4, 5, 9, 10, 11, 12, 13, 14, 15] _ (by kernel_rfl) (List.Sublist.refl _) ?_ | refine GC_drawB (id := 8) [0, 1, 2, 3, 8, 9] [4, 5, 6, 7] [10, 11, 12, 13] _ (by kernel_rfl) (List.Sublist.refl _) ?_ | refine GC_drawA (id := 9) [0, 1, 2, 3, 4, 5, 6, 7, 8, 9, 10, 11] [] (by kernel_rfl) ?_ | refine GC_drawB (id := 10) [0, 2, 3, 4, 5, 6, 7, 8, 9, 10, 11, 12, 13, 14, 21, 22] [1, 15, 16, 17, 18, 19, 20] [23, 24, 25, 26] _ (by kernel_rfl) (List.Sublist.refl _) ?_ | refine GC_drawA (id := 20) [0, 1, 2, 3, 4, 5, 6, 7, 8, 9, 10, 11, 12, 13, 14, 15, 16, 17, 18, 19, 20, 21, 22, 23, 24, 25, 26, 27, 28] [] (by kernel_rfl) ?_ | ((first | apply GD_at | apply GL_at | apply GD_no | apply GL_no); exact rfl) | apply DFin_0 | (apply q1_; exact z_) | (apply q0_; exact z_) | (apply q2_; exact z_))
    refine JO_call (S := RgsW (mudsV (vatsK k (moreLoss k.beat.vats j (y % 4) (y / 4 % 4))) fun m => m)) rfl rfl (fun w5 hw5 => c22F (upk hw5 (.head _) hW0) hfY) ?_
    rintro _ uc0 ud0 hc0 hd0 hl0 ⟨r0, rfl, hr0⟩
    have ir0 := hr0.v1
    have br0 := hr0.bound
    repeat' (first | apply s_ | ((first | apply JO_ob | apply GD_ex | apply GL_ex); exact rfl; first | exact ob1) | ((first | apply b_ | apply a_ | apply i_); exact z_; intro _) | ((first | apply p_ | apply JO_yes | apply GC_t); exact z_) | (apply n_; exact z_) | (apply GC_f; exact z_) | (apply GX_block_on; exact z_) | refine GC_drawB (id := 3) [] [0, 1] [2, 3, 4, 5] _ (by kernel_rfl) (List.Sublist.refl _) ?_ | refine GC_drawB (id := 4) [] [1, 2, 3, 6, 7, 8] [0, 4, 5, 9, 10, 11, 12, 13, 14, 15] _ (by kernel_rfl) (List.Sublist.refl _) ?_ | refine GC_drawB (id := 8) [0, 1, 2, 3, 8, 9] [4, 5, 6, 7] [10, 11, 12, 13] _ (by kernel_rfl) (List.Sublist.refl _) ?_ | refine GC_drawA (id := 9) [0, 1, 2, 3, 4, 5, 6, 7, 8, 9, 10, 11] [] (by kernel_rfl) ?_ | refine GC_drawB (id := 10) [0, 2, 3, 4, 5, 6, 7, 8, 9, 10, 11, 12, 13, 14, 21, 22] [1, 15, 16, 17, 18, 19, 20] [23, 24, 25, 26] _ (by kernel_rfl) (List.Sublist.refl _) ?_ | refine GC_drawA (id := 20) [0, 1, 2, 3, 4, 5, 6, 7, 8, 9, 10, 11, 12, 13, 14, 15, 16, 17, 18, 19, 20, 21, 22, 23, 24, 25, 26, 27, 28] [] (by kernel_rfl) ?_ | ((first | apply GD_at | apply GL_at | apply GD_no | apply GL_no); exact rfl) | apply DFin_0 | (apply q1_; exact z_) | (apply q0_; exact z_) | (apply q2_; exact z_))
    all_goals exact GX_loop (r0, (fun b => uc0.heap.size ≤ b), ud0) ⟨rfl, rfl, rfl, rfl, rfl, rfl, rfl, rfl, rfl, rfl, rfl, trivial⟩ Nat.zero_lt_one hr0 (fun w hw => hw.cut)
  rintro ⟨rd, Gd, wd⟩ hrd
  simp only at hrd ⊢
  have ird := hrd.v1
  have brd := hrd.bound
  clear eXY
  generalize bnds k.yard.vats.length (dots k.yard (truthsX k.yard)) = B1 at hra hrb lB ⊢
  generalize (mudsV k fun m => m) = C1 at hrc lK fY ⊢
  generalize (mudsV (vatsK k (moreLoss k.beat.vats j (y % 4) (y / 4 % 4))) fun m => m) = D1 at hrd lY fY ⊢
  try simp only [lB, lK, lY] at bra brb brc brd
  apply GC_seq
  refine GC_mid (α := Unit) (fun s => [(17, rd), (18, .int .i64 0), (15, rc), (16, .int .i64 0), (13, rb), (14, .int .i64 0), (11, ra), (12, .int .i64 0), (7, pt p7), (8, pt p8), (3, pt p3)]) (fun s => [(Gd, wd), (Gc, wc), (Gb, wb), (Ga, wa), (G', w'), ((fun _ => True), w)]) (fun s => [(p8, .cells (wkC a b c (.slice (some ⟨b2, 0, none⟩) k.beat.vats.length c2) e f (vatsK k (moreLoss k.beat.vats j (y % 4) (y / 4 % 4)))).toArray 35), (p7, .cells (wkC a b c (.slice (some ⟨b1, 0, none⟩) k.beat.vats.length c1) e f (vatsK k (noLoss k.beat.vats))).toArray 35), (p3, .cells (wkC a b c d e f k).toArray 35)]) (fun s => True) ?_ ?_
  · repeat' (first | apply s_ | ((first | apply JO_ob | apply GD_ex | apply GL_ex); exact rfl; first | exact ob1 | exact Ob_call rfl (fun w5 hw5 => c26W (hw5.wk mm_ h))) | ((first | apply b_ | apply a_ | apply i_); exact z_; intro _) | ((first | apply p_ | apply JO_yes | apply GC_t); exact z_) | (apply n_; exact z_) | (apply GC_f; exact z_) | (apply GX_block_on; exact z_) | refine GC_drawB (id := 3) [] [0, 1] [2, 3, 4, 5] _ (by kernel_rfl) (List.Sublist.refl _) ?_ | refine GC_drawB (id := 4) [] [1, 2, 3, 6, 7, 8] [0, 4, 5, 9, 10, 11, 12, 13, 14, 15] _ (by kernel_rfl) (List.Sublist.refl _) ?_ | refine GC_drawB (id := 8) [0, 1, 2, 3, 8, 9] [4, 5, 6, 7] [10, 11, 12, 13] _ (by kernel_rfl) (List.Sublist.refl _) ?_ | refine GC_drawA (id := 9) [0, 1, 2, 3, 4, 5, 6, 7, 8, 9, 10, 11] [] (by kernel_rfl) ?_ | refine GC_drawB (id := 10) [0, 2, 3, 4, 5, 6, 7, 8, 9, 10, 11, 12, 13, 14, 21, 22] [1, 15, 16, 17, 18, 19, 20] [23, 24, 25, 26] _ (by kernel_rfl) (List.Sublist.refl _) ?_ | refine GC_drawA (id := 20) [0, 1, 2, 3, 4, 5, 6, 7, 8, 9, 10, 11, 12, 13, 14, 15, 16, 17, 18, 19, 20, 21, 22, 23, 24, 25, 26, 27, 28] [] (by kernel_rfl) ?_ | ((first | apply GD_at | apply GL_at | apply GD_no | apply GL_no); exact rfl) | apply DFin_0 | (apply q1_; exact z_) | (apply q0_; exact z_) | (apply q2_; exact z_))
    all_goals exact GX_loop () ⟨rfl, rfl, rfl, rfl, rfl, rfl, rfl, rfl, rfl, rfl, rfl, trivial⟩ Nat.zero_lt_one trivial (fun w hw => hw.cut)
  intro _ _
  try simp only
  repeat' (first | apply s_ | ((first | apply JO_ob | apply GD_ex | apply GL_ex); exact rfl; first | exact ob1) | ((first | apply b_ | apply a_ | apply i_); exact z_; intro _) | ((first | apply p_ | apply JO_yes | apply GC_t); exact z_) | (apply n_; exact z_) | (apply GC_f; exact z_) | (apply GX_block_on; exact z_) | refine GC_drawB (id := 3) [] [0, 1] [2, 3, 4, 5] _ (by kernel_rfl) (List.Sublist.refl _) ?_ | refine GC_drawB (id := 4) [] [1, 2, 3, 6, 7, 8] [0, 4, 5, 9, 10, 11, 12, 13, 14, 15] _ (by kernel_rfl) (List.Sublist.refl _) ?_ | refine GC_drawB (id := 8) [0, 1, 2, 3, 8, 9] [4, 5, 6, 7] [10, 11, 12, 13] _ (by kernel_rfl) (List.Sublist.refl _) ?_ | refine GC_drawA (id := 9) [0, 1, 2, 3, 4, 5, 6, 7, 8, 9, 10, 11] [] (by kernel_rfl) ?_ | refine GC_drawB (id := 10) [0, 2, 3, 4, 5, 6, 7, 8, 9, 10, 11, 12, 13, 14, 21, 22] [1, 15, 16, 17, 18, 19, 20] [23, 24, 25, 26] _ (by kernel_rfl) (List.Sublist.refl _) ?_ | refine GC_drawA (id := 20) [0, 1, 2, 3, 4, 5, 6, 7, 8, 9, 10, 11, 12, 13, 14, 15, 16, 17, 18, 19, 20, 21, 22, 23, 24, 25, 26, 27, 28] [] (by kernel_rfl) ?_ | ((first | apply GD_at | apply GL_at | apply GD_no | apply GL_no); exact rfl) | apply DFin_0 | (apply q1_; exact z_) | (apply q0_; exact z_) | (apply q2_; exact z_))
  refine GC_loop (α := Nat) (fun i => k.yard.vats.length - i) (fun i => [(19, .int .i64 (i : Int)), (17, rd), (18, .int .i64 0), (15, rc), (16, .int .i64 0), (13, rb), (14, .int .i64 0), (11, ra), (12, .int .i64 0), (7, pt p7), (8, pt p8), (3, pt p3)]) (fun _ => [(Gd, wd), (Gc, wc), (Gb, wb), (Ga, wa), (G', w'), ((fun _ => True), w)]) (fun _ => [(p8, .cells (wkC a b c (.slice (some ⟨b2, 0, none⟩) k.beat.vats.length c2) e f (vatsK k (moreLoss k.beat.vats j (y % 4) (y / 4 % 4)))).toArray 35), (p7, .cells (wkC a b c (.slice (some ⟨b1, 0, none⟩) k.beat.vats.length c1) e f (vatsK k (noLoss k.beat.vats))).toArray 35), (p3, .cells (wkC a b c d e f k).toArray 35)]) (fun i => i ≤ k.yard.vats.length) 0 ⟨rfl, rfl, rfl, rfl, rfl, rfl, rfl, rfl, rfl, rfl, rfl, rfl, trivial⟩ (Nat.zero_le _) (fun w hw => hw.cut) ?_
  intro i hi
  by_cases hlt : i < k.yard.vats.length
  · have xa : i < B1.length := by omega
    have xc : i < C1.length := by omega
    have xd : i < D1.length := by omega
    have f1 := fY i hlt
    repeat' (first | apply s_ | ((first | apply JO_ob | apply GD_ex | apply GL_ex); exact rfl; first | exact ob1 | exact Ob_call rfl (fun w5 _ => c52 _ _ w5) | exact Ob_neR rfl rfl rfl rfl) | ((first | apply b_ | apply a_ | apply i_); exact z_; intro _) | ((first | apply p_ | apply JO_yes | apply GC_t); exact z_) | (apply n_; exact z_) | (apply GC_f; exact z_) | (apply GX_block_on; exact z_) | refine GC_drawB (id := 3) [] [0, 1] [2, 3, 4, 5] _ (by kernel_rfl) (List.Sublist.refl _) ?_ | refine GC_drawB (id := 4) [] [1, 2, 3, 6, 7, 8] [0, 4, 5, 9, 10, 11, 12, 13, 14, 15] _ (by kernel_rfl) (List.Sublist.refl _) ?_ | refine GC_drawB (id := 8) [0, 1, 2, 3, 8, 9] [4, 5, 6, 7] [10, 11, 12, 13] _ (by kernel_rfl) (List.Sublist.refl _) ?_ | refine GC_drawA (id := 9) [0, 1, 2, 3, 4, 5, 6, 7, 8, 9, 10, 11] [] (by kernel_rfl) ?_ | refine GC_drawB (id := 10) [0, 2, 3, 4, 5, 6, 7, 8, 9, 10, 11, 12, 13, 14, 21, 22] [1, 15, 16, 17, 18, 19, 20] [23, 24, 25, 26] _ (by kernel_rfl) (List.Sublist.refl _) ?_ | refine GC_drawA (id := 20) [0, 1, 2, 3, 4, 5, 6, 7, 8, 9, 10, 11, 12, 13, 14, 15, 16, 17, 18, 19, 20, 21, 22, 23, 24, 25, 26, 27, 28] [] (by kernel_rfl) ?_ | ((first | apply GD_at | apply GL_at | apply GD_no | apply GL_no); exact rfl) | apply DFin_0 | (apply q1_; exact z_) | (apply q0_; exact z_) | (apply q2_; exact z_))
    exact GX_loop (i + 1) ⟨rfl, rfl, rfl, rfl, rfl, rfl, rfl, rfl, rfl, rfl, rfl, rfl, trivial⟩ (by omega) (by omega) (fun w hw => hw.cut)
  · repeat' (first | apply s_ | ((first | apply JO_ob | apply GD_ex | apply GL_ex); exact rfl; first | exact ob1 | exact Ob_call rfl (fun w5 _ => c21 w5)) | ((first | apply b_ | apply a_ | apply i_); exact z_; intro _) | ((first | apply p_ | apply JO_yes | apply GC_t); exact z_) | (apply n_; exact z_) | (apply GC_f; exact z_) | (apply GX_block_on; exact z_) | refine GC_drawB (id := 3) [] [0, 1] [2, 3, 4, 5] _ (by kernel_rfl) (List.Sublist.refl _) ?_ | refine GC_drawB (id := 4) [] [1, 2, 3, 6, 7, 8] [0, 4, 5, 9, 10, 11, 12, 13, 14, 15] _ (by kernel_rfl) (List.Sublist.refl _) ?_ | refine GC_drawB (id := 8) [0, 1, 2, 3, 8, 9] [4, 5, 6, 7] [10, 11, 12, 13] _ (by kernel_rfl) (List.Sublist.refl _) ?_ | refine GC_drawA (id := 9) [0, 1, 2, 3, 4, 5, 6, 7, 8, 9, 10, 11] [] (by kernel_rfl) ?_ | refine GC_drawB (id := 10) [0, 2, 3, 4, 5, 6, 7, 8, 9, 10, 11, 12, 13, 14, 21, 22] [1, 15, 16, 17, 18, 19, 20] [23, 24, 25, 26] _ (by kernel_rfl) (List.Sublist.refl _) ?_ | refine GC_drawA (id := 20) [0, 1, 2, 3, 4, 5, 6, 7, 8, 9, 10, 11, 12, 13, 14, 15, 16, 17, 18, 19, 20, 21, 22, 23, 24, 25, 26, 27, 28] [] (by kernel_rfl) ?_ | ((first | apply GD_at | apply GL_at | apply GD_no | apply GL_no); exact rfl) | apply DFin_0 | (apply q1_; exact z_) | (apply q0_; exact z_) | (apply q2_; exact z_))
    exact GX_ex rfl rfl mem_ rfl
theorem law15 (h : WkA All w a b c hs d e f k) (x y : Int) (hx : 0 ≤ x ∧ x ≤ 255) (hy : 0 ≤ y ∧ y ≤ 255) : Ex 15 [wkV a b c d e f k, .int .u8 x, .int .u8 y] w (.bool true) := by
  have i1 := h.yard.fields.v1
  have i2 := h.yard.vats.arr.v1
  have i3 := h.yard.smps.v1
  have i4 := h.beat.vats.v1
  have i5 := h.beat.smps.v1
  have i6 := h.ends.v1
  cases hr : readyW k
  · refine Rt_of Tryz.func15 rfl Tryz.ntmps15 rfl ?_
    repeat' (first | apply s_ | ((first | apply JO_ob | apply GD_ex | apply GL_ex); exact rfl; first | exact ob1 | exact Ob_call rfl (fun w5 hw5 => c48F (hw5.wk mem_ h) hr) | exact Ob_call rfl (fun w5 _ => c21 w5)) | ((first | apply b_ | apply a_ | apply i_); exact z_; intro _) | ((first | apply p_ | apply JO_yes | apply GC_t); exact z_) | (apply n_; exact z_) | (apply GC_f; exact z_) | (apply GX_block_on; exact z_) | refine GC_drawB (id := 3) [] [0, 1] [2, 3, 4, 5] _ (by kernel_rfl) (List.Sublist.refl _) ?_ | refine GC_drawB (id := 4) [] [1, 2, 3, 6, 7, 8] [0, 4, 5, 9, 10, 11, 12, 13, 14, 15] _ (by kernel_rfl) (List.Sublist.refl _) ?_ | refine GC_drawB (id := 8) [0, 1, 2, 3, 8, 9] [4, 5, 6, 7] [10, 11, 12, 13] _ (by kernel_rfl) (List.Sublist.refl _) ?_ | refine GC_drawA (id := 9) [0, 1, 2, 3, 4, 5, 6, 7, 8, 9, 10, 11] [] (by kernel_rfl) ?_ | refine GC_drawB (id := 10) [0, 2, 3, 4, 5, 6, 7, 8, 9, 10, 11, 12, 13, 14, 21, 22] [1, 15, 16, 17, 18, 19, 20] [23, 24, 25, 26] _ (by kernel_rfl) (List.Sublist.refl _) ?_ | refine GC_drawA (id := 20) [0, 1, 2, 3, 4, 5, 6, 7, 8, 9, 10, 11, 12, 13, 14, 15, 16, 17, 18, 19, 20, 21, 22, 23, 24, 25, 26, 27, 28] [] (by kernel_rfl) ?_ | ((first | apply GD_at | apply GL_at | apply GD_no | apply GL_no); exact rfl) | apply DFin_0 | (apply q1_; exact z_) | (apply q0_; exact z_) | (apply q2_; exact z_))
    exact GX_ex rfl rfl mem_ rfl
  rcases Nat.eq_zero_or_pos k.yard.vats.length with hn | hn
  · refine Rt_of Tryz.func15 rfl Tryz.ntmps15 rfl ?_
    repeat' (first | apply s_ | ((first | apply JO_ob | apply GD_ex | apply GL_ex); exact rfl; first | exact ob1 | exact Ob_call rfl (fun w5 hw5 => c48T (hw5.wk mem_ h) hr) | exact Ob_call rfl (fun w5 hw5 => c26W (hw5.wk mem_ h)) | exact Ob_call rfl (fun w5 _ => c21 w5)) | ((first | apply b_ | apply a_ | apply i_); exact z_; intro _) | ((first | apply p_ | apply JO_yes | apply GC_t); exact z_) | (apply n_; exact z_) | (apply GC_f; exact z_) | (apply GX_block_on; exact z_) | refine GC_drawB (id := 3) [] [0, 1] [2, 3, 4, 5] _ (by kernel_rfl) (List.Sublist.refl _) ?_ | refine GC_drawB (id := 4) [] [1, 2, 3, 6, 7, 8] [0, 4, 5, 9, 10, 11, 12, 13, 14, 15] _ (by kernel_rfl) (List.Sublist.refl _) ?_ | refine GC_drawB (id := 8) [0, 1, 2, 3, 8, 9] [4, 5, 6, 7] [10, 11, 12, 13] _ (by kernel_rfl) (List.Sublist.refl _) ?_ | refine GC_drawA (id := 9) [0, 1, 2, 3, 4, 5, 6, 7, 8, 9, 10, 11] [] (by kernel_rfl) ?_ | refine GC_drawB (id := 10) [0, 2, 3, 4, 5, 6, 7, 8, 9, 10, 11, 12, 13, 14, 21, 22] [1, 15, 16, 17, 18, 19, 20] [23, 24, 25, 26] _ (by kernel_rfl) (List.Sublist.refl _) ?_ | refine GC_drawA (id := 20) [0, 1, 2, 3, 4, 5, 6, 7, 8, 9, 10, 11, 12, 13, 14, 15, 16, 17, 18, 19, 20, 21, 22, 23, 24, 25, 26, 27, 28] [] (by kernel_rfl) ?_ | ((first | apply GD_at | apply GL_at | apply GD_no | apply GL_no); exact rfl) | apply DFin_0 | (apply q1_; exact z_) | (apply q0_; exact z_) | (apply q2_; exact z_))
    exact GX_ex rfl rfl mem_ rfl
  exact law15_good h x y hx hy hr hn
end
end Go.Proofs.YtkbaaikidhbfmaaGreat
