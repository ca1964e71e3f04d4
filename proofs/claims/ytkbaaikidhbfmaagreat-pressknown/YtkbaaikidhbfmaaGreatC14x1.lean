/- The law PressKnown of the chapter 09 returns true for every input, and each argument reads afterwards as it read before. No condition. -/
import Derived.Test.YtkbaaikidhbfmaaGreatB5
/- How large the lists in an argument can be. No statement is proved here. -/
set_option linter.unusedVariables false
set_option linter.unusedSimpArgs false
namespace Go.Proofs.YtkbaaikidhbfmaaGreat
open Go.RowKit Go.ChangeShapes Go.WideShapes
section
variable {H : Type} {ec : TypeId × Value → H} {W : World}
theorem fld_w {t n : Nat} {fs : Array Field} {cs : List Value} {x : DataW H × List MemPlace} (ht : P.underlying t = some (.struct fs)) (h : Tr ec W n t cs x) (i u o : Nat) (hi : (fs[i]?).map (fun f => (f.type, f.offset)) = some (u, o)) :
    ∃ m y, Tr ec W m u ((cs.drop o).take (P.cellsOf u)) y ∧ ∀ z ∈ y.1.weights P u, z ∈ x.1.weights P t := by
  obtain ⟨xs, m, _, rfl, _, hlen, hf⟩ := DataW.trod_struct ht h
  obtain ⟨f, hf0, e⟩ := Option.map_eq_some_iff.1 hi
  cases e
  have h1 := hf i f hf0
  have hlt : i < xs.length := by rw [hlen]; exact (Array.getElem?_eq_some_iff.1 hf0).1
  rw [List.getElem?_eq_getElem hlt] at h1
  refine ⟨m, _, h1, fun z hz => ?_⟩
  have e2 : (DataW.agg (xs.map (·.1)) : DataW H).weights P t = DataW.weightsEach P (fs.toList.map (·.type)) (xs.map (·.1)) := by
    simp only [DataW.weights, ht]
  dsimp only
  rw [e2]
  refine DataW.weights_mem_each (j := i) (t := f.type) (d := (xs[i]).1) ?_ ?_ z hz
  · simp [hf0]
  · simp [List.getElem?_eq_getElem hlt]
theorem sl_w {t e n l c : Nat} {A : Option Addr} {x : DataW H × List MemPlace} {M : Nat} (ht : P.underlying t = some (.slice e)) (h : Tr ec W n t [.slice A l c] x) (hb : ∀ z ∈ x.1.weights P t, z ≤ M) : l * P.bytesOf e ≤ M := by
  rcases DataW.trod_slice ht h with ⟨e1, _⟩ | ⟨a, len, cap, elems, rest, m, _, e1, rfl, _, hl, hcap, hlen, hel, _⟩
  · cases e1; rw [Nat.zero_mul]; exact Nat.zero_le _
  · cases e1
    refine Nat.le_trans ?_ (hb ((elems.length + rest.length) * P.bytesOf e) (by simp [DataW.weights, ht]))
    exact Nat.mul_le_mul_right _ (by omega)
theorem bytes102 : P.bytesOf 102 = 24 := by kernel_rfl
theorem bytes104 : P.bytesOf 104 = 24 := by kernel_rfl
theorem size_works {a b c : Value} {hs : List Value} {d e f : Value} {k : Wk} {dd : DataW H} {ps : List MemPlace} {M : Nat} (h : DataW.Trod ec P W 0 (fun _ => true) true 35 (wkV a b c d e f k) dd ps) (hk : WkA All W a b c hs d e f k) (hb : ∀ z ∈ dd.weights P 35, z ≤ M) :
    k.yard.smps.length * 24 ≤ M ∧ k.beat.smps.length * 24 ≤ M := by
  obtain ⟨m, h⟩ := h
  obtain ⟨_, y0, h0, b0⟩ := fld_w Tryz.underlying35 h 0 26 0 rfl
  obtain ⟨_, y1, h1, b1⟩ := fld_w Tryz.underlying35 h 1 32 3 rfl
  obtain ⟨_, y2, h2, b2⟩ := fld_w Tryz.underlying26 h0 2 24 2 rfl
  obtain ⟨_, y3, h3, b3⟩ := fld_w Tryz.underlying32 h1 3 30 4 rfl
  simp only [sz24, sz30, sz26, sz32] at h2 h3
  obtain ⟨A, q, e1, _⟩ := hk.yard.smps.h
  obtain ⟨B, r, e2, _⟩ := hk.beat.smps.h
  subst e1; subst e2
  have g2 := sl_w (M := M) Tryz.underlying24 h2 fun z hz => hb z (b0 z (b2 z hz))
  have g3 := sl_w (M := M) Tryz.underlying30 h3 fun z hz => hb z (b1 z (b3 z hz))
  rw [bytes102] at g2
  rw [bytes104] at g3
  exact ⟨g2, g3⟩
end
end Go.Proofs.YtkbaaikidhbfmaaGreat
/- A list that is copied, with its block; regions far behind. No statement is proved here. -/
set_option linter.unusedVariables false
set_option linter.unusedSimpArgs false
namespace Go.Proofs.YtkbaaikidhbfmaaGreat
open Go.RowKit
theorem mm_ {α : Type} {x : α} {l : List α} (h : x ∈ l := by repeat (first | exact List.Mem.head _ | apply List.Mem.tail)) : x ∈ l := h
theorem c34o (v : Value) (xs : List Int) (w : World) (hA : Arr All w 1 encI v xs) (hl : xs.length ≤ 1000000) : Rt 34 [v] w fun r w' => Keep w w' ∧ ∃ sp, Own 1 encI r xs sp ∧ ∀ p ∈ rowH r 3 (xs.flatMap encI ++ sp), w.heap.size ≤ p.1 ∧ w'.heap[p.1]? = some p.2 := by
  have hv1 := hA.v1
  refine Rt_of Tryz.func34 rfl Tryz.ntmps34 rfl ?_
  repeat' (first | apply s_ | (apply JO_ob; exact rfl; first | exact ob1) | ((first | apply b_ | apply a_ | apply i_); exact z_; intro _) | ((first | apply p_ | apply JO_yes | apply GC_t); exact z_) | (apply n_; exact z_) | (apply GC_f; exact z_) | (apply GX_block_on; exact z_) | (apply c_; exact z_; all_goals intro _))
  refine JO_append (xs := []) (sp := []) [] rfl rfl rfl (Own.lit [] (fun _ => rfl) rfl rfl) (List.Perm.refl _) (fun w hw => hw.slArr (.head _) hA (by decide)) (allOne_flat (fun _ => rfl) _) (by simp; omega) ?_
  intro v' sp' ho
  have hv1' := ho.v1
  repeat' (first | apply s_ | (apply JO_ob; exact rfl; first | exact ob1) | ((first | apply b_ | apply a_ | apply i_); exact z_; intro _) | ((first | apply p_ | apply JO_yes | apply GC_t); exact z_) | (apply n_; exact z_) | (apply GC_f; exact z_) | (apply GX_block_on; exact z_) | (apply c_; exact z_; all_goals intro _))
  refine GX_ret1 rfl rfl fun w' hw' => ⟨hw'.kp mem_, sp', ho, fun p hp => ?_⟩
  exact ⟨hw'.apt p hp ((fun _ => True), w) (.head _) trivial, hw'.own p hp⟩
/-- A call of list, its block known. -/
theorem JO_list {n d : Nat} {full : List Oper} {b0 : World} {R : Rgs} {H : Hp} {fr : Slots} {K : Kt} {ty : TypeId} {ps : String} {af : Array Edge} {ar : List Operand} {ts : Array TypeId} {v : Value} {xs : List Int} (hd : Nat.blt d n = true) (hx : evs fr ar = some [v]) (hA : ∀ w, SH b0 R H w → Arr All w 1 encI v xs) (hl : xs.length ≤ 1000000)
    (h : ∀ r sp, Own 1 encI r xs sp → K R (rowH r 3 (xs.flatMap encI ++ sp) ++ H) ((d, r) :: fr)) : JO n full b0 R H ⟨some d, .call ⟨.value (.func 34), ar.toArray, ts⟩, ty, ps, af, none⟩ fr K := by
  refine JO_callS (β := Value × List Value) (S := fun s r => r = s.1 ∧ Own 1 encI s.1 xs s.2) (R' := fun _ => R) (H' := fun s => rowH s.1 3 (xs.flatMap encI ++ s.2) ++ H) hd hx (fun w hw => (c34o v xs w (hA w hw) hl).mono ?_) ?_
  · rintro r w' ⟨kp, sp, ho, hb⟩
    refine ⟨(r, sp), ⟨rfl, ho⟩, fun _ h => h, ?_⟩
    rcases ho.c with ⟨rfl, _⟩ | ⟨bb, cc, rfl, _⟩
    · exact hw.keep kp
    · obtain ⟨g1, g2⟩ := hb _ (.head _)
      exact hw.own1 kp g1 g2
  · rintro ⟨r, sp⟩ v ⟨rfl, ho⟩
    exact h _ _ ho
end Go.Proofs.YtkbaaikidhbfmaaGreat
/- What is known, seen from a later world. No statement is proved here. -/
set_option linter.unusedVariables false
set_option linter.unusedSimpArgs false
namespace Go.Proofs.YtkbaaikidhbfmaaGreat
open Go.RowKit
/-- All that is not one's own. -/
def OffA (H : Hp) : Nat → Prop := fun b => ∀ p ∈ H, p.1 ≠ b
section
variable {b0 : World} {R : Rgs} {H : Hp} {w w1 : World} {G : Nat → Prop}
theorem SH.offA (h : SH b0 R H w) : SH b0 ((OffA H, w) :: R) H w := h.add _ fun p hp ho => ho p hp rfl
theorem SH.toA {α : Type} {sz : Nat} {enc : α → List Value} {v : Value} {xs : List α} (hw : SH b0 R H w) (hr : (G, w1) ∈ R) (h : Arr G w1 sz enc v xs) : Arr (OffA H) w sz enc v xs := by
  have h1 : Arr (fun b => G b ∧ OffA H b) w1 sz enc v xs := h.weaken fun b hb hlt => ⟨hb, fun p hp e => by
    subst e
    have := hw.apt p hp _ hr hb
    simp only at this; omega⟩
  have h2 : Arr (fun b => G b ∧ OffA H b) w sz enc v xs := h1.move fun b hb hlt => (hw.rng _ hr).2 b hb.1 hlt
  exact h2.weaken fun b hb _ => hb.2
theorem SH.toAn {v : Value} {hs : List Value} {xss : List (List Int)} (hw : SH b0 R H w) (hr : (G, w1) ∈ R) (h : Nest G w1 v hs xss) : Nest (OffA H) w v hs xss :=
  ⟨h.len, hw.toA hr h.arr, fun i hi => hw.toA hr (h.row i hi)⟩
end
end Go.Proofs.YtkbaaikidhbfmaaGreat
/- Plain mathematics: works with another number of boxes, another force, another last hour, other cakes; the best plans. No statement is proved here. -/
set_option linter.unusedVariables false
set_option linter.unusedSimpArgs false
namespace Go.Proofs.YtkbaaikidhbfmaaGreat
open Go.RowKit
theorem fault9_mk {k : Wk} (h : OkK k) (hm : many1 k.yard.fields * many3 k.beat ≤ 6000) : fault9 k = 0 := by
  have h1 : (truths1 k.yard).length ≠ 0 := fun e => h.t1 ((truths1_nil h.y.f h.m1).1 e)
  have h3 : (truths3 k.beat).length ≠ 0 := fun e => h.t3 ((truths3_nil h.b).1 e)
  have hn : isNum k = true := by simp only [isNum, Bool.and_eq_true, decide_eq_true_eq]; exact ⟨h.boxes, h.force, h.last, h.cake⟩
  unfold fault9
  rw [if_neg (fun e => e h.f1), if_neg h1, if_neg (fun e => e h.f3), if_neg h3, if_neg (fun e => e h.len), if_neg (by rw [h.ends]; decide), if_neg (by rw [hn]; decide), if_neg (by omega)]
theorem fault9_many {k : Wk} (h : fault9 k = 0) : many1 k.yard.fields * many3 k.beat ≤ 6000 := (fault9_0 h).2.2.2.2.2.2.2
def boxK (k : Wk) (b : Int) : Wk := { k with boxes := b }
theorem fault_box {k : Wk} (h : fault9 k = 0) {b : Int} (hb : 1 ≤ b ∧ b ≤ 3) : fault9 (boxK k b) = 0 := by
  have hK := okK_of h
  have hm := fault9_many h
  exact fault9_mk (k := boxK k b) ⟨hK.f1, hK.f3, hK.y, hK.b, hK.m1, hK.m3, hK.len, hK.ends, hK.t1, hK.t3, hb, hK.force, hK.last, hK.cake⟩ hm
theorem best_box (k : Wk) (b b' : Int) : bestL (boxK k b) b' = bestL k b' := rfl
theorem best_len {k : Wk} (h : OkK k) {b : Int} (hb : 1 ≤ b) : (bestL k b).1.length = k.yard.vats.length := (mem_plans.1 (bestL_ok h hb).mem).1
theorem best_bd {k : Wk} (h : OkK k) {b : Int} (hb : 1 ≤ b) : 0 ≤ (bestL k b).2 ∧ (bestL k b).2 ≤ 2703 := by
  rw [(bestL_ok h hb).val]; exact endV_bd h _
def zeros (k : Wk) : List Int := List.replicate k.yard.vats.length 0
theorem zeros_len (k : Wk) : (zeros k).length = k.yard.vats.length := by simp [zeros]
theorem zeros_nth {k : Wk} {i : Nat} (hi : i < k.yard.vats.length) : nth (zeros k) i = 0 := by simp [zeros, nth, hi]
theorem zeros_plan {k : Wk} (h : OkK k) : planP k (zeros k) = true := by
  rw [planP_eq h.boxes, isPlan_iff, mem_plans]
  have hb := h.boxes
  exact ⟨zeros_len k, fun x hx => by rw [List.eq_of_mem_replicate hx]; omega⟩
theorem zeros_end {k : Wk} (h : OkK k) (hn : 0 < k.yard.vats.length) : endV k (zeros k) = (nth (timesV k (zeros k)) (k.yard.vats.length - 1)).2 := by
  have h1 := endV_ge h (zeros k) (i := k.yard.vats.length - 1) (by omega)
  have h2 : endV k (zeros k) ≤ (nth (timesV k (zeros k)) (k.yard.vats.length - 1)).2 := by
    have h0 := (timesV_bd h (zeros k) (i := k.yard.vats.length - 1) (by omega))
    rw [endV_leP h]
    refine ⟨by omega, fun i hi p hp => ?_⟩
    have h3 := (times_in (zeros k) hp (i := k.yard.vats.length - 1) (by omega)).2
    have h4 := atN_grow (hr := hrP k p) (l := zeros k) (v := 0) (n := i + 1) (k.yard.vats.length - 1 - i) (fun j hj => (hrP_bd h hp (by omega)).1)
    rw [show i + 1 + (k.yard.vats.length - 1 - i) = k.yard.vats.length by omega] at h4
    rw [atP_eq, zeros_nth hi]
    rw [atP_eq, zeros_nth (by omega), show k.yard.vats.length - 1 + 1 = k.yard.vats.length by omega] at h3
    omega
  omega
theorem best_one {k : Wk} (h : OkK k) (hn : 0 < k.yard.vats.length) : (bestL k 1).2 = (nth (timesV k (zeros k)) (k.yard.vats.length - 1)).2 := by
  have h1 := bestL_ok h (b := 1) (by omega)
  obtain ⟨g1, g2⟩ := mem_plans.1 h1.mem
  have e : (bestL k 1).1 = zeros k := by
    rw [zeros, ← g1]
    exact List.eq_replicate_iff.2 ⟨rfl, fun x hx => by have := g2 x hx; omega⟩
  rw [h1.val, e, zeros_end h hn]
def mostT (k : Wk) (i : Nat) : Int := endR ((mudsV k fun m => (hoursR k.force m : Int)).take i)
theorem mostT_succ {k : Wk} {i : Nat} (hi : i < k.yard.vats.length) : mostT k (i + 1) = max (mostT k i) (nth (mudsV k fun m => (hoursR k.force m : Int)) i).2 := by
  simp only [mostT]
  rw [take_snoc (by rw [mudsV_len]; exact hi)]
  simp only [endR, List.foldl_append, List.foldl_cons, List.foldl_nil]
theorem mostT_all (k : Wk) : mostT k k.yard.vats.length = mostV k := by
  simp only [mostT, mostV]; rw [List.take_of_length_le (by rw [mudsV_len]; exact Nat.le_refl _)]
end Go.Proofs.YtkbaaikidhbfmaaGreat
/- Plain mathematics: works of which more is known. No statement is proved here. -/
set_option linter.unusedVariables false
set_option linter.unusedSimpArgs false
namespace Go.Proofs.YtkbaaikidhbfmaaGreat
open Go.RowKit
/-- Of x more is known than of k. -/
structure Known (k x : Wk) : Prop where
  vats : x.yard.vats.length = k.yard.vats.length
  mud : ∀ (p : List Int × Crs), p ∈ pairs x → ∀ i : Nat, i < k.yard.vats.length → mudR x p.1 p.2 (i : Int) = mudR k p.1 p.2 (i : Int)
  force : x.force = k.force
  cake : x.cake = k.cake
  boxes : x.boxes = k.boxes
  sub : ∀ p ∈ pairs x, p ∈ pairs k
theorem known_muds {k x : Wk} (h : Known k x) (val : Int → Int) {i : Nat} (hi : i < k.yard.vats.length) :
    (nth (mudsV k val) i).1 ≤ (nth (mudsV x val) i).1 ∧ (nth (mudsV x val) i).2 ≤ (nth (mudsV k val) i).2 := by
  rw [mudsV_nth val hi, mudsV_nth val (by rw [h.vats]; exact hi)]
  have key : ∀ y ∈ (mudsL x i).map val, y ∈ (mudsL k i).map val := fun y hy => by
    obtain ⟨m, hm, rfl⟩ := List.mem_map.1 hy
    obtain ⟨p, hp, rfl⟩ := List.mem_map.1 hm
    rw [h.mud p hp i hi]
    exact List.mem_map.2 ⟨_, List.mem_map.2 ⟨p, h.sub p hp, rfl⟩, rfl⟩
  exact ⟨lo_le fun y hy => ⟨y, key y hy, Int.le_refl _⟩, hi_le fun y hy => ⟨y, key y hy, Int.le_refl _⟩⟩
theorem known_end {k x : Wk} (hk : OkK k) (hx : OkK x) (h : Known k x) (l : List Int) : endV x l ≤ endV k l := by
  obtain ⟨q1, q2⟩ := (endV_leP hk (l := l)).1 (Int.le_refl _)
  rw [endV_leP hx]
  refine ⟨q1, fun i hi p hp => ?_⟩
  have hi2 : i < k.yard.vats.length := by rw [← h.vats]; exact hi
  refine Int.le_trans ?_ (q2 i hi2 p (h.sub p hp))
  refine atN_mono _ fun j hj => ?_
  rw [h.mud p hp j (by omega), h.force]
  exact Int.le_refl _
theorem known_best {k x : Wk} (hk : OkK k) (hx : OkK x) (h : Known k x) {b : Int} (hb : 1 ≤ b) : (bestL x b).2 ≤ (bestL k b).2 := by
  have b1 := bestL_ok hk hb
  have b2 := bestL_ok hx hb
  have hm : (bestL k b).1 ∈ lex (List.replicate x.yard.vats.length (0, b - 1)) := by rw [h.vats]; exact b1.mem
  rw [b1.val]
  exact Int.le_trans (b2.least _ hm) (known_end hk hx h _)
def moreY (k : Wk) (s : Smp) : Wk := { k with yard := { k.yard with smps := k.yard.smps ++ [s] } }
def moreB (k : Wk) (s : BS) : Wk := { k with beat := { k.beat with smps := k.beat.smps ++ [s] } }
theorem okAll_more {y : Yd} {s : Smp} {bs : List Int} (h : okAll { y with smps := y.smps ++ [s] } bs = true) : okAll y bs = true := by
  simp only [okAll, List.all_eq_true, List.mem_range, List.length_append, List.length_singleton] at h ⊢
  intro i hi
  have h1 := h i (by omega)
  simp only [okS] at h1 ⊢
  rw [nth_app_l hi] at h1
  exact h1
theorem okAllC_more {y : Bt} {s : BS} {c : Crs} (h : okAllC { y with smps := y.smps ++ [s] } c = true) : okAllC y c = true := by
  simp only [okAllC, List.all_eq_true, List.mem_range, List.length_append, List.length_singleton] at h ⊢
  intro i hi
  have h1 := h i (by omega)
  simp only [okC] at h1 ⊢
  rw [nth_app_l hi] at h1
  exact h1
theorem known_Y {k : Wk} {s : Smp} (hk : OkK k) (hx : OkK (moreY k s)) : Known k (moreY k s) :=
  ⟨rfl, fun _ _ _ _ => rfl, rfl, rfl, rfl, fun p hp => by
    obtain ⟨h1, h2⟩ := (pairs_mem hx).1 hp
    refine (pairs_mem hk).2 ⟨?_, h2⟩
    obtain ⟨h3, h4⟩ := List.mem_filter.1 h1
    exact List.mem_filter.2 ⟨h3, okAll_more h4⟩⟩
theorem known_B {k : Wk} {s : BS} (hk : OkK k) (hx : OkK (moreB k s)) : Known k (moreB k s) :=
  ⟨rfl, fun _ _ _ _ => rfl, rfl, rfl, rfl, fun p hp => by
    obtain ⟨h1, l, h2, h5⟩ := (pairs_mem hx).1 hp
    refine (pairs_mem hk).2 ⟨h1, l, ?_, h5⟩
    obtain ⟨h3, h4⟩ := List.mem_filter.1 h2
    exact List.mem_filter.2 ⟨h3, okAllC_more h4⟩⟩
end Go.Proofs.YtkbaaikidhbfmaaGreat
/- The walk of the law PressKnown. No statement is proved here. -/
set_option linter.unusedVariables false
set_option linter.unusedSimpArgs false
namespace Go.Proofs.YtkbaaikidhbfmaaGreat
open Go.RowKit
section
variable {w : World} {a b c d e f : Value} {hs : List Value} {k : Wk}
set_option maxRecDepth 100000 in
set_option maxHeartbeats 8000000 in
theorem law14_good (h : WkA All w a b c hs d e f k) (x : Int) (s0 : Smp) (t : BS) (hx : 0 ≤ x ∧ x ≤ 255) (hz1 : k.yard.smps.length * 24 ≤ 140737488351232) (hz2 : k.beat.smps.length * 24 ≤ 140737488351232) (kx : Wk) (hkx : (x % 2 = 0 ∧ kx = moreY k s0) ∨ (¬ x % 2 = 0 ∧ kx = moreB k t)) : Ex 14 [wkV a b c d e f k, .agg (encS s0).toArray, .agg (encB t).toArray, .int .u8 x] w (.bool true) := by
  have i1 := h.yard.fields.v1
  have i2 := h.yard.vats.arr.v1
  have i3 := h.yard.smps.v1
  have i4 := h.beat.vats.v1
  have i5 := h.beat.smps.v1
  have i6 := h.ends.v1
  refine Rt_of Tryz.func14 rfl Tryz.ntmps14 rfl ?_

  apply GC_seq
  refine GC_mid (α := Nat × Nat × Nat) (fun s => [(4, pt s.1), (5, pt s.2.1), (6, pt s.2.2), (3, .int .u8 x)]) (fun s => [((fun _ => True), w)]) (fun s => [(s.2.2, .cells (encB t).toArray 104), (s.2.1, .cells (encS s0).toArray 102), (s.1, .cells (wkC a b c d e f k).toArray 35)]) (fun s => True) ?_ ?_
  · repeat' (first | apply s_ | ((first | apply JO_ob | apply GD_ex | apply GL_ex); exact rfl; first | exact ob1) | ((first | apply b_ | apply a_ | apply i_); exact z_; intro _) | ((first | apply p_ | apply JO_yes | apply GC_t); exact z_) | (apply n_; exact z_) | (apply GC_f; exact z_) | (apply GX_block_on; exact z_) | refine GC_drawB (id := 3) [] [1, 2, 3, 5] [0, 4, 6, 7, 8, 9, 10] _ (by kernel_rfl) (List.Sublist.refl _) ?_ | refine GC_drawB (id := 4) [] [1, 2, 3, 5] [0, 4, 6, 7, 8, 9, 10] _ (by kernel_rfl) (List.Sublist.refl _) ?_ | ((first | apply GD_at | apply GL_at | apply GD_no | apply GL_no); exact rfl) | apply DFin_0 | (apply q1_; exact z_) | (apply q0_; exact z_) | (apply q2_; exact z_))
    all_goals exact GX_loop (_, _, _) ⟨rfl, rfl, rfl, rfl, trivial⟩ Nat.zero_lt_one trivial (fun w hw => hw.cut)
  rintro ⟨p4, p5, p6⟩ _
  try simp only
  apply GC_seq
  refine GC_mid (α := Nat) (fun s => [(9, pt s), (4, pt p4), (5, pt p5), (6, pt p6), (3, .int .u8 x)]) (fun s => [((fun _ => True), w)]) (fun s => [(s, .cells (wkC a b c d e f k).toArray 35), (p6, .cells (encB t).toArray 104), (p5, .cells (encS s0).toArray 102), (p4, .cells (wkC a b c d e f k).toArray 35)]) (fun s => True) ?_ ?_
  · repeat' (first | apply s_ | ((first | apply JO_ob | apply GD_ex | apply GL_ex); exact rfl; first | exact ob1) | ((first | apply b_ | apply a_ | apply i_); exact z_; intro _) | ((first | apply p_ | apply JO_yes | apply GC_t); exact z_) | (apply n_; exact z_) | (apply GC_f; exact z_) | (apply GX_block_on; exact z_) | refine GC_drawB (id := 3) [] [1, 2, 3, 5] [0, 4, 6, 7, 8, 9, 10] _ (by kernel_rfl) (List.Sublist.refl _) ?_ | refine GC_drawB (id := 4) [] [1, 2, 3, 5] [0, 4, 6, 7, 8, 9, 10] _ (by kernel_rfl) (List.Sublist.refl _) ?_ | ((first | apply GD_at | apply GL_at | apply GD_no | apply GL_no); exact rfl) | apply DFin_0 | (apply q1_; exact z_) | (apply q0_; exact z_) | (apply q2_; exact z_))
    all_goals exact GX_loop _ ⟨rfl, rfl, rfl, rfl, rfl, trivial⟩ Nat.zero_lt_one trivial (fun w hw => hw.cut)
  intro p9 _
  try simp only
  apply GC_seq
  refine GC_mid (α := Value × Value × (Nat → Prop) × World) (fun s => [(9, pt p9), (4, pt p4)]) (fun s => [(s.2.2.1, s.2.2.2), ((fun _ => True), w)]) (fun s => [(p9, .cells (wkC a b s.1 d s.2.1 f kx).toArray 35), (p4, .cells (wkC a b c d e f k).toArray 35)]) (fun s => WkA s.2.2.1 s.2.2.2 a b s.1 hs d s.2.1 f kx) ?_ ?_
  · rcases hkx with ⟨hev, rfl⟩ | ⟨hev, rfl⟩
    · repeat' (first | apply s_ | ((first | apply JO_ob | apply GD_ex | apply GL_ex); exact rfl; first | exact ob1 | exact Ob_rem rfl rfl (by omega) (by omega)) | ((first | apply b_ | apply a_ | apply i_); exact z_; intro _) | ((first | apply p_ | apply JO_yes | apply GC_t); exact z_) | (apply n_; exact z_) | (apply GC_f; exact z_) | (apply GX_block_on; exact z_) | refine GC_drawB (id := 3) [] [1, 2, 3, 5] [0, 4, 6, 7, 8, 9, 10] _ (by kernel_rfl) (List.Sublist.refl _) ?_ | refine GC_drawB (id := 4) [] [1, 2, 3, 5] [0, 4, 6, 7, 8, 9, 10] _ (by kernel_rfl) (List.Sublist.refl _) ?_ | ((first | apply GD_at | apply GL_at | apply GD_no | apply GL_no); exact rfl) | apply DFin_0 | (apply q1_; exact z_) | (apply q0_; exact z_) | (apply q2_; exact z_))
      · refine JO_append (xs := []) (sp := []) [_, _, _, _] rfl rfl rfl (Own.lit [] (fun _ => rfl) rfl rfl) (List.perm_append_singleton _ _).symm (fun w hw => hw.slArr mem_ h.yard.smps (by decide)) (allOne_flat (fun _ => rfl) _) (by simp; omega) ?_
        intro v1 s1 ho1
        have j1 := ho1.v1
        repeat' (first | apply s_ | ((first | apply JO_ob | apply GD_ex | apply GL_ex); exact rfl; first | exact ob1) | ((first | apply b_ | apply a_ | apply i_); exact z_; intro _) | ((first | apply p_ | apply JO_yes | apply GC_t); exact z_) | (apply n_; exact z_) | (apply GC_f; exact z_) | (apply GX_block_on; exact z_) | refine GC_drawB (id := 3) [] [1, 2, 3, 5] [0, 4, 6, 7, 8, 9, 10] _ (by kernel_rfl) (List.Sublist.refl _) ?_ | refine GC_drawB (id := 4) [] [1, 2, 3, 5] [0, 4, 6, 7, 8, 9, 10] _ (by kernel_rfl) (List.Sublist.refl _) ?_ | ((first | apply GD_at | apply GL_at | apply GD_no | apply GL_no); exact rfl) | apply DFin_0 | (apply q1_; exact z_) | (apply q0_; exact z_) | (apply q2_; exact z_))
        refine JO_append (xs := [] ++ k.yard.smps) (ys := [s0]) [_, _, _, _, _] rfl rfl rfl ho1 (List.Perm.refl _) (fun w hw => hw.slOwn mem_ rfl) rfl (by simp; omega) ?_
        intro v2 s2 ho2
        have j2 := ho2.v1
        repeat' (first | apply s_ | ((first | apply JO_ob | apply GD_ex | apply GL_ex); exact rfl; first | exact ob1) | ((first | apply b_ | apply a_ | apply i_); exact z_; intro _) | ((first | apply p_ | apply JO_yes | apply GC_t); exact z_) | (apply n_; exact z_) | (apply GC_f; exact z_) | (apply GX_block_on; exact z_) | refine GC_drawB (id := 3) [] [1, 2, 3, 5] [0, 4, 6, 7, 8, 9, 10] _ (by kernel_rfl) (List.Sublist.refl _) ?_ | refine GC_drawB (id := 4) [] [1, 2, 3, 5] [0, 4, 6, 7, 8, 9, 10] _ (by kernel_rfl) (List.Sublist.refl _) ?_ | ((first | apply GD_at | apply GL_at | apply GD_no | apply GL_no); exact rfl) | apply DFin_0 | (apply q1_; exact z_) | (apply q0_; exact z_) | (apply q2_; exact z_))
        refine GX_freeze (A := [_, _, _, _, _]) ho2 (by decide) ?_
        intro G2 w2 hV hG2
        refine GX_loopw fun w5 hw5 => ?_
        have hv := hw5.toA (.head _) hV
        have u1 := hw5.toA (.tail _ (.head _)) h.yard.fields
        have u2 := hw5.toAn (.tail _ (.head _)) h.yard.vats
        have u3 := hw5.toA (.tail _ (.head _)) h.yard.smps
        have u4 := hw5.toA (.tail _ (.head _)) h.beat.vats
        have u5 := hw5.toA (.tail _ (.head _)) h.beat.smps
        have u6 := hw5.toA (.tail _ (.head _)) h.ends
        exact ⟨(v2, e, OffA _, w5), ⟨rfl, rfl, trivial⟩, Nat.zero_lt_one, ⟨⟨u1, u2, hv⟩, ⟨u4, u5⟩, u6⟩, hw5.offA.cut⟩
      · refine JO_append (xs := []) (sp := []) [_, _, _, _, _] rfl rfl rfl (Own.lit [] (fun _ => rfl) rfl rfl) ((List.perm_append_singleton _ _).symm.cons _) (fun w hw => hw.slArr mem_ h.yard.smps (by decide)) (allOne_flat (fun _ => rfl) _) (by simp; omega) ?_
        intro v1 s1 ho1
        have j1 := ho1.v1
        repeat' (first | apply s_ | ((first | apply JO_ob | apply GD_ex | apply GL_ex); exact rfl; first | exact ob1) | ((first | apply b_ | apply a_ | apply i_); exact z_; intro _) | ((first | apply p_ | apply JO_yes | apply GC_t); exact z_) | (apply n_; exact z_) | (apply GC_f; exact z_) | (apply GX_block_on; exact z_) | refine GC_drawB (id := 3) [] [1, 2, 3, 5] [0, 4, 6, 7, 8, 9, 10] _ (by kernel_rfl) (List.Sublist.refl _) ?_ | refine GC_drawB (id := 4) [] [1, 2, 3, 5] [0, 4, 6, 7, 8, 9, 10] _ (by kernel_rfl) (List.Sublist.refl _) ?_ | ((first | apply GD_at | apply GL_at | apply GD_no | apply GL_no); exact rfl) | apply DFin_0 | (apply q1_; exact z_) | (apply q0_; exact z_) | (apply q2_; exact z_))
        refine JO_append (xs := [] ++ k.yard.smps) (ys := [s0]) [_, _, _, _, _] rfl rfl rfl ho1 (List.Perm.refl _) (fun w hw => hw.slOwn mem_ rfl) rfl (by simp; omega) ?_
        intro v2 s2 ho2
        have j2 := ho2.v1
        repeat' (first | apply s_ | ((first | apply JO_ob | apply GD_ex | apply GL_ex); exact rfl; first | exact ob1) | ((first | apply b_ | apply a_ | apply i_); exact z_; intro _) | ((first | apply p_ | apply JO_yes | apply GC_t); exact z_) | (apply n_; exact z_) | (apply GC_f; exact z_) | (apply GX_block_on; exact z_) | refine GC_drawB (id := 3) [] [1, 2, 3, 5] [0, 4, 6, 7, 8, 9, 10] _ (by kernel_rfl) (List.Sublist.refl _) ?_ | refine GC_drawB (id := 4) [] [1, 2, 3, 5] [0, 4, 6, 7, 8, 9, 10] _ (by kernel_rfl) (List.Sublist.refl _) ?_ | ((first | apply GD_at | apply GL_at | apply GD_no | apply GL_no); exact rfl) | apply DFin_0 | (apply q1_; exact z_) | (apply q0_; exact z_) | (apply q2_; exact z_))
        refine GX_freeze (A := [_, _, _, _, _]) ho2 (by decide) ?_
        intro G2 w2 hV hG2
        refine GX_loopw fun w5 hw5 => ?_
        have hv := hw5.toA (.head _) hV
        have u1 := hw5.toA (.tail _ (.head _)) h.yard.fields
        have u2 := hw5.toAn (.tail _ (.head _)) h.yard.vats
        have u3 := hw5.toA (.tail _ (.head _)) h.yard.smps
        have u4 := hw5.toA (.tail _ (.head _)) h.beat.vats
        have u5 := hw5.toA (.tail _ (.head _)) h.beat.smps
        have u6 := hw5.toA (.tail _ (.head _)) h.ends
        exact ⟨(v2, e, OffA _, w5), ⟨rfl, rfl, trivial⟩, Nat.zero_lt_one, ⟨⟨u1, u2, hv⟩, ⟨u4, u5⟩, u6⟩, hw5.offA.cut⟩
      · refine JO_append (xs := []) (sp := []) [_, _, _, _, _] rfl rfl rfl (Own.lit [] (fun _ => rfl) rfl rfl) (List.perm_append_singleton _ _).symm (fun w hw => hw.slArr mem_ h.yard.smps (by decide)) (allOne_flat (fun _ => rfl) _) (by simp; omega) ?_
        intro v1 s1 ho1
        have j1 := ho1.v1
        repeat' (first | apply s_ | ((first | apply JO_ob | apply GD_ex | apply GL_ex); exact rfl; first | exact ob1) | ((first | apply b_ | apply a_ | apply i_); exact z_; intro _) | ((first | apply p_ | apply JO_yes | apply GC_t); exact z_) | (apply n_; exact z_) | (apply GC_f; exact z_) | (apply GX_block_on; exact z_) | refine GC_drawB (id := 3) [] [1, 2, 3, 5] [0, 4, 6, 7, 8, 9, 10] _ (by kernel_rfl) (List.Sublist.refl _) ?_ | refine GC_drawB (id := 4) [] [1, 2, 3, 5] [0, 4, 6, 7, 8, 9, 10] _ (by kernel_rfl) (List.Sublist.refl _) ?_ | ((first | apply GD_at | apply GL_at | apply GD_no | apply GL_no); exact rfl) | apply DFin_0 | (apply q1_; exact z_) | (apply q0_; exact z_) | (apply q2_; exact z_))
        refine JO_append (xs := [] ++ k.yard.smps) (ys := [s0]) [_, _, _, _, _] rfl rfl rfl ho1 (List.Perm.refl _) (fun w hw => hw.slOwn mem_ rfl) rfl (by simp; omega) ?_
        intro v2 s2 ho2
        have j2 := ho2.v1
        repeat' (first | apply s_ | ((first | apply JO_ob | apply GD_ex | apply GL_ex); exact rfl; first | exact ob1) | ((first | apply b_ | apply a_ | apply i_); exact z_; intro _) | ((first | apply p_ | apply JO_yes | apply GC_t); exact z_) | (apply n_; exact z_) | (apply GC_f; exact z_) | (apply GX_block_on; exact z_) | refine GC_drawB (id := 3) [] [1, 2, 3, 5] [0, 4, 6, 7, 8, 9, 10] _ (by kernel_rfl) (List.Sublist.refl _) ?_ | refine GC_drawB (id := 4) [] [1, 2, 3, 5] [0, 4, 6, 7, 8, 9, 10] _ (by kernel_rfl) (List.Sublist.refl _) ?_ | ((first | apply GD_at | apply GL_at | apply GD_no | apply GL_no); exact rfl) | apply DFin_0 | (apply q1_; exact z_) | (apply q0_; exact z_) | (apply q2_; exact z_))
        refine GX_freeze (A := [_, _, _, _, _]) ho2 (by decide) ?_
        intro G2 w2 hV hG2
        refine GX_loopw fun w5 hw5 => ?_
        have hv := hw5.toA (.head _) hV
        have u1 := hw5.toA (.tail _ (.head _)) h.yard.fields
        have u2 := hw5.toAn (.tail _ (.head _)) h.yard.vats
        have u3 := hw5.toA (.tail _ (.head _)) h.yard.smps
        have u4 := hw5.toA (.tail _ (.head _)) h.beat.vats
        have u5 := hw5.toA (.tail _ (.head _)) h.beat.smps
        have u6 := hw5.toA (.tail _ (.head _)) h.ends
        exact ⟨(v2, e, OffA _, w5), ⟨rfl, rfl, trivial⟩, Nat.zero_lt_one, ⟨⟨u1, u2, hv⟩, ⟨u4, u5⟩, u6⟩, hw5.offA.cut⟩
    · repeat' (first | apply s_ | ((first | apply JO_ob | apply GD_ex | apply GL_ex); exact rfl; first | exact ob1 | exact Ob_rem rfl rfl (by omega) (by omega)) | ((first | apply b_ | apply a_ | apply i_); exact z_; intro _) | ((first | apply p_ | apply JO_yes | apply GC_t); exact z_) | (apply n_; exact z_) | (apply GC_f; exact z_) | (apply GX_block_on; exact z_) | refine GC_drawB (id := 3) [] [1, 2, 3, 5] [0, 4, 6, 7, 8, 9, 10] _ (by kernel_rfl) (List.Sublist.refl _) ?_ | refine GC_drawB (id := 4) [] [1, 2, 3, 5] [0, 4, 6, 7, 8, 9, 10] _ (by kernel_rfl) (List.Sublist.refl _) ?_ | ((first | apply GD_at | apply GL_at | apply GD_no | apply GL_no); exact rfl) | apply DFin_0 | (apply q1_; exact z_) | (apply q0_; exact z_) | (apply q2_; exact z_))
      · refine JO_append (xs := []) (sp := []) [_, _, _, _] rfl rfl rfl (Own.lit [] (fun _ => rfl) rfl rfl) (List.perm_append_singleton _ _).symm (fun w hw => hw.slArr mem_ h.beat.smps (by decide)) (allOne_flat (fun _ => rfl) _) (by simp; omega) ?_
        intro v1 s1 ho1
        have j1 := ho1.v1
        repeat' (first | apply s_ | ((first | apply JO_ob | apply GD_ex | apply GL_ex); exact rfl; first | exact ob1) | ((first | apply b_ | apply a_ | apply i_); exact z_; intro _) | ((first | apply p_ | apply JO_yes | apply GC_t); exact z_) | (apply n_; exact z_) | (apply GC_f; exact z_) | (apply GX_block_on; exact z_) | refine GC_drawB (id := 3) [] [1, 2, 3, 5] [0, 4, 6, 7, 8, 9, 10] _ (by kernel_rfl) (List.Sublist.refl _) ?_ | refine GC_drawB (id := 4) [] [1, 2, 3, 5] [0, 4, 6, 7, 8, 9, 10] _ (by kernel_rfl) (List.Sublist.refl _) ?_ | ((first | apply GD_at | apply GL_at | apply GD_no | apply GL_no); exact rfl) | apply DFin_0 | (apply q1_; exact z_) | (apply q0_; exact z_) | (apply q2_; exact z_))
        refine JO_append (xs := [] ++ k.beat.smps) (ys := [t]) [_, _, _, _, _] rfl rfl rfl ho1 (List.Perm.refl _) (fun w hw => hw.slOwn mem_ rfl) rfl (by simp; omega) ?_
        intro v2 s2 ho2
        have j2 := ho2.v1
        repeat' (first | apply s_ | ((first | apply JO_ob | apply GD_ex | apply GL_ex); exact rfl; first | exact ob1) | ((first | apply b_ | apply a_ | apply i_); exact z_; intro _) | ((first | apply p_ | apply JO_yes | apply GC_t); exact z_) | (apply n_; exact z_) | (apply GC_f; exact z_) | (apply GX_block_on; exact z_) | refine GC_drawB (id := 3) [] [1, 2, 3, 5] [0, 4, 6, 7, 8, 9, 10] _ (by kernel_rfl) (List.Sublist.refl _) ?_ | refine GC_drawB (id := 4) [] [1, 2, 3, 5] [0, 4, 6, 7, 8, 9, 10] _ (by kernel_rfl) (List.Sublist.refl _) ?_ | ((first | apply GD_at | apply GL_at | apply GD_no | apply GL_no); exact rfl) | apply DFin_0 | (apply q1_; exact z_) | (apply q0_; exact z_) | (apply q2_; exact z_))
        refine GX_freeze (A := [_, _, _, _, _]) ho2 (by decide) ?_
        intro G2 w2 hV hG2
        refine GX_loopw fun w5 hw5 => ?_
        have hv := hw5.toA (.head _) hV
        have u1 := hw5.toA (.tail _ (.head _)) h.yard.fields
        have u2 := hw5.toAn (.tail _ (.head _)) h.yard.vats
        have u3 := hw5.toA (.tail _ (.head _)) h.yard.smps
        have u4 := hw5.toA (.tail _ (.head _)) h.beat.vats
        have u5 := hw5.toA (.tail _ (.head _)) h.beat.smps
        have u6 := hw5.toA (.tail _ (.head _)) h.ends
        exact ⟨(c, v2, OffA _, w5), ⟨rfl, rfl, trivial⟩, Nat.zero_lt_one, ⟨⟨u1, u2, u3⟩, ⟨u4, hv⟩, u6⟩, hw5.offA.cut⟩
      · refine JO_append (xs := []) (sp := []) [_, _, _, _, _] rfl rfl rfl (Own.lit [] (fun _ => rfl) rfl rfl) ((List.perm_append_singleton _ _).symm.cons _) (fun w hw => hw.slArr mem_ h.beat.smps (by decide)) (allOne_flat (fun _ => rfl) _) (by simp; omega) ?_
        intro v1 s1 ho1
        have j1 := ho1.v1
        repeat' (first | apply s_ | ((first | apply JO_ob | apply GD_ex | apply GL_ex); exact rfl; first | exact ob1) | ((first | apply b_ | apply a_ | apply i_); exact z_; intro _) | ((first | apply p_ | apply JO_yes | apply GC_t); exact z_) | (apply n_; exact z_) | (apply GC_f; exact z_) | (apply GX_block_on; exact z_) | refine GC_drawB (id := 3) [] [1, 2, 3, 5] [0, 4, 6, 7, 8, 9, 10] _ (by kernel_rfl) (List.Sublist.refl _) ?_ | refine GC_drawB (id := 4) [] [1, 2, 3, 5] [0, 4, 6, 7, 8, 9, 10] _ (by kernel_rfl) (List.Sublist.refl _) ?_ | ((first | apply GD_at | apply GL_at | apply GD_no | apply GL_no); exact rfl) | apply DFin_0 | (apply q1_; exact z_) | (apply q0_; exact z_) | (apply q2_; exact z_))
        refine JO_append (xs := [] ++ k.beat.smps) (ys := [t]) [_, _, _, _, _] rfl rfl rfl ho1 (List.Perm.refl _) (fun w hw => hw.slOwn mem_ rfl) rfl (by simp; omega) ?_
        intro v2 s2 ho2
        have j2 := ho2.v1
        repeat' (first | apply s_ | ((first | apply JO_ob | apply GD_ex | apply GL_ex); exact rfl; first | exact ob1) | ((first | apply b_ | apply a_ | apply i_); exact z_; intro _) | ((first | apply p_ | apply JO_yes | apply GC_t); exact z_) | (apply n_; exact z_) | (apply GC_f; exact z_) | (apply GX_block_on; exact z_) | refine GC_drawB (id := 3) [] [1, 2, 3, 5] [0, 4, 6, 7, 8, 9, 10] _ (by kernel_rfl) (List.Sublist.refl _) ?_ | refine GC_drawB (id := 4) [] [1, 2, 3, 5] [0, 4, 6, 7, 8, 9, 10] _ (by kernel_rfl) (List.Sublist.refl _) ?_ | ((first | apply GD_at | apply GL_at | apply GD_no | apply GL_no); exact rfl) | apply DFin_0 | (apply q1_; exact z_) | (apply q0_; exact z_) | (apply q2_; exact z_))
        refine GX_freeze (A := [_, _, _, _, _]) ho2 (by decide) ?_
        intro G2 w2 hV hG2
        refine GX_loopw fun w5 hw5 => ?_
        have hv := hw5.toA (.head _) hV
        have u1 := hw5.toA (.tail _ (.head _)) h.yard.fields
        have u2 := hw5.toAn (.tail _ (.head _)) h.yard.vats
        have u3 := hw5.toA (.tail _ (.head _)) h.yard.smps
        have u4 := hw5.toA (.tail _ (.head _)) h.beat.vats
        have u5 := hw5.toA (.tail _ (.head _)) h.beat.smps
        have u6 := hw5.toA (.tail _ (.head _)) h.ends
        exact ⟨(c, v2, OffA _, w5), ⟨rfl, rfl, trivial⟩, Nat.zero_lt_one, ⟨⟨u1, u2, u3⟩, ⟨u4, hv⟩, u6⟩, hw5.offA.cut⟩
      · refine JO_append (xs := []) (sp := []) [_, _, _, _, _] rfl rfl rfl (Own.lit [] (fun _ => rfl) rfl rfl) (List.perm_append_singleton _ _).symm (fun w hw => hw.slArr mem_ h.beat.smps (by decide)) (allOne_flat (fun _ => rfl) _) (by simp; omega) ?_
        intro v1 s1 ho1
        have j1 := ho1.v1
        repeat' (first | apply s_ | ((first | apply JO_ob | apply GD_ex | apply GL_ex); exact rfl; first | exact ob1) | ((first | apply b_ | apply a_ | apply i_); exact z_; intro _) | ((first | apply p_ | apply JO_yes | apply GC_t); exact z_) | (apply n_; exact z_) | (apply GC_f; exact z_) | (apply GX_block_on; exact z_) | refine GC_drawB (id := 3) [] [1, 2, 3, 5] [0, 4, 6, 7, 8, 9, 10] _ (by kernel_rfl) (List.Sublist.refl _) ?_ | refine GC_drawB (id := 4) [] [1, 2, 3, 5] [0, 4, 6, 7, 8, 9, 10] _ (by kernel_rfl) (List.Sublist.refl _) ?_ | ((first | apply GD_at | apply GL_at | apply GD_no | apply GL_no); exact rfl) | apply DFin_0 | (apply q1_; exact z_) | (apply q0_; exact z_) | (apply q2_; exact z_))
        refine JO_append (xs := [] ++ k.beat.smps) (ys := [t]) [_, _, _, _, _] rfl rfl rfl ho1 (List.Perm.refl _) (fun w hw => hw.slOwn mem_ rfl) rfl (by simp; omega) ?_
        intro v2 s2 ho2
        have j2 := ho2.v1
        repeat' (first | apply s_ | ((first | apply JO_ob | apply GD_ex | apply GL_ex); exact rfl; first | exact ob1) | ((first | apply b_ | apply a_ | apply i_); exact z_; intro _) | ((first | apply p_ | apply JO_yes | apply GC_t); exact z_) | (apply n_; exact z_) | (apply GC_f; exact z_) | (apply GX_block_on; exact z_) | refine GC_drawB (id := 3) [] [1, 2, 3, 5] [0, 4, 6, 7, 8, 9, 10] _ (by kernel_rfl) (List.Sublist.refl _) ?_ | refine GC_drawB (id := 4) [] [1, 2, 3, 5] [0, 4, 6, 7, 8, 9, 10] _ (by kernel_rfl) (List.Sublist.refl _) ?_ | ((first | apply GD_at | apply GL_at | apply GD_no | apply GL_no); exact rfl) | apply DFin_0 | (apply q1_; exact z_) | (apply q0_; exact z_) | (apply q2_; exact z_))
        refine GX_freeze (A := [_, _, _, _, _]) ho2 (by decide) ?_
        intro G2 w2 hV hG2
        refine GX_loopw fun w5 hw5 => ?_
        have hv := hw5.toA (.head _) hV
        have u1 := hw5.toA (.tail _ (.head _)) h.yard.fields
        have u2 := hw5.toAn (.tail _ (.head _)) h.yard.vats
        have u3 := hw5.toA (.tail _ (.head _)) h.yard.smps
        have u4 := hw5.toA (.tail _ (.head _)) h.beat.vats
        have u5 := hw5.toA (.tail _ (.head _)) h.beat.smps
        have u6 := hw5.toA (.tail _ (.head _)) h.ends
        exact ⟨(c, v2, OffA _, w5), ⟨rfl, rfl, trivial⟩, Nat.zero_lt_one, ⟨⟨u1, u2, u3⟩, ⟨u4, hv⟩, u6⟩, hw5.offA.cut⟩
  rintro ⟨c', e', G', w'⟩ hkx'
  simp only at hkx' ⊢
  have i7 := hkx'.yard.smps.v1
  have i8 := hkx'.beat.smps.v1
  cases hr : readyW k
  · repeat' (first | apply s_ | ((first | apply JO_ob | apply GD_ex | apply GL_ex); exact rfl; first | exact ob1 | exact Ob_call rfl (fun w5 hw5 => c48F (hw5.wk mm_ h) hr) | exact Ob_call rfl (fun w5 _ => c21 w5)) | ((first | apply b_ | apply a_ | apply i_); exact z_; intro _) | ((first | apply p_ | apply JO_yes | apply GC_t); exact z_) | (apply n_; exact z_) | (apply GC_f; exact z_) | (apply GX_block_on; exact z_) | refine GC_drawB (id := 3) [] [1, 2, 3, 5] [0, 4, 6, 7, 8, 9, 10] _ (by kernel_rfl) (List.Sublist.refl _) ?_ | refine GC_drawB (id := 4) [] [1, 2, 3, 5] [0, 4, 6, 7, 8, 9, 10] _ (by kernel_rfl) (List.Sublist.refl _) ?_ | ((first | apply GD_at | apply GL_at | apply GD_no | apply GL_no); exact rfl) | apply DFin_0 | (apply q1_; exact z_) | (apply q0_; exact z_) | (apply q2_; exact z_))
    exact GX_ex rfl rfl mem_ rfl
  cases hr2 : readyW kx
  · repeat' (first | apply s_ | ((first | apply JO_ob | apply GD_ex | apply GL_ex); exact rfl; first | exact ob1 | exact Ob_call rfl (fun w5 hw5 => c48T (hw5.wk mm_ h) hr) | exact Ob_call rfl (fun w5 hw5 => c48F (upk hw5 mm_ hkx') hr2) | exact Ob_call rfl (fun w5 _ => c21 w5)) | ((first | apply b_ | apply a_ | apply i_); exact z_; intro _) | ((first | apply p_ | apply JO_yes | apply GC_t); exact z_) | (apply n_; exact z_) | (apply GC_f; exact z_) | (apply GX_block_on; exact z_) | refine GC_drawB (id := 3) [] [1, 2, 3, 5] [0, 4, 6, 7, 8, 9, 10] _ (by kernel_rfl) (List.Sublist.refl _) ?_ | refine GC_drawB (id := 4) [] [1, 2, 3, 5] [0, 4, 6, 7, 8, 9, 10] _ (by kernel_rfl) (List.Sublist.refl _) ?_ | ((first | apply GD_at | apply GL_at | apply GD_no | apply GL_no); exact rfl) | apply DFin_0 | (apply q1_; exact z_) | (apply q0_; exact z_) | (apply q2_; exact z_))
    exact GX_ex rfl rfl mem_ rfl
  obtain ⟨ht, hf⟩ := ready_iff.1 hr
  obtain ⟨ht2, hf2⟩ := ready_iff.1 hr2
  have hK := okK_of hf
  have hK2 := okK_of hf2
  have hkn : Known k kx := by
    rcases hkx with ⟨_, rfl⟩ | ⟨_, rfl⟩
    · exact known_Y hK hK2
    · exact known_B hK hK2
  clear hkx
  have v3 := hK.v3
  have v32 := hK2.v3
  apply GC_seq
  refine GC_mid (α := Unit) (fun s => [(9, pt p9), (4, pt p4)]) (fun s => [(G', w'), ((fun _ => True), w)]) (fun s => [(p9, .cells (wkC a b c' d e' f kx).toArray 35), (p4, .cells (wkC a b c d e f k).toArray 35)]) (fun s => True) ?_ ?_
  · repeat' (first | apply s_ | ((first | apply JO_ob | apply GD_ex | apply GL_ex); exact rfl; first | exact ob1 | exact Ob_call rfl (fun w5 hw5 => c48T (hw5.wk mm_ h) hr) | exact Ob_call rfl (fun w5 hw5 => c48T (upk hw5 mm_ hkx') hr2)) | ((first | apply b_ | apply a_ | apply i_); exact z_; intro _) | ((first | apply p_ | apply JO_yes | apply GC_t); exact z_) | (apply n_; exact z_) | (apply GC_f; exact z_) | (apply GX_block_on; exact z_) | refine GC_drawB (id := 3) [] [1, 2, 3, 5] [0, 4, 6, 7, 8, 9, 10] _ (by kernel_rfl) (List.Sublist.refl _) ?_ | refine GC_drawB (id := 4) [] [1, 2, 3, 5] [0, 4, 6, 7, 8, 9, 10] _ (by kernel_rfl) (List.Sublist.refl _) ?_ | ((first | apply GD_at | apply GL_at | apply GD_no | apply GL_no); exact rfl) | apply DFin_0 | (apply q1_; exact z_) | (apply q0_; exact z_) | (apply q2_; exact z_))
    all_goals exact GX_loop () ⟨rfl, rfl, trivial⟩ Nat.zero_lt_one trivial (fun w hw => hw.cut)
  intro _ _
  try simp only
  apply GC_seq
  refine GC_mid (α := VG) (fun s => [(10, s.1), (11, .int .i64 0), (9, pt p9), (4, pt p4)]) (fun s => [(s.2.1, s.2.2), (G', w'), ((fun _ => True), w)]) (fun s => [(p9, .cells (wkC a b c' d e' f kx).toArray 35), (p4, .cells (wkC a b c d e f k).toArray 35)]) (fun s => Arr s.2.1 s.2.2 2 encR s.1 (mudsV k fun m => m)) ?_ ?_
  · repeat' (first | apply s_ | ((first | apply JO_ob | apply GD_ex | apply GL_ex); exact rfl; first | exact ob1) | ((first | apply b_ | apply a_ | apply i_); exact z_; intro _) | ((first | apply p_ | apply JO_yes | apply GC_t); exact z_) | (apply n_; exact z_) | (apply GC_f; exact z_) | (apply GX_block_on; exact z_) | refine GC_drawB (id := 3) [] [1, 2, 3, 5] [0, 4, 6, 7, 8, 9, 10] _ (by kernel_rfl) (List.Sublist.refl _) ?_ | refine GC_drawB (id := 4) [] [1, 2, 3, 5] [0, 4, 6, 7, 8, 9, 10] _ (by kernel_rfl) (List.Sublist.refl _) ?_ | ((first | apply GD_at | apply GL_at | apply GD_no | apply GL_no); exact rfl) | apply DFin_0 | (apply q1_; exact z_) | (apply q0_; exact z_) | (apply q2_; exact z_))
    refine JO_call (S := TwoW (k)) rfl rfl (fun w5 hw5 => c23W ((hw5.wk mm_ h)) ht) ?_
    rintro _ uc9 ud9 hc9 hd9 hl9 ⟨a0, b0, c0, hs0, d0, e0, f0, rfl, hW0⟩
    have iw01 := hW0.yard.fields.v1
    have iw02 := hW0.yard.vats.arr.v1
    have iw03 := hW0.yard.smps.v1
    have iw04 := hW0.beat.vats.v1
    have iw05 := hW0.beat.smps.v1
    have iw06 := hW0.ends.v1
    repeat' (first | apply s_ | ((first | apply JO_ob | apply GD_ex | apply GL_ex); exact rfl; first | exact ob1) | ((first | apply b_ | apply a_ | apply i_); exact z_; intro _) | ((first | apply p_ | apply JO_yes | apply GC_t); exact z_) | (apply n_; exact z_) | (apply GC_f; exact z_) | (apply GX_block_on; exact z_) | refine GC_drawB (id := 3) [] [1, 2, 3, 5] [0, 4, 6, 7, 8, 9, 10] _ (by kernel_rfl) (List.Sublist.refl _) ?_ | refine GC_drawB (id := 4) [] [1, 2, 3, 5] [0, 4, 6, 7, 8, 9, 10] _ (by kernel_rfl) (List.Sublist.refl _) ?_ | ((first | apply GD_at | apply GL_at | apply GD_no | apply GL_no); exact rfl) | apply DFin_0 | (apply q1_; exact z_) | (apply q0_; exact z_) | (apply q2_; exact z_))
    refine JO_call (S := RgsW (mudsV k fun m => m)) rfl rfl (fun w5 hw5 => c22F (upk hw5 (.head _) hW0) hf) ?_
    rintro _ uc0 ud0 hc0 hd0 hl0 ⟨r0, rfl, hr0⟩
    have ir0 := hr0.v1
    have br0 := hr0.bound
    repeat' (first | apply s_ | ((first | apply JO_ob | apply GD_ex | apply GL_ex); exact rfl; first | exact ob1) | ((first | apply b_ | apply a_ | apply i_); exact z_; intro _) | ((first | apply p_ | apply JO_yes | apply GC_t); exact z_) | (apply n_; exact z_) | (apply GC_f; exact z_) | (apply GX_block_on; exact z_) | refine GC_drawB (id := 3) [] [1, 2, 3, 5] [0, 4, 6, 7, 8, 9, 10] _ (by kernel_rfl) (List.Sublist.refl _) ?_ | refine GC_drawB (id := 4) [] [1, 2, 3, 5] [0, 4, 6, 7, 8, 9, 10] _ (by kernel_rfl) (List.Sublist.refl _) ?_ | ((first | apply GD_at | apply GL_at | apply GD_no | apply GL_no); exact rfl) | apply DFin_0 | (apply q1_; exact z_) | (apply q0_; exact z_) | (apply q2_; exact z_))
    all_goals exact GX_loop (r0, (fun b => uc0.heap.size ≤ b), ud0) ⟨rfl, rfl, rfl, rfl, trivial⟩ Nat.zero_lt_one hr0 (fun w hw => hw.cut)
  rintro ⟨ra, Ga, wa⟩ hra
  simp only at hra ⊢
  have ira := hra.v1
  have bra := hra.bound
  apply GC_seq
  refine GC_mid (α := VG) (fun s => [(12, s.1), (13, .int .i64 0), (10, ra), (11, .int .i64 0), (9, pt p9), (4, pt p4)]) (fun s => [(s.2.1, s.2.2), (Ga, wa), (G', w'), ((fun _ => True), w)]) (fun s => [(p9, .cells (wkC a b c' d e' f kx).toArray 35), (p4, .cells (wkC a b c d e f k).toArray 35)]) (fun s => Arr s.2.1 s.2.2 2 encR s.1 (mudsV kx fun m => m)) ?_ ?_
  · repeat' (first | apply s_ | ((first | apply JO_ob | apply GD_ex | apply GL_ex); exact rfl; first | exact ob1) | ((first | apply b_ | apply a_ | apply i_); exact z_; intro _) | ((first | apply p_ | apply JO_yes | apply GC_t); exact z_) | (apply n_; exact z_) | (apply GC_f; exact z_) | (apply GX_block_on; exact z_) | refine GC_drawB (id := 3) [] [1, 2, 3, 5] [0, 4, 6, 7, 8, 9, 10] _ (by kernel_rfl) (List.Sublist.refl _) ?_ | refine GC_drawB (id := 4) [] [1, 2, 3, 5] [0, 4, 6, 7, 8, 9, 10] _ (by kernel_rfl) (List.Sublist.refl _) ?_ | ((first | apply GD_at | apply GL_at | apply GD_no | apply GL_no); exact rfl) | apply DFin_0 | (apply q1_; exact z_) | (apply q0_; exact z_) | (apply q2_; exact z_))
    refine JO_call (S := TwoW (kx)) rfl rfl (fun w5 hw5 => c23W ((upk hw5 mm_ hkx')) ht2) ?_
    rintro _ uc9 ud9 hc9 hd9 hl9 ⟨a0, b0, c0, hs0, d0, e0, f0, rfl, hW0⟩
    have iw01 := hW0.yard.fields.v1
    have iw02 := hW0.yard.vats.arr.v1
    have iw03 := hW0.yard.smps.v1
    have iw04 := hW0.beat.vats.v1
    have iw05 := hW0.beat.smps.v1
    have iw06 := hW0.ends.v1
    repeat' (first | apply s_ | ((first | apply JO_ob | apply GD_ex | apply GL_ex); exact rfl; first | exact ob1) | ((first | apply b_ | apply a_ | apply i_); exact z_; intro _) | ((first | apply p_ | apply JO_yes | apply GC_t); exact z_) | (apply n_; exact z_) | (apply GC_f; exact z_) | (apply GX_block_on; exact z_) | refine GC_drawB (id := 3) [] [1, 2, 3, 5] [0, 4, 6, 7, 8, 9, 10] _ (by kernel_rfl) (List.Sublist.refl _) ?_ | refine GC_drawB (id := 4) [] [1, 2, 3, 5] [0, 4, 6, 7, 8, 9, 10] _ (by kernel_rfl) (List.Sublist.refl _) ?_ | ((first | apply GD_at | apply GL_at | apply GD_no | apply GL_no); exact rfl) | apply DFin_0 | (apply q1_; exact z_) | (apply q0_; exact z_) | (apply q2_; exact z_))
    refine JO_call (S := RgsW (mudsV kx fun m => m)) rfl rfl (fun w5 hw5 => c22F (upk hw5 (.head _) hW0) hf2) ?_
    rintro _ uc0 ud0 hc0 hd0 hl0 ⟨r0, rfl, hr0⟩
    have ir0 := hr0.v1
    have br0 := hr0.bound
    repeat' (first | apply s_ | ((first | apply JO_ob | apply GD_ex | apply GL_ex); exact rfl; first | exact ob1) | ((first | apply b_ | apply a_ | apply i_); exact z_; intro _) | ((first | apply p_ | apply JO_yes | apply GC_t); exact z_) | (apply n_; exact z_) | (apply GC_f; exact z_) | (apply GX_block_on; exact z_) | refine GC_drawB (id := 3) [] [1, 2, 3, 5] [0, 4, 6, 7, 8, 9, 10] _ (by kernel_rfl) (List.Sublist.refl _) ?_ | refine GC_drawB (id := 4) [] [1, 2, 3, 5] [0, 4, 6, 7, 8, 9, 10] _ (by kernel_rfl) (List.Sublist.refl _) ?_ | ((first | apply GD_at | apply GL_at | apply GD_no | apply GL_no); exact rfl) | apply DFin_0 | (apply q1_; exact z_) | (apply q0_; exact z_) | (apply q2_; exact z_))
    all_goals exact GX_loop (r0, (fun b => uc0.heap.size ≤ b), ud0) ⟨rfl, rfl, rfl, rfl, rfl, rfl, trivial⟩ Nat.zero_lt_one hr0 (fun w hw => hw.cut)
  rintro ⟨rb, Gb, wb⟩ hrb
  simp only at hrb ⊢
  have irb := hrb.v1
  have brb := hrb.bound
  apply GC_seq
  refine GC_mid (α := VG) (fun s => [(14, s.1), (15, .int .i64 0), (12, rb), (13, .int .i64 0), (10, ra), (11, .int .i64 0), (9, pt p9), (4, pt p4)]) (fun s => [(s.2.1, s.2.2), (Gb, wb), (Ga, wa), (G', w'), ((fun _ => True), w)]) (fun s => [(p9, .cells (wkC a b c' d e' f kx).toArray 35), (p4, .cells (wkC a b c d e f k).toArray 35)]) (fun s => Arr s.2.1 s.2.2 2 encR s.1 (mudsV k fun m => (hoursR k.force m : Int))) ?_ ?_
  · repeat' (first | apply s_ | ((first | apply JO_ob | apply GD_ex | apply GL_ex); exact rfl; first | exact ob1) | ((first | apply b_ | apply a_ | apply i_); exact z_; intro _) | ((first | apply p_ | apply JO_yes | apply GC_t); exact z_) | (apply n_; exact z_) | (apply GC_f; exact z_) | (apply GX_block_on; exact z_) | refine GC_drawB (id := 3) [] [1, 2, 3, 5] [0, 4, 6, 7, 8, 9, 10] _ (by kernel_rfl) (List.Sublist.refl _) ?_ | refine GC_drawB (id := 4) [] [1, 2, 3, 5] [0, 4, 6, 7, 8, 9, 10] _ (by kernel_rfl) (List.Sublist.refl _) ?_ | ((first | apply GD_at | apply GL_at | apply GD_no | apply GL_no); exact rfl) | apply DFin_0 | (apply q1_; exact z_) | (apply q0_; exact z_) | (apply q2_; exact z_))
    refine JO_call (S := TwoW (k)) rfl rfl (fun w5 hw5 => c23W ((hw5.wk mm_ h)) ht) ?_
    rintro _ uc9 ud9 hc9 hd9 hl9 ⟨a0, b0, c0, hs0, d0, e0, f0, rfl, hW0⟩
    have iw01 := hW0.yard.fields.v1
    have iw02 := hW0.yard.vats.arr.v1
    have iw03 := hW0.yard.smps.v1
    have iw04 := hW0.beat.vats.v1
    have iw05 := hW0.beat.smps.v1
    have iw06 := hW0.ends.v1
    repeat' (first | apply s_ | ((first | apply JO_ob | apply GD_ex | apply GL_ex); exact rfl; first | exact ob1) | ((first | apply b_ | apply a_ | apply i_); exact z_; intro _) | ((first | apply p_ | apply JO_yes | apply GC_t); exact z_) | (apply n_; exact z_) | (apply GC_f; exact z_) | (apply GX_block_on; exact z_) | refine GC_drawB (id := 3) [] [1, 2, 3, 5] [0, 4, 6, 7, 8, 9, 10] _ (by kernel_rfl) (List.Sublist.refl _) ?_ | refine GC_drawB (id := 4) [] [1, 2, 3, 5] [0, 4, 6, 7, 8, 9, 10] _ (by kernel_rfl) (List.Sublist.refl _) ?_ | ((first | apply GD_at | apply GL_at | apply GD_no | apply GL_no); exact rfl) | apply DFin_0 | (apply q1_; exact z_) | (apply q0_; exact z_) | (apply q2_; exact z_))
    refine JO_call (S := RgsW (mudsV k fun m => (hoursR k.force m : Int))) rfl rfl (fun w5 hw5 => c29F (upk hw5 (.head _) hW0) hf) ?_
    rintro _ uc0 ud0 hc0 hd0 hl0 ⟨r0, rfl, hr0⟩
    have ir0 := hr0.v1
    have br0 := hr0.bound
    repeat' (first | apply s_ | ((first | apply JO_ob | apply GD_ex | apply GL_ex); exact rfl; first | exact ob1) | ((first | apply b_ | apply a_ | apply i_); exact z_; intro _) | ((first | apply p_ | apply JO_yes | apply GC_t); exact z_) | (apply n_; exact z_) | (apply GC_f; exact z_) | (apply GX_block_on; exact z_) | refine GC_drawB (id := 3) [] [1, 2, 3, 5] [0, 4, 6, 7, 8, 9, 10] _ (by kernel_rfl) (List.Sublist.refl _) ?_ | refine GC_drawB (id := 4) [] [1, 2, 3, 5] [0, 4, 6, 7, 8, 9, 10] _ (by kernel_rfl) (List.Sublist.refl _) ?_ | ((first | apply GD_at | apply GL_at | apply GD_no | apply GL_no); exact rfl) | apply DFin_0 | (apply q1_; exact z_) | (apply q0_; exact z_) | (apply q2_; exact z_))
    all_goals exact GX_loop (r0, (fun b => uc0.heap.size ≤ b), ud0) ⟨rfl, rfl, rfl, rfl, rfl, rfl, rfl, rfl, trivial⟩ Nat.zero_lt_one hr0 (fun w hw => hw.cut)
  rintro ⟨rc, Gc, wc⟩ hrc
  simp only at hrc ⊢
  have irc := hrc.v1
  have brc := hrc.bound
  apply GC_seq
  refine GC_mid (α := VG) (fun s => [(16, s.1), (17, .int .i64 0), (14, rc), (15, .int .i64 0), (12, rb), (13, .int .i64 0), (10, ra), (11, .int .i64 0), (9, pt p9), (4, pt p4)]) (fun s => [(s.2.1, s.2.2), (Gc, wc), (Gb, wb), (Ga, wa), (G', w'), ((fun _ => True), w)]) (fun s => [(p9, .cells (wkC a b c' d e' f kx).toArray 35), (p4, .cells (wkC a b c d e f k).toArray 35)]) (fun s => Arr s.2.1 s.2.2 2 encR s.1 (mudsV kx fun m => (hoursR kx.force m : Int))) ?_ ?_
  · repeat' (first | apply s_ | ((first | apply JO_ob | apply GD_ex | apply GL_ex); exact rfl; first | exact ob1) | ((first | apply b_ | apply a_ | apply i_); exact z_; intro _) | ((first | apply p_ | apply JO_yes | apply GC_t); exact z_) | (apply n_; exact z_) | (apply GC_f; exact z_) | (apply GX_block_on; exact z_) | refine GC_drawB (id := 3) [] [1, 2, 3, 5] [0, 4, 6, 7, 8, 9, 10] _ (by kernel_rfl) (List.Sublist.refl _) ?_ | refine GC_drawB (id := 4) [] [1, 2, 3, 5] [0, 4, 6, 7, 8, 9, 10] _ (by kernel_rfl) (List.Sublist.refl _) ?_ | ((first | apply GD_at | apply GL_at | apply GD_no | apply GL_no); exact rfl) | apply DFin_0 | (apply q1_; exact z_) | (apply q0_; exact z_) | (apply q2_; exact z_))
    refine JO_call (S := TwoW (kx)) rfl rfl (fun w5 hw5 => c23W ((upk hw5 mm_ hkx')) ht2) ?_
    rintro _ uc9 ud9 hc9 hd9 hl9 ⟨a0, b0, c0, hs0, d0, e0, f0, rfl, hW0⟩
    have iw01 := hW0.yard.fields.v1
    have iw02 := hW0.yard.vats.arr.v1
    have iw03 := hW0.yard.smps.v1
    have iw04 := hW0.beat.vats.v1
    have iw05 := hW0.beat.smps.v1
    have iw06 := hW0.ends.v1
    repeat' (first | apply s_ | ((first | apply JO_ob | apply GD_ex | apply GL_ex); exact rfl; first | exact ob1) | ((first | apply b_ | apply a_ | apply i_); exact z_; intro _) | ((first | apply p_ | apply JO_yes | apply GC_t); exact z_) | (apply n_; exact z_) | (apply GC_f; exact z_) | (apply GX_block_on; exact z_) | refine GC_drawB (id := 3) [] [1, 2, 3, 5] [0, 4, 6, 7, 8, 9, 10] _ (by kernel_rfl) (List.Sublist.refl _) ?_ | refine GC_drawB (id := 4) [] [1, 2, 3, 5] [0, 4, 6, 7, 8, 9, 10] _ (by kernel_rfl) (List.Sublist.refl _) ?_ | ((first | apply GD_at | apply GL_at | apply GD_no | apply GL_no); exact rfl) | apply DFin_0 | (apply q1_; exact z_) | (apply q0_; exact z_) | (apply q2_; exact z_))
    refine JO_call (S := RgsW (mudsV kx fun m => (hoursR kx.force m : Int))) rfl rfl (fun w5 hw5 => c29F (upk hw5 (.head _) hW0) hf2) ?_
    rintro _ uc0 ud0 hc0 hd0 hl0 ⟨r0, rfl, hr0⟩
    have ir0 := hr0.v1
    have br0 := hr0.bound
    repeat' (first | apply s_ | ((first | apply JO_ob | apply GD_ex | apply GL_ex); exact rfl; first | exact ob1) | ((first | apply b_ | apply a_ | apply i_); exact z_; intro _) | ((first | apply p_ | apply JO_yes | apply GC_t); exact z_) | (apply n_; exact z_) | (apply GC_f; exact z_) | (apply GX_block_on; exact z_) | refine GC_drawB (id := 3) [] [1, 2, 3, 5] [0, 4, 6, 7, 8, 9, 10] _ (by kernel_rfl) (List.Sublist.refl _) ?_ | refine GC_drawB (id := 4) [] [1, 2, 3, 5] [0, 4, 6, 7, 8, 9, 10] _ (by kernel_rfl) (List.Sublist.refl _) ?_ | ((first | apply GD_at | apply GL_at | apply GD_no | apply GL_no); exact rfl) | apply DFin_0 | (apply q1_; exact z_) | (apply q0_; exact z_) | (apply q2_; exact z_))
    all_goals exact GX_loop (r0, (fun b => uc0.heap.size ≤ b), ud0) ⟨rfl, rfl, rfl, rfl, rfl, rfl, rfl, rfl, rfl, rfl, trivial⟩ Nat.zero_lt_one hr0 (fun w hw => hw.cut)
  rintro ⟨rd, Gd, wd⟩ hrd
  simp only at hrd ⊢
  have ird := hrd.v1
  have brd := hrd.bound
  apply GC_seq
  refine GC_mid (α := VG) (fun s => [(18, s.1), (19, .int .i64 0), (16, rd), (17, .int .i64 0), (14, rc), (15, .int .i64 0), (12, rb), (13, .int .i64 0), (10, ra), (11, .int .i64 0), (9, pt p9), (4, pt p4)]) (fun s => [(s.2.1, s.2.2), (Gd, wd), (Gc, wc), (Gb, wb), (Ga, wa), (G', w'), ((fun _ => True), w)]) (fun s => [(p9, .cells (wkC a b c' d e' f kx).toArray 35), (p4, .cells (wkC a b c d e f k).toArray 35)]) (fun s => Arr s.2.1 s.2.2 2 encR s.1 (mudsV k fun m => m / k.cake)) ?_ ?_
  · repeat' (first | apply s_ | ((first | apply JO_ob | apply GD_ex | apply GL_ex); exact rfl; first | exact ob1) | ((first | apply b_ | apply a_ | apply i_); exact z_; intro _) | ((first | apply p_ | apply JO_yes | apply GC_t); exact z_) | (apply n_; exact z_) | (apply GC_f; exact z_) | (apply GX_block_on; exact z_) | refine GC_drawB (id := 3) [] [1, 2, 3, 5] [0, 4, 6, 7, 8, 9, 10] _ (by kernel_rfl) (List.Sublist.refl _) ?_ | refine GC_drawB (id := 4) [] [1, 2, 3, 5] [0, 4, 6, 7, 8, 9, 10] _ (by kernel_rfl) (List.Sublist.refl _) ?_ | ((first | apply GD_at | apply GL_at | apply GD_no | apply GL_no); exact rfl) | apply DFin_0 | (apply q1_; exact z_) | (apply q0_; exact z_) | (apply q2_; exact z_))
    refine JO_call (S := TwoW (k)) rfl rfl (fun w5 hw5 => c23W ((hw5.wk mm_ h)) ht) ?_
    rintro _ uc9 ud9 hc9 hd9 hl9 ⟨a0, b0, c0, hs0, d0, e0, f0, rfl, hW0⟩
    have iw01 := hW0.yard.fields.v1
    have iw02 := hW0.yard.vats.arr.v1
    have iw03 := hW0.yard.smps.v1
    have iw04 := hW0.beat.vats.v1
    have iw05 := hW0.beat.smps.v1
    have iw06 := hW0.ends.v1
    repeat' (first | apply s_ | ((first | apply JO_ob | apply GD_ex | apply GL_ex); exact rfl; first | exact ob1) | ((first | apply b_ | apply a_ | apply i_); exact z_; intro _) | ((first | apply p_ | apply JO_yes | apply GC_t); exact z_) | (apply n_; exact z_) | (apply GC_f; exact z_) | (apply GX_block_on; exact z_) | refine GC_drawB (id := 3) [] [1, 2, 3, 5] [0, 4, 6, 7, 8, 9, 10] _ (by kernel_rfl) (List.Sublist.refl _) ?_ | refine GC_drawB (id := 4) [] [1, 2, 3, 5] [0, 4, 6, 7, 8, 9, 10] _ (by kernel_rfl) (List.Sublist.refl _) ?_ | ((first | apply GD_at | apply GL_at | apply GD_no | apply GL_no); exact rfl) | apply DFin_0 | (apply q1_; exact z_) | (apply q0_; exact z_) | (apply q2_; exact z_))
    refine JO_call (S := RgsW (mudsV k fun m => m / k.cake)) rfl rfl (fun w5 hw5 => c30F (upk hw5 (.head _) hW0) hf) ?_
    rintro _ uc0 ud0 hc0 hd0 hl0 ⟨r0, rfl, hr0⟩
    have ir0 := hr0.v1
    have br0 := hr0.bound
    repeat' (first | apply s_ | ((first | apply JO_ob | apply GD_ex | apply GL_ex); exact rfl; first | exact ob1) | ((first | apply b_ | apply a_ | apply i_); exact z_; intro _) | ((first | apply p_ | apply JO_yes | apply GC_t); exact z_) | (apply n_; exact z_) | (apply GC_f; exact z_) | (apply GX_block_on; exact z_) | refine GC_drawB (id := 3) [] [1, 2, 3, 5] [0, 4, 6, 7, 8, 9, 10] _ (by kernel_rfl) (List.Sublist.refl _) ?_ | refine GC_drawB (id := 4) [] [1, 2, 3, 5] [0, 4, 6, 7, 8, 9, 10] _ (by kernel_rfl) (List.Sublist.refl _) ?_ | ((first | apply GD_at | apply GL_at | apply GD_no | apply GL_no); exact rfl) | apply DFin_0 | (apply q1_; exact z_) | (apply q0_; exact z_) | (apply q2_; exact z_))
    all_goals exact GX_loop (r0, (fun b => uc0.heap.size ≤ b), ud0) ⟨rfl, rfl, rfl, rfl, rfl, rfl, rfl, rfl, rfl, rfl, rfl, rfl, trivial⟩ Nat.zero_lt_one hr0 (fun w hw => hw.cut)
  rintro ⟨rp, Gp, wp⟩ hrp
  simp only at hrp ⊢
  have irp := hrp.v1
  have brp := hrp.bound
  apply GC_seq
  refine GC_mid (α := VG) (fun s => [(20, s.1), (21, .int .i64 0), (18, rp), (19, .int .i64 0), (16, rd), (17, .int .i64 0), (14, rc), (15, .int .i64 0), (12, rb), (13, .int .i64 0), (10, ra), (11, .int .i64 0), (9, pt p9), (4, pt p4)]) (fun s => [(s.2.1, s.2.2), (Gp, wp), (Gd, wd), (Gc, wc), (Gb, wb), (Ga, wa), (G', w'), ((fun _ => True), w)]) (fun s => [(p9, .cells (wkC a b c' d e' f kx).toArray 35), (p4, .cells (wkC a b c d e f k).toArray 35)]) (fun s => Arr s.2.1 s.2.2 2 encR s.1 (mudsV kx fun m => m / kx.cake)) ?_ ?_
  · repeat' (first | apply s_ | ((first | apply JO_ob | apply GD_ex | apply GL_ex); exact rfl; first | exact ob1) | ((first | apply b_ | apply a_ | apply i_); exact z_; intro _) | ((first | apply p_ | apply JO_yes | apply GC_t); exact z_) | (apply n_; exact z_) | (apply GC_f; exact z_) | (apply GX_block_on; exact z_) | refine GC_drawB (id := 3) [] [1, 2, 3, 5] [0, 4, 6, 7, 8, 9, 10] _ (by kernel_rfl) (List.Sublist.refl _) ?_ | refine GC_drawB (id := 4) [] [1, 2, 3, 5] [0, 4, 6, 7, 8, 9, 10] _ (by kernel_rfl) (List.Sublist.refl _) ?_ | ((first | apply GD_at | apply GL_at | apply GD_no | apply GL_no); exact rfl) | apply DFin_0 | (apply q1_; exact z_) | (apply q0_; exact z_) | (apply q2_; exact z_))
    refine JO_call (S := TwoW (kx)) rfl rfl (fun w5 hw5 => c23W ((upk hw5 mm_ hkx')) ht2) ?_
    rintro _ uc9 ud9 hc9 hd9 hl9 ⟨a0, b0, c0, hs0, d0, e0, f0, rfl, hW0⟩
    have iw01 := hW0.yard.fields.v1
    have iw02 := hW0.yard.vats.arr.v1
    have iw03 := hW0.yard.smps.v1
    have iw04 := hW0.beat.vats.v1
    have iw05 := hW0.beat.smps.v1
    have iw06 := hW0.ends.v1
    repeat' (first | apply s_ | ((first | apply JO_ob | apply GD_ex | apply GL_ex); exact rfl; first | exact ob1) | ((first | apply b_ | apply a_ | apply i_); exact z_; intro _) | ((first | apply p_ | apply JO_yes | apply GC_t); exact z_) | (apply n_; exact z_) | (apply GC_f; exact z_) | (apply GX_block_on; exact z_) | refine GC_drawB (id := 3) [] [1, 2, 3, 5] [0, 4, 6, 7, 8, 9, 10] _ (by kernel_rfl) (List.Sublist.refl _) ?_ | refine GC_drawB (id := 4) [] [1, 2, 3, 5] [0, 4, 6, 7, 8, 9, 10] _ (by kernel_rfl) (List.Sublist.refl _) ?_ | ((first | apply GD_at | apply GL_at | apply GD_no | apply GL_no); exact rfl) | apply DFin_0 | (apply q1_; exact z_) | (apply q0_; exact z_) | (apply q2_; exact z_))
    refine JO_call (S := RgsW (mudsV kx fun m => m / kx.cake)) rfl rfl (fun w5 hw5 => c30F (upk hw5 (.head _) hW0) hf2) ?_
    rintro _ uc0 ud0 hc0 hd0 hl0 ⟨r0, rfl, hr0⟩
    have ir0 := hr0.v1
    have br0 := hr0.bound
    repeat' (first | apply s_ | ((first | apply JO_ob | apply GD_ex | apply GL_ex); exact rfl; first | exact ob1) | ((first | apply b_ | apply a_ | apply i_); exact z_; intro _) | ((first | apply p_ | apply JO_yes | apply GC_t); exact z_) | (apply n_; exact z_) | (apply GC_f; exact z_) | (apply GX_block_on; exact z_) | refine GC_drawB (id := 3) [] [1, 2, 3, 5] [0, 4, 6, 7, 8, 9, 10] _ (by kernel_rfl) (List.Sublist.refl _) ?_ | refine GC_drawB (id := 4) [] [1, 2, 3, 5] [0, 4, 6, 7, 8, 9, 10] _ (by kernel_rfl) (List.Sublist.refl _) ?_ | ((first | apply GD_at | apply GL_at | apply GD_no | apply GL_no); exact rfl) | apply DFin_0 | (apply q1_; exact z_) | (apply q0_; exact z_) | (apply q2_; exact z_))
    all_goals exact GX_loop (r0, (fun b => uc0.heap.size ≤ b), ud0) ⟨rfl, rfl, rfl, rfl, rfl, rfl, rfl, rfl, rfl, rfl, rfl, rfl, rfl, rfl, trivial⟩ Nat.zero_lt_one hr0 (fun w hw => hw.cut)
  rintro ⟨rq, Gq, wq⟩ hrq
  simp only at hrq ⊢
  have irq := hrq.v1
  have brq := hrq.bound
  apply GC_seq
  refine GC_mid (α := Unit) (fun s => [(23, .int .i64 ((bestL k k.boxes).2)), (24, .int .i64 0), (20, rq), (21, .int .i64 0), (18, rp), (19, .int .i64 0), (16, rd), (17, .int .i64 0), (14, rc), (15, .int .i64 0), (12, rb), (13, .int .i64 0), (10, ra), (11, .int .i64 0), (9, pt p9), (4, pt p4)]) (fun s => [(Gq, wq), (Gp, wp), (Gd, wd), (Gc, wc), (Gb, wb), (Ga, wa), (G', w'), ((fun _ => True), w)]) (fun s => [(p9, .cells (wkC a b c' d e' f kx).toArray 35), (p4, .cells (wkC a b c d e f k).toArray 35)]) (fun s => True) ?_ ?_
  · repeat' (first | apply s_ | ((first | apply JO_ob | apply GD_ex | apply GL_ex); exact rfl; first | exact ob1) | ((first | apply b_ | apply a_ | apply i_); exact z_; intro _) | ((first | apply p_ | apply JO_yes | apply GC_t); exact z_) | (apply n_; exact z_) | (apply GC_f; exact z_) | (apply GX_block_on; exact z_) | refine GC_drawB (id := 3) [] [1, 2, 3, 5] [0, 4, 6, 7, 8, 9, 10] _ (by kernel_rfl) (List.Sublist.refl _) ?_ | refine GC_drawB (id := 4) [] [1, 2, 3, 5] [0, 4, 6, 7, 8, 9, 10] _ (by kernel_rfl) (List.Sublist.refl _) ?_ | ((first | apply GD_at | apply GL_at | apply GD_no | apply GL_no); exact rfl) | apply DFin_0 | (apply q1_; exact z_) | (apply q0_; exact z_) | (apply q2_; exact z_))
    refine JO_call (S := TwoW (k)) rfl rfl (fun w5 hw5 => c23W ((hw5.wk mm_ h)) ht) ?_
    rintro _ uc9 ud9 hc9 hd9 hl9 ⟨a0, b0, c0, hs0, d0, e0, f0, rfl, hW0⟩
    have iw01 := hW0.yard.fields.v1
    have iw02 := hW0.yard.vats.arr.v1
    have iw03 := hW0.yard.smps.v1
    have iw04 := hW0.beat.vats.v1
    have iw05 := hW0.beat.smps.v1
    have iw06 := hW0.ends.v1
    repeat' (first | apply s_ | ((first | apply JO_ob | apply GD_ex | apply GL_ex); exact rfl; first | exact ob1) | ((first | apply b_ | apply a_ | apply i_); exact z_; intro _) | ((first | apply p_ | apply JO_yes | apply GC_t); exact z_) | (apply n_; exact z_) | (apply GC_f; exact z_) | (apply GX_block_on; exact z_) | refine GC_drawB (id := 3) [] [1, 2, 3, 5] [0, 4, 6, 7, 8, 9, 10] _ (by kernel_rfl) (List.Sublist.refl _) ?_ | refine GC_drawB (id := 4) [] [1, 2, 3, 5] [0, 4, 6, 7, 8, 9, 10] _ (by kernel_rfl) (List.Sublist.refl _) ?_ | ((first | apply GD_at | apply GL_at | apply GD_no | apply GL_no); exact rfl) | apply DFin_0 | (apply q1_; exact z_) | (apply q0_; exact z_) | (apply q2_; exact z_))
    refine JO_call (S := BestW ((bestL k k.boxes).1) ((bestL k k.boxes).2)) rfl rfl (fun w5 hw5 => c54F (upk hw5 (.head _) hW0) hf) ?_
    rintro _ uc0 ud0 hc0 hd0 hl0 ⟨r0, rfl, hr0⟩
    have ir0 := hr0.v1
    repeat' (first | apply s_ | ((first | apply JO_ob | apply GD_ex | apply GL_ex); exact rfl; first | exact ob1) | ((first | apply b_ | apply a_ | apply i_); exact z_; intro _) | ((first | apply p_ | apply JO_yes | apply GC_t); exact z_) | (apply n_; exact z_) | (apply GC_f; exact z_) | (apply GX_block_on; exact z_) | refine GC_drawB (id := 3) [] [1, 2, 3, 5] [0, 4, 6, 7, 8, 9, 10] _ (by kernel_rfl) (List.Sublist.refl _) ?_ | refine GC_drawB (id := 4) [] [1, 2, 3, 5] [0, 4, 6, 7, 8, 9, 10] _ (by kernel_rfl) (List.Sublist.refl _) ?_ | ((first | apply GD_at | apply GL_at | apply GD_no | apply GL_no); exact rfl) | apply DFin_0 | (apply q1_; exact z_) | (apply q0_; exact z_) | (apply q2_; exact z_))
    all_goals exact GX_loop () ⟨rfl, rfl, rfl, rfl, rfl, rfl, rfl, rfl, rfl, rfl, rfl, rfl, rfl, rfl, rfl, rfl, trivial⟩ Nat.zero_lt_one trivial (fun w hw => hw.cut)
  intro _ _
  try simp only
  apply GC_seq
  refine GC_mid (α := Unit) (fun s => [(26, .int .i64 ((bestL kx kx.boxes).2)), (27, .int .i64 0), (23, .int .i64 ((bestL k k.boxes).2)), (24, .int .i64 0), (20, rq), (21, .int .i64 0), (18, rp), (19, .int .i64 0), (16, rd), (17, .int .i64 0), (14, rc), (15, .int .i64 0), (12, rb), (13, .int .i64 0), (10, ra), (11, .int .i64 0), (9, pt p9), (4, pt p4)]) (fun s => [(Gq, wq), (Gp, wp), (Gd, wd), (Gc, wc), (Gb, wb), (Ga, wa), (G', w'), ((fun _ => True), w)]) (fun s => [(p9, .cells (wkC a b c' d e' f kx).toArray 35), (p4, .cells (wkC a b c d e f k).toArray 35)]) (fun s => True) ?_ ?_
  · repeat' (first | apply s_ | ((first | apply JO_ob | apply GD_ex | apply GL_ex); exact rfl; first | exact ob1) | ((first | apply b_ | apply a_ | apply i_); exact z_; intro _) | ((first | apply p_ | apply JO_yes | apply GC_t); exact z_) | (apply n_; exact z_) | (apply GC_f; exact z_) | (apply GX_block_on; exact z_) | refine GC_drawB (id := 3) [] [1, 2, 3, 5] [0, 4, 6, 7, 8, 9, 10] _ (by kernel_rfl) (List.Sublist.refl _) ?_ | refine GC_drawB (id := 4) [] [1, 2, 3, 5] [0, 4, 6, 7, 8, 9, 10] _ (by kernel_rfl) (List.Sublist.refl _) ?_ | ((first | apply GD_at | apply GL_at | apply GD_no | apply GL_no); exact rfl) | apply DFin_0 | (apply q1_; exact z_) | (apply q0_; exact z_) | (apply q2_; exact z_))
    refine JO_call (S := TwoW (kx)) rfl rfl (fun w5 hw5 => c23W ((upk hw5 mm_ hkx')) ht2) ?_
    rintro _ uc9 ud9 hc9 hd9 hl9 ⟨a0, b0, c0, hs0, d0, e0, f0, rfl, hW0⟩
    have iw01 := hW0.yard.fields.v1
    have iw02 := hW0.yard.vats.arr.v1
    have iw03 := hW0.yard.smps.v1
    have iw04 := hW0.beat.vats.v1
    have iw05 := hW0.beat.smps.v1
    have iw06 := hW0.ends.v1
    repeat' (first | apply s_ | ((first | apply JO_ob | apply GD_ex | apply GL_ex); exact rfl; first | exact ob1) | ((first | apply b_ | apply a_ | apply i_); exact z_; intro _) | ((first | apply p_ | apply JO_yes | apply GC_t); exact z_) | (apply n_; exact z_) | (apply GC_f; exact z_) | (apply GX_block_on; exact z_) | refine GC_drawB (id := 3) [] [1, 2, 3, 5] [0, 4, 6, 7, 8, 9, 10] _ (by kernel_rfl) (List.Sublist.refl _) ?_ | refine GC_drawB (id := 4) [] [1, 2, 3, 5] [0, 4, 6, 7, 8, 9, 10] _ (by kernel_rfl) (List.Sublist.refl _) ?_ | ((first | apply GD_at | apply GL_at | apply GD_no | apply GL_no); exact rfl) | apply DFin_0 | (apply q1_; exact z_) | (apply q0_; exact z_) | (apply q2_; exact z_))
    refine JO_call (S := BestW ((bestL kx kx.boxes).1) ((bestL kx kx.boxes).2)) rfl rfl (fun w5 hw5 => c54F (upk hw5 (.head _) hW0) hf2) ?_
    rintro _ uc0 ud0 hc0 hd0 hl0 ⟨r0, rfl, hr0⟩
    have ir0 := hr0.v1
    repeat' (first | apply s_ | ((first | apply JO_ob | apply GD_ex | apply GL_ex); exact rfl; first | exact ob1) | ((first | apply b_ | apply a_ | apply i_); exact z_; intro _) | ((first | apply p_ | apply JO_yes | apply GC_t); exact z_) | (apply n_; exact z_) | (apply GC_f; exact z_) | (apply GX_block_on; exact z_) | refine GC_drawB (id := 3) [] [1, 2, 3, 5] [0, 4, 6, 7, 8, 9, 10] _ (by kernel_rfl) (List.Sublist.refl _) ?_ | refine GC_drawB (id := 4) [] [1, 2, 3, 5] [0, 4, 6, 7, 8, 9, 10] _ (by kernel_rfl) (List.Sublist.refl _) ?_ | ((first | apply GD_at | apply GL_at | apply GD_no | apply GL_no); exact rfl) | apply DFin_0 | (apply q1_; exact z_) | (apply q0_; exact z_) | (apply q2_; exact z_))
    all_goals exact GX_loop () ⟨rfl, rfl, rfl, rfl, rfl, rfl, rfl, rfl, rfl, rfl, rfl, rfl, rfl, rfl, rfl, rfl, rfl, rfl, trivial⟩ Nat.zero_lt_one trivial (fun w hw => hw.cut)
  intro _ _
  try simp only
  have hbest : (bestL kx kx.boxes).2 ≤ (bestL k k.boxes).2 := by
    rw [hkn.boxes]
    exact known_best hK hK2 hkn hK.boxes.1
  have ev := hkn.vats
  have la := mudsV_len k fun m => m
  have lb := mudsV_len kx fun m => m
  have lc := mudsV_len k fun m => (hoursR k.force m : Int)
  have ld := mudsV_len kx fun m => (hoursR kx.force m : Int)
  have lp := mudsV_len k fun m => m / k.cake
  have lq := mudsV_len kx fun m => m / kx.cake
  have f1 : ∀ i, i < (mudsV kx fun m => m).length → (nth (mudsV k fun m => m) i).1 ≤ (nth (mudsV kx fun m => m) i).1 ∧ (nth (mudsV kx fun m => m) i).2 ≤ (nth (mudsV k fun m => m) i).2 := fun i hi => known_muds hkn _ (by omega)
  have f2 : ∀ i, i < (mudsV kx fun m => (hoursR kx.force m : Int)).length → (nth (mudsV k fun m => (hoursR k.force m : Int)) i).1 ≤ (nth (mudsV kx fun m => (hoursR kx.force m : Int)) i).1 ∧ (nth (mudsV kx fun m => (hoursR kx.force m : Int)) i).2 ≤ (nth (mudsV k fun m => (hoursR k.force m : Int)) i).2 := fun i hi => by
    rw [hkn.force]
    exact known_muds hkn _ (by omega)
  have f3 : ∀ i, i < (mudsV kx fun m => m / kx.cake).length → (nth (mudsV k fun m => m / k.cake) i).1 ≤ (nth (mudsV kx fun m => m / kx.cake) i).1 ∧ (nth (mudsV kx fun m => m / kx.cake) i).2 ≤ (nth (mudsV k fun m => m / k.cake) i).2 := fun i hi => by
    rw [hkn.cake]
    exact known_muds hkn _ (by omega)
  generalize (mudsV k fun m => m) = A1 at *
  generalize (mudsV kx fun m => m) = A2 at *
  generalize (mudsV k fun m => (hoursR k.force m : Int)) = B1 at *
  generalize (mudsV kx fun m => (hoursR kx.force m : Int)) = B2 at *
  generalize (mudsV k fun m => m / k.cake) = C1 at *
  generalize (mudsV kx fun m => m / kx.cake) = C2 at *
  have l1 : A2.length = A1.length := by omega
  have l2 : B2.length = B1.length := by omega
  have l3 : C2.length = C1.length := by omega
  repeat' (first | apply s_ | ((first | apply JO_ob | apply GD_ex | apply GL_ex); exact rfl; first | exact ob1) | ((first | apply b_ | apply a_ | apply i_); exact z_; intro _) | ((first | apply p_ | apply JO_yes | apply GC_t); exact z_) | (apply n_; exact z_) | (apply GC_f; exact z_) | (apply GX_block_on; exact z_) | refine GC_drawB (id := 3) [] [1, 2, 3, 5] [0, 4, 6, 7, 8, 9, 10] _ (by kernel_rfl) (List.Sublist.refl _) ?_ | refine GC_drawB (id := 4) [] [1, 2, 3, 5] [0, 4, 6, 7, 8, 9, 10] _ (by kernel_rfl) (List.Sublist.refl _) ?_ | ((first | apply GD_at | apply GL_at | apply GD_no | apply GL_no); exact rfl) | apply DFin_0 | (apply q1_; exact z_) | (apply q0_; exact z_) | (apply q2_; exact z_))
  apply JO_ob
  exact rfl
  exact Ob_call (c := .bool true) rfl (fun w5 hw5 => c59T w5 rb ra A2 A1 (up hw5 mm_ hrb) (up hw5 mm_ hra) l1 f1)
  repeat' (first | apply s_ | ((first | apply JO_ob | apply GD_ex | apply GL_ex); exact rfl; first | exact ob1) | ((first | apply b_ | apply a_ | apply i_); exact z_; intro _) | ((first | apply p_ | apply JO_yes | apply GC_t); exact z_) | (apply n_; exact z_) | (apply GC_f; exact z_) | (apply GX_block_on; exact z_) | refine GC_drawB (id := 3) [] [1, 2, 3, 5] [0, 4, 6, 7, 8, 9, 10] _ (by kernel_rfl) (List.Sublist.refl _) ?_ | refine GC_drawB (id := 4) [] [1, 2, 3, 5] [0, 4, 6, 7, 8, 9, 10] _ (by kernel_rfl) (List.Sublist.refl _) ?_ | ((first | apply GD_at | apply GL_at | apply GD_no | apply GL_no); exact rfl) | apply DFin_0 | (apply q1_; exact z_) | (apply q0_; exact z_) | (apply q2_; exact z_))
  apply JO_ob
  exact rfl
  exact Ob_call (c := .bool true) rfl (fun w5 hw5 => c59T w5 rd rc B2 B1 (up hw5 mm_ hrd) (up hw5 mm_ hrc) l2 f2)
  repeat' (first | apply s_ | ((first | apply JO_ob | apply GD_ex | apply GL_ex); exact rfl; first | exact ob1) | ((first | apply b_ | apply a_ | apply i_); exact z_; intro _) | ((first | apply p_ | apply JO_yes | apply GC_t); exact z_) | (apply n_; exact z_) | (apply GC_f; exact z_) | (apply GX_block_on; exact z_) | refine GC_drawB (id := 3) [] [1, 2, 3, 5] [0, 4, 6, 7, 8, 9, 10] _ (by kernel_rfl) (List.Sublist.refl _) ?_ | refine GC_drawB (id := 4) [] [1, 2, 3, 5] [0, 4, 6, 7, 8, 9, 10] _ (by kernel_rfl) (List.Sublist.refl _) ?_ | ((first | apply GD_at | apply GL_at | apply GD_no | apply GL_no); exact rfl) | apply DFin_0 | (apply q1_; exact z_) | (apply q0_; exact z_) | (apply q2_; exact z_))
  apply JO_ob
  exact rfl
  exact Ob_call (c := .bool true) rfl (fun w5 hw5 => c59T w5 rq rp C2 C1 (up hw5 mm_ hrq) (up hw5 mm_ hrp) l3 f3)
  repeat' (first | apply s_ | ((first | apply JO_ob | apply GD_ex | apply GL_ex); exact rfl; first | exact ob1 | exact Ob_call rfl (fun w5 _ => c21 w5)) | ((first | apply b_ | apply a_ | apply i_); exact z_; intro _) | ((first | apply p_ | apply JO_yes | apply GC_t); exact z_) | (apply n_; exact z_) | (apply GC_f; exact z_) | (apply GX_block_on; exact z_) | refine GC_drawB (id := 3) [] [1, 2, 3, 5] [0, 4, 6, 7, 8, 9, 10] _ (by kernel_rfl) (List.Sublist.refl _) ?_ | refine GC_drawB (id := 4) [] [1, 2, 3, 5] [0, 4, 6, 7, 8, 9, 10] _ (by kernel_rfl) (List.Sublist.refl _) ?_ | ((first | apply GD_at | apply GL_at | apply GD_no | apply GL_no); exact rfl) | apply DFin_0 | (apply q1_; exact z_) | (apply q0_; exact z_) | (apply q2_; exact z_))
  exact GX_ex rfl rfl mem_ rfl
end
end Go.Proofs.YtkbaaikidhbfmaaGreat
/- The law PressKnown, its two cases. No statement is proved here. -/
namespace Go.Proofs.YtkbaaikidhbfmaaGreat
open Go.RowKit
theorem law14 {w : World} {a b c d e f : Value} {hs : List Value} {k : Wk} (h : WkA All w a b c hs d e f k) (s0 : Smp) (t : BS) (x : Int) (hx : 0 ≤ x ∧ x ≤ 255) (hz : k.yard.smps.length * 24 ≤ 140737488351232 ∧ k.beat.smps.length * 24 ≤ 140737488351232) : Ex 14 [wkV a b c d e f k, .agg (encS s0).toArray, .agg (encB t).toArray, .int .u8 x] w (.bool true) := by
  by_cases hev : x % 2 = 0
  · exact law14_good h x s0 t hx hz.1 hz.2 (moreY k s0) (.inl ⟨hev, rfl⟩)
  · exact law14_good h x s0 t hx hz.1 hz.2 (moreB k t) (.inr ⟨hev, rfl⟩)
end Go.Proofs.YtkbaaikidhbfmaaGreat
