/- The walks of the functions that the laws of the chapter 09 reach, and what they compute, part 5. No statement is proved here; no condition. -/
import Derived.ProofKit
import Derived.OpenShut
import Derived.ChangeOld
import Derived.Below
import Derived.SizedLaws
import Derived.ChangeArms
import Derived.DataReads
import Derived.Test.YtkbaaikidhbfmaaGreatB4
/- Contracts: products of small numbers, Repeat. No statement is proved here. -/
set_option linter.unusedVariables false
set_option linter.unusedSimpArgs false
namespace Go.Proofs.YtkbaaikidhbfmaaGreat
open Go.RowKit
section
variable {b0 : World} {R : Rgs} {H : Hp} {fr : Slots} {dst : Option Nat} {g : Option (Nat × Bool)} {ty : TypeId} {ps : String} {af : Array Edge} {t yt : TypeId} {x y : Operand} {a b : Int} {ky : IntKind}
theorem Ob_mulU (hx : ev fr x = some (.int .u64 a)) (hy : ev fr y = some (.int .u64 b)) : Ob b0 R H ⟨dst, .binOp .mul t x y yt, ty, ps, af, g⟩ fr (.int .u64 (IntKind.u64.wrap (a * b))) := .pure fun w f hf => by
  rw [run_bin_int (hf x _ hx) (hf y _ hy)]; simp [binOp, Op.intArith, Result.andThen]
theorem Ob_addU (hx : ev fr x = some (.int .u64 a)) (hy : ev fr y = some (.int .u64 b)) : Ob b0 R H ⟨dst, .binOp .add t x y yt, ty, ps, af, g⟩ fr (.int .u64 (IntKind.u64.wrap (a + b))) := .pure fun w f hf => by
  rw [run_bin_int (hf x _ hx) (hf y _ hy)]; simp [binOp, Op.intArith, Result.andThen]
theorem Ob_andU (hx : ev fr x = some (.int .u64 a)) (hy : ev fr y = some (.int .u64 b)) : Ob b0 R H ⟨dst, .binOp .and t x y yt, ty, ps, af, g⟩ fr (.int .u64 (IntKind.u64.wrap ((BitVec.ofInt 64 a &&& BitVec.ofInt 64 b).toNat : Int))) := .pure fun w f hf => by
  rw [run_bin_int (hf x _ hx) (hf y _ hy)]; rfl
theorem Ob_shrU (hx : ev fr x = some (.int .u64 a)) (hy : ev fr y = some (.int ky 32)) : Ob b0 R H ⟨dst, .binOp .shr t x y yt, ty, ps, af, g⟩ fr (.int .u64 (a.fdiv (2 ^ 32))) := .pure fun w f hf => by
  simp only [execOp]
  rw [hf x _ hx, hf y _ hy]
  have e3 : binOp .shr t (.int .u64 a) (.int ky 32) = Op.shift .shr .u64 a ky 32 := by cases ky <;> rfl
  have e4 : eqGuard .shr t x y (.int .u64 a) (.int ky 32) = pure () := rfl
  have e2 : (Op.shift .shr .u64 a ky 32).run P w = .ok (.int .u64 (a.fdiv (2 ^ 32))) w := rfl
  rw [e3, e4, Sem.run_bind, Sem.run_bind, Sem.run_pure]
  simp only [Result.andThen]
  rw [e2]
  rfl
end
theorem c164 (w : World) (n : Nat) (hn : n ≤ 3) : Ex 164 [.int .u64 1, .int .u64 (n : Int)] w (.tuple #[.int .u64 0, .int .u64 (n : Int)]) := by
  have h : n = 0 ∨ n = 1 ∨ n = 2 ∨ n = 3 := by omega
  refine Rt_of Tryz.func164 rfl Tryz.ntmps164 rfl ?_
  repeat' (first | apply s_ | (apply JO_ob; exact rfl; first | exact ob1 | exact Ob_mulU rfl rfl | exact Ob_addU rfl rfl | exact Ob_andU rfl rfl | exact Ob_shrU rfl rfl) | ((first | apply b_ | apply a_ | apply i_); exact z_; intro _) | ((first | apply p_ | apply JO_yes | apply GC_t); exact z_) | (apply n_; exact z_) | (apply GC_f; exact z_) | (apply GX_block_on; exact z_))
  refine GX_ret2 rfl rfl rfl fun w' hw' => ⟨?_, hw'.kp mem_⟩
  rcases h with rfl | rfl | rfl | rfl <;> rfl
theorem c130 (w : World) (n : Nat) (hn : n ≤ 3) : Ex 130 [.int .u64 1, .int .u64 (n : Int)] w (.tuple #[.int .u64 0, .int .u64 (n : Int)]) := by
  refine Rt_of Tryz.func130 rfl Tryz.ntmps130 rfl ?_
  repeat' (first | apply s_ | (apply JO_ob; exact rfl; first | exact ob1 | exact Ob_call rfl (fun w _ => c164 w n hn)) | ((first | apply b_ | apply a_ | apply i_); exact z_; intro _) | ((first | apply p_ | apply JO_yes | apply GC_t); exact z_) | (apply n_; exact z_) | (apply GC_f; exact z_) | (apply GX_block_on; exact z_))
  exact GX_ret2 rfl rfl rfl fun w' hw' => ⟨rfl, hw'.kp mem_⟩
section
variable {n d : Nat} {full : List Oper} {b0 : World} {R : Rgs} {H : Hp} {fr : Slots} {K : Kt} {dst : Option Nat} {g : Option (Nat × Bool)} {ty : TypeId} {ps : String} {af : Array Edge}
theorem JO_copyO {t e sz by_ b o dl dc j m c : Nat} {A : Option Addr} {x y : Operand} {cs : List Value} {T : TypeId} [h : TySl t e sz by_] (k : Nat) (news : List Value) (hd : Nat.blt d n = true) (hx : ev fr x = some (.slice (some ⟨b, o, none⟩) dl dc)) (hy : ev fr y = some (.slice A m c))
    (hk : min m dl = k) (hj : H[j]? = some (b, .cells cs.toArray T)) (hfc : ∀ w, SH b0 R H w → (Builtin.firstCells sz k (.slice A m c)).run P w = .ok news.toArray w) (hl : o + news.length ≤ cs.length) (h1 : news.all oneCell = true)
    (hc : K R (setH H j (.cells (splice cs o news).toArray T)) ((d, .int .i64 (k : Int)) :: fr)) : JO n full b0 R H ⟨some d, .call ⟨.builtin .copy, #[x, y], #[t, t]⟩, ty, ps, af, none⟩ fr K :=
  JO.mk (by rw [Bool.and_eq_true]; exact ⟨hd, rfl⟩) fun w hw => by
    have hb := hw.own _ (List.mem_of_getElem? hj)
    obtain ⟨w', h1, h2, h3, h4, h5, h6, h7⟩ := run_storeCells news cs o 0 w hb (by omega) h1
    rw [Nat.add_zero] at h7
    have hlen : (Builtin.lenOf (.slice A m c)).run P w = .ok m w := rfl
    have hf2 := hfc w hw
    have hk2 : Nat.min m dl = k := hk
    intro f hf
    have e1 : (execOp f { dst := some d, op := Op.call ⟨.builtin .copy, #[x, y], #[t, t]⟩, type := ty, pos := ps, after := af, guard := none }).run P w = .ok (.value (.int .i64 (k : Int))) w' := by
      simp only [execOp, resolve]
      simp [hf x _ hx, hf y _ hy, invoke, builtin, Builtin.copy_, run_underlying h.h, Result.andThen, hlen, hk, h.s, hf2, h1, goInt]
    rw [e1]
    exact ⟨R, _, hw.upd hj h2 h3 h4 (by omega) (fun k _ hk => h6 k hk) h7, fun r h => h, hc⟩
theorem Ob_slice_lt {t e sz by_ lo : Nat} {x y : Operand} {b o : Nat} {m c : Nat} {kk : IntKind} [h : TySl t e sz by_] (hx : ev fr x = some (.slice (some ⟨b, o, none⟩) m c)) (hy : ev fr y = some (.int kk (lo : Int))) (hl : lo ≤ m) (hc : m ≤ c) (hlt : lo < c) :
    Ob b0 R H ⟨dst, .slice t x (some y) none none, ty, ps, af, g⟩ fr (.slice (some ⟨b, o + lo * sz, none⟩) (m - lo) (c - lo)) := by
  have := Ob_slice_lo (b0 := b0) (R := R) (H := H) (dst := dst) (g := g) (ty := ty) (ps := ps) (af := af) (t := t) hx hy hl hc
  rw [dropV, if_neg (by omega)] at this
  simpa [add_none] using this
end
/-- m things, and the rest of n not yet filled. -/
def repS {α : Type} (x z : α) (n m : Nat) : List α := List.replicate m x ++ List.replicate (n - m) z
theorem repS_splice {α : Type} {enc : α → List Value} {sz : Nat} (he : ∀ x, (enc x).length = sz) (x z : α) (n m k : Nat) (h : m + k ≤ n) : splice ((repS x z n m).flatMap enc) (m * sz) ((List.replicate k x).flatMap enc) = (repS x z n (m + k)).flatMap enc := by
  have l1 : m * sz = ((List.replicate m x).flatMap enc).length := by rw [flatMap_len he]; simp
  rw [repS, List.flatMap_append, l1, splice_at _ _ _ (by rw [flatMap_len he, flatMap_len he]; simp; exact Nat.mul_le_mul_right _ (by omega)), flatMap_len he, List.length_replicate]
  have l2 : ((List.replicate (n - m) z).flatMap enc).drop (k * sz) = ((List.replicate (n - m) z).drop k).flatMap enc := (flat_drop he _ _ (by simp; omega)).symm
  rw [l2, List.drop_replicate, repS, List.flatMap_append, ← List.flatMap_append, List.replicate_append_replicate, show n - m - k = n - (m + k) by omega]
theorem repS_take {α : Type} {enc : α → List Value} {sz : Nat} (he : ∀ x, (enc x).length = sz) (x z : α) (n m k : Nat) (h : k ≤ m) (j : Nat) (v : Value) (hv : ((List.replicate k x).flatMap enc)[j]? = some v) : ((repS x z n m).flatMap enc)[j]? = some v := by
  have : repS x z n m = List.replicate k x ++ (List.replicate (m - k) x ++ List.replicate (n - m) z) := by
    rw [← List.append_assoc, List.replicate_append_replicate, show k + (m - k) = m by omega]; rfl
  rw [this, List.flatMap_append]
  have hlt := (List.getElem?_eq_some_iff.1 hv).1
  rw [List.getElem?_append_left hlt]; exact hv
theorem c152 (w : World) (v : Value) (x : Rg) (n : Nat) (hA : Arr All w 2 encR v [x]) (hn : n ≤ 3) : Rt 152 [v, .int .i64 (n : Int)] w fun r w' => Keep w w' ∧ Arr (New w) w' 2 encR r (List.replicate n x) := by
  have hsl : ∀ w2, SH w [((fun _ => True), w)] [] w2 → True := fun _ _ => trivial
  have hA' := hA
  obtain ⟨A, c, rfl, hc, hm, hcs⟩ := hA.h
  refine Rt_of Tryz.func152 rfl Tryz.ntmps152 rfl ?_
  repeat' (first | apply s_ | ((first | apply JO_ob | apply GD_ex | apply GL_ex); exact rfl; first | exact ob1 | exact Ob_convert rfl (wrapU (by decide) (by decide)) | exact Ob_convert rfl (wrapU (by omega) (by omega)) | exact Ob_call rfl (fun w _ => c130 w n hn) | exact Ob_gtrF rfl rfl (by decide) | exact Ob_gtrF rfl rfl (by omega) | exact Ob_lssF rfl rfl (by omega) | exact Ob_convert rfl (wrapI (by omega) (by omega))) | ((first | apply b_ | apply a_ | apply i_); exact z_; intro _) | ((first | apply p_ | apply JO_yes | apply GC_t); exact z_) | (apply n_; exact z_) | (apply GC_f; exact z_) | (apply GX_block_on; exact z_) | refine GC_drawB (id := 9) [1, 2, 3, 4, 5, 6] [0] [7, 8, 9] _ (by kernel_rfl) (List.Sublist.refl _) ?_ | ((first | apply GD_at | apply GL_at | apply GD_no | apply GL_no); exact rfl) | apply DFin_0 | (apply q1_; exact z_) | (apply q0_; exact z_) | (apply q2_; exact z_))
  refine JO_make (m := n) (x0 := ((0, 0) : Rg)) (enc := encR) rfl rfl rfl (fun _ => rfl) rfl (by decide) (by omega) (by omega) ?_
  intro b hob
  repeat' (first | apply s_ | ((first | apply JO_ob | apply GD_ex | apply GL_ex); exact rfl; first | exact ob1) | ((first | apply b_ | apply a_ | apply i_); exact z_; intro _) | ((first | apply p_ | apply JO_yes | apply GC_t); exact z_) | (apply n_; exact z_) | (apply GC_f; exact z_) | (apply GX_block_on; exact z_) | refine GC_drawB (id := 9) [1, 2, 3, 4, 5, 6] [0] [7, 8, 9] _ (by kernel_rfl) (List.Sublist.refl _) ?_ | ((first | apply GD_at | apply GL_at | apply GD_no | apply GL_no); exact rfl) | apply DFin_0 | (apply q1_; exact z_) | (apply q0_; exact z_) | (apply q2_; exact z_))
  refine JO_copyO (j := 0) (min 1 n) ((List.replicate (min 1 n) x).flatMap encR) rfl rfl rfl rfl rfl (fun w5 hw5 => ?_) (by rw [flatMap_len (sz := 2) (fun _ => rfl), flatMap_len (sz := 2) (fun _ => rfl)]; simp; omega) (allOne_flat (fun _ => rfl) _) ?_
  · have h1 := hw5.slArr (.head _) hA' (by decide)
    obtain ⟨A', c', e, hl, hn', hcc⟩ := h1
    cases e
    by_cases h0 : n = 0
    · subst h0
      cases A with
      | none => exact run_firstCells_none _ _ _ _ _
      | some A => exact run_firstCells_some _ _ _ _ _ _ _ rfl (fun j v h => by simp at h)
    · rw [show min 1 n = 1 by omega]
      exact run_firstCells ⟨A, c, rfl, hl, hn', hcc⟩
  have e0 := repS_splice (enc := encR) (sz := 2) (fun _ => rfl) x ((0, 0) : Rg) n 0 (min 1 n) (by omega)
  rw [Nat.zero_mul, Nat.zero_add] at e0
  have e1 : repS x ((0, 0) : Rg) n 0 = List.replicate n (0, 0) := by simp [repS]
  rw [e1] at e0
  rw [e0]
  repeat' (first | apply s_ | ((first | apply JO_ob | apply GD_ex | apply GL_ex); exact rfl; first | exact ob1) | ((first | apply b_ | apply a_ | apply i_); exact z_; intro _) | ((first | apply p_ | apply JO_yes | apply GC_t); exact z_) | (apply n_; exact z_) | (apply GC_f; exact z_) | (apply GX_block_on; exact z_) | refine GC_drawB (id := 9) [1, 2, 3, 4, 5, 6] [0] [7, 8, 9] _ (by kernel_rfl) (List.Sublist.refl _) ?_ | ((first | apply GD_at | apply GL_at | apply GD_no | apply GL_no); exact rfl) | apply DFin_0 | (apply q1_; exact z_) | (apply q0_; exact z_) | (apply q2_; exact z_))
  refine GC_loop (fun m => n - m) (fun m => [(7, .slice (some ⟨b, 0, none⟩) n n), (8, .int .i64 (m : Int))]) (fun _ => [((fun _ => True), w)]) (fun m => [(b, .cells ((repS x ((0, 0) : Rg) n m).flatMap encR).toArray 59)]) (fun m => m ≤ n ∧ (n = 0 ∨ 1 ≤ m)) (min 1 n) ⟨rfl, rfl, trivial⟩ (by omega) (fun w hw => hw) ?_
  rintro m ⟨hm1, hm2⟩
  by_cases hlt : m < n
  · repeat' (first | apply s_ | (apply JO_ob; exact rfl; first | exact ob1 | exact Ob_lssT rfl rfl (by omega)) | ((first | apply b_ | apply a_ | apply i_); exact z_; intro _) | ((first | apply p_ | apply JO_yes | apply GC_t); exact z_) | (apply n_; exact z_) | (apply GC_f; exact z_) | (apply GX_block_on; exact z_))
    refine GC_drawB (id := 9) [1, 2, 3, 4, 5, 6] [0] [7, 8, 9] [] (by kernel_rfl) sub_ ?_
    repeat' (first | apply s_ | ((first | apply JO_ob | apply GD_ex | apply GL_ex); exact rfl; first | exact ob1 | exact Ob_slice_lt rfl rfl (by omega) (by omega) (by omega) | exact Ob_slice_hi rfl rfl (by omega) (.inr ⟨_, _, rfl⟩)) | ((first | apply b_ | apply a_ | apply i_); exact z_; intro _) | ((first | apply p_ | apply JO_yes | apply GC_t); exact z_) | (apply n_; exact z_) | (apply GC_f; exact z_) | (apply GX_block_on; exact z_) | refine GC_drawB (id := 9) [1, 2, 3, 4, 5, 6] [0] [7, 8, 9] _ (by kernel_rfl) (List.Sublist.refl _) ?_ | ((first | apply GD_at | apply GL_at | apply GD_no | apply GL_no); exact rfl) | apply DFin_0 | (apply q1_; exact z_) | (apply q0_; exact z_) | (apply q2_; exact z_))
    refine JO_copyO (j := 0) (min m (n - m)) ((List.replicate (min m (n - m)) x).flatMap encR) rfl rfl rfl rfl rfl (fun w5 hw5 => ?_) (by rw [flatMap_len (sz := 2) (fun _ => rfl), flatMap_len (sz := 2) (fun _ => rfl)]; simp [repS]; omega) (allOne_flat (fun _ => rfl) _) ?_
    · have hb := hw5.own _ (.head _)
      refine run_firstCells_some _ _ _ _ _ _ _ (by rw [flatMap_len (sz := 2) (fun _ => rfl), List.length_replicate]) fun j v hv => ?_
      rw [add_none, cell_blk hb, Nat.zero_add]
      exact repS_take (sz := 2) (fun _ => rfl) _ _ _ _ _ (by omega) _ _ hv
    have e2 := repS_splice (enc := encR) (sz := 2) (fun _ => rfl) x ((0, 0) : Rg) n m (min m (n - m)) (by omega)
    rw [show (0 : Nat) + m * 2 = m * 2 by omega, e2]
    repeat' (first | apply s_ | ((first | apply JO_ob | apply GD_ex | apply GL_ex); exact rfl; first | exact ob1) | ((first | apply b_ | apply a_ | apply i_); exact z_; intro _) | ((first | apply p_ | apply JO_yes | apply GC_t); exact z_) | (apply n_; exact z_) | (apply GC_f; exact z_) | (apply GX_block_on; exact z_) | refine GC_drawB (id := 9) [1, 2, 3, 4, 5, 6] [0] [7, 8, 9] _ (by kernel_rfl) (List.Sublist.refl _) ?_ | ((first | apply GD_at | apply GL_at | apply GD_no | apply GL_no); exact rfl) | apply DFin_0 | (apply q1_; exact z_) | (apply q0_; exact z_) | (apply q2_; exact z_))
    exact GX_loop (m + min m (n - m)) ⟨rfl, rfl, trivial⟩ (by omega) ⟨by omega, by omega⟩ fun w hw => hw
  · have hie : m = n := by omega
    subst hie
    repeat' (first | apply s_ | ((first | apply JO_ob | apply GD_ex | apply GL_ex); exact rfl; first | exact ob1 | exact Ob_lssF rfl rfl (by omega)) | ((first | apply b_ | apply a_ | apply i_); exact z_; intro _) | ((first | apply p_ | apply JO_yes | apply GC_t); exact z_) | (apply n_; exact z_) | (apply GC_f; exact z_) | (apply GX_block_on; exact z_) | refine GC_drawB (id := 9) [1, 2, 3, 4, 5, 6] [0] [7, 8, 9] _ (by kernel_rfl) (List.Sublist.refl _) ?_ | ((first | apply GD_at | apply GL_at | apply GD_no | apply GL_no); exact rfl) | apply DFin_0 | (apply q1_; exact z_) | (apply q0_; exact z_) | (apply q2_; exact z_))
    have e3 : repS x ((0, 0) : Rg) m m = List.replicate m x := by simp [repS]
    rw [e3]
    refine GX_ret1 rfl rfl fun w' hw' => ⟨hw'.kp mem_, ?_⟩
    exact (Own.lit (sz := 2) (enc := encR) (b := b) (m := m) (List.replicate m x) (fun _ => rfl) (by simp) (Nat.ble_eq_true_of_le (by omega))).ret (A := []) (e := 59) (by decide) (by rw [List.append_nil]; exact hw') mem_
theorem c93 (w : World) (v : Value) (x : Int) (n : Nat) (hA : Arr All w 1 encI v [x]) (hn : n ≤ 3) : Rt 93 [v, .int .i64 (n : Int)] w fun r w' => Keep w w' ∧ Arr (New w) w' 1 encI r (List.replicate n x) := by
  have hsl : ∀ w2, SH w [((fun _ => True), w)] [] w2 → True := fun _ _ => trivial
  have hA' := hA
  obtain ⟨A, c, rfl, hc, hm, hcs⟩ := hA.h
  refine Rt_of Tryz.func93 rfl Tryz.ntmps93 rfl ?_
  repeat' (first | apply s_ | ((first | apply JO_ob | apply GD_ex | apply GL_ex); exact rfl; first | exact ob1 | exact Ob_convert rfl (wrapU (by decide) (by decide)) | exact Ob_convert rfl (wrapU (by omega) (by omega)) | exact Ob_call rfl (fun w _ => c130 w n hn) | exact Ob_gtrF rfl rfl (by decide) | exact Ob_gtrF rfl rfl (by omega) | exact Ob_lssF rfl rfl (by omega) | exact Ob_convert rfl (wrapI (by omega) (by omega))) | ((first | apply b_ | apply a_ | apply i_); exact z_; intro _) | ((first | apply p_ | apply JO_yes | apply GC_t); exact z_) | (apply n_; exact z_) | (apply GC_f; exact z_) | (apply GX_block_on; exact z_) | refine GC_drawB (id := 9) [1, 2, 3, 4, 5, 6] [0] [7, 8, 9] _ (by kernel_rfl) (List.Sublist.refl _) ?_ | ((first | apply GD_at | apply GL_at | apply GD_no | apply GL_no); exact rfl) | apply DFin_0 | (apply q1_; exact z_) | (apply q0_; exact z_) | (apply q2_; exact z_))
  refine JO_make (m := n) (x0 := (0 : Int)) (enc := encI) rfl rfl rfl (fun _ => rfl) rfl (by decide) (by omega) (by omega) ?_
  intro b hob
  repeat' (first | apply s_ | ((first | apply JO_ob | apply GD_ex | apply GL_ex); exact rfl; first | exact ob1) | ((first | apply b_ | apply a_ | apply i_); exact z_; intro _) | ((first | apply p_ | apply JO_yes | apply GC_t); exact z_) | (apply n_; exact z_) | (apply GC_f; exact z_) | (apply GX_block_on; exact z_) | refine GC_drawB (id := 9) [1, 2, 3, 4, 5, 6] [0] [7, 8, 9] _ (by kernel_rfl) (List.Sublist.refl _) ?_ | ((first | apply GD_at | apply GL_at | apply GD_no | apply GL_no); exact rfl) | apply DFin_0 | (apply q1_; exact z_) | (apply q0_; exact z_) | (apply q2_; exact z_))
  refine JO_copyO (j := 0) (min 1 n) ((List.replicate (min 1 n) x).flatMap encI) rfl rfl rfl rfl rfl (fun w5 hw5 => ?_) (by rw [flatMap_len (sz := 1) (fun _ => rfl), flatMap_len (sz := 1) (fun _ => rfl)]; simp; omega) (allOne_flat (fun _ => rfl) _) ?_
  · have h1 := hw5.slArr (.head _) hA' (by decide)
    obtain ⟨A', c', e, hl, hn', hcc⟩ := h1
    cases e
    by_cases h0 : n = 0
    · subst h0
      cases A with
      | none => exact run_firstCells_none _ _ _ _ _
      | some A => exact run_firstCells_some _ _ _ _ _ _ _ rfl (fun j v h => by simp at h)
    · rw [show min 1 n = 1 by omega]
      exact run_firstCells ⟨A, c, rfl, hl, hn', hcc⟩
  have e0 := repS_splice (enc := encI) (sz := 1) (fun _ => rfl) x (0 : Int) n 0 (min 1 n) (by omega)
  rw [Nat.zero_mul, Nat.zero_add] at e0
  have e1 : repS x (0 : Int) n 0 = List.replicate n 0 := by simp [repS]
  rw [e1] at e0
  rw [e0]
  repeat' (first | apply s_ | ((first | apply JO_ob | apply GD_ex | apply GL_ex); exact rfl; first | exact ob1) | ((first | apply b_ | apply a_ | apply i_); exact z_; intro _) | ((first | apply p_ | apply JO_yes | apply GC_t); exact z_) | (apply n_; exact z_) | (apply GC_f; exact z_) | (apply GX_block_on; exact z_) | refine GC_drawB (id := 9) [1, 2, 3, 4, 5, 6] [0] [7, 8, 9] _ (by kernel_rfl) (List.Sublist.refl _) ?_ | ((first | apply GD_at | apply GL_at | apply GD_no | apply GL_no); exact rfl) | apply DFin_0 | (apply q1_; exact z_) | (apply q0_; exact z_) | (apply q2_; exact z_))
  refine GC_loop (fun m => n - m) (fun m => [(7, .slice (some ⟨b, 0, none⟩) n n), (8, .int .i64 (m : Int))]) (fun _ => [((fun _ => True), w)]) (fun m => [(b, .cells ((repS x (0 : Int) n m).flatMap encI).toArray 3)]) (fun m => m ≤ n ∧ (n = 0 ∨ 1 ≤ m)) (min 1 n) ⟨rfl, rfl, trivial⟩ (by omega) (fun w hw => hw) ?_
  rintro m ⟨hm1, hm2⟩
  by_cases hlt : m < n
  · repeat' (first | apply s_ | (apply JO_ob; exact rfl; first | exact ob1 | exact Ob_lssT rfl rfl (by omega)) | ((first | apply b_ | apply a_ | apply i_); exact z_; intro _) | ((first | apply p_ | apply JO_yes | apply GC_t); exact z_) | (apply n_; exact z_) | (apply GC_f; exact z_) | (apply GX_block_on; exact z_))
    refine GC_drawB (id := 9) [1, 2, 3, 4, 5, 6] [0] [7, 8, 9] [] (by kernel_rfl) sub_ ?_
    repeat' (first | apply s_ | ((first | apply JO_ob | apply GD_ex | apply GL_ex); exact rfl; first | exact ob1 | exact Ob_slice_lt rfl rfl (by omega) (by omega) (by omega) | exact Ob_slice_hi rfl rfl (by omega) (.inr ⟨_, _, rfl⟩)) | ((first | apply b_ | apply a_ | apply i_); exact z_; intro _) | ((first | apply p_ | apply JO_yes | apply GC_t); exact z_) | (apply n_; exact z_) | (apply GC_f; exact z_) | (apply GX_block_on; exact z_) | refine GC_drawB (id := 9) [1, 2, 3, 4, 5, 6] [0] [7, 8, 9] _ (by kernel_rfl) (List.Sublist.refl _) ?_ | ((first | apply GD_at | apply GL_at | apply GD_no | apply GL_no); exact rfl) | apply DFin_0 | (apply q1_; exact z_) | (apply q0_; exact z_) | (apply q2_; exact z_))
    refine JO_copyO (j := 0) (min m (n - m)) ((List.replicate (min m (n - m)) x).flatMap encI) rfl rfl rfl rfl rfl (fun w5 hw5 => ?_) (by rw [flatMap_len (sz := 1) (fun _ => rfl), flatMap_len (sz := 1) (fun _ => rfl)]; simp [repS]; omega) (allOne_flat (fun _ => rfl) _) ?_
    · have hb := hw5.own _ (.head _)
      refine run_firstCells_some _ _ _ _ _ _ _ (by rw [flatMap_len (sz := 1) (fun _ => rfl), List.length_replicate]) fun j v hv => ?_
      rw [add_none, cell_blk hb, Nat.zero_add]
      exact repS_take (sz := 1) (fun _ => rfl) _ _ _ _ _ (by omega) _ _ hv
    have e2 := repS_splice (enc := encI) (sz := 1) (fun _ => rfl) x (0 : Int) n m (min m (n - m)) (by omega)
    rw [show (0 : Nat) + m * 1 = m * 1 by omega, e2]
    repeat' (first | apply s_ | ((first | apply JO_ob | apply GD_ex | apply GL_ex); exact rfl; first | exact ob1) | ((first | apply b_ | apply a_ | apply i_); exact z_; intro _) | ((first | apply p_ | apply JO_yes | apply GC_t); exact z_) | (apply n_; exact z_) | (apply GC_f; exact z_) | (apply GX_block_on; exact z_) | refine GC_drawB (id := 9) [1, 2, 3, 4, 5, 6] [0] [7, 8, 9] _ (by kernel_rfl) (List.Sublist.refl _) ?_ | ((first | apply GD_at | apply GL_at | apply GD_no | apply GL_no); exact rfl) | apply DFin_0 | (apply q1_; exact z_) | (apply q0_; exact z_) | (apply q2_; exact z_))
    exact GX_loop (m + min m (n - m)) ⟨rfl, rfl, trivial⟩ (by omega) ⟨by omega, by omega⟩ fun w hw => hw
  · have hie : m = n := by omega
    subst hie
    repeat' (first | apply s_ | ((first | apply JO_ob | apply GD_ex | apply GL_ex); exact rfl; first | exact ob1 | exact Ob_lssF rfl rfl (by omega)) | ((first | apply b_ | apply a_ | apply i_); exact z_; intro _) | ((first | apply p_ | apply JO_yes | apply GC_t); exact z_) | (apply n_; exact z_) | (apply GC_f; exact z_) | (apply GX_block_on; exact z_) | refine GC_drawB (id := 9) [1, 2, 3, 4, 5, 6] [0] [7, 8, 9] _ (by kernel_rfl) (List.Sublist.refl _) ?_ | ((first | apply GD_at | apply GL_at | apply GD_no | apply GL_no); exact rfl) | apply DFin_0 | (apply q1_; exact z_) | (apply q0_; exact z_) | (apply q2_; exact z_))
    have e3 : repS x (0 : Int) m m = List.replicate m x := by simp [repS]
    rw [e3]
    refine GX_ret1 rfl rfl fun w' hw' => ⟨hw'.kp mem_, ?_⟩
    exact (Own.lit (sz := 1) (enc := encI) (b := b) (m := m) (List.replicate m x) (fun _ => rfl) (by simp) (Nat.ble_eq_true_of_le (by omega))).ret (A := []) (e := 3) (by decide) (by rw [List.append_nil]; exact hw') mem_
end Go.Proofs.YtkbaaikidhbfmaaGreat
/- Contracts: the program's best plan. No statement is proved here. -/
set_option linter.unusedVariables false
set_option linter.unusedSimpArgs false
namespace Go.Proofs.YtkbaaikidhbfmaaGreat
open Go.RowKit
theorem SH.lend {b0 : World} {R : Rgs} {H H0 : Hp} {w : World} {pb : Nat} {o : Obj} (hw : SH b0 R H w) (hp : H.Perm ((pb, o) :: H0)) : SH b0 ((fun b => b = pb, w) :: R) H0 w := by
  have h1 := hw.perm hp
  have h2 := h1.nd
  rw [List.pairwise_cons] at h2
  exact (h1.weak (fun r h => h) (List.Sublist.cons _ (List.Sublist.refl _))).add _ fun p hp e => h2.1 p hp e.symm
theorem SH.back {b0 : World} {R : Rgs} {H H1 : Hp} {w w' : World} {pb : Nat} {o : Obj} (hw : SH b0 R H w) (hm : (pb, o) ∈ H) (hw' : SH b0 ((fun b => b = pb, w) :: R) H1 w') : SH b0 R ((pb, o) :: H1) w' := by
  have hlt := hw.lt hm
  refine ⟨hw'.bas, fun r hr => hw'.rng r (.tail _ hr), fun p hp => ?_, ?_, fun p hp r hr hb => ?_⟩
  · rcases List.mem_cons.1 hp with rfl | hp
    · exact ((hw'.rng _ (.head _)).2 _ rfl hlt).trans (hw.own _ hm)
    · exact hw'.own p hp
  · rw [List.pairwise_cons]
    refine ⟨fun q hq e => ?_, hw'.nd⟩
    have := hw'.apt q hq _ (.head _) e.symm
    simp only at this e hlt
    omega
  · rcases List.mem_cons.1 hp with rfl | hp
    · exact hw.apt _ hm r hr hb
    · exact hw'.apt p hp r (.tail _ hr) hb
theorem SH.addNo {b0 : World} {R : Rgs} {H : Hp} {w : World} (hw : SH b0 R H w) : SH b0 ((fun _ => False, b0) :: R) H w := by
  refine ⟨hw.bas, fun q hq => ?_, hw.own, hw.nd, fun p hp q hq hb => ?_⟩
  · rcases List.mem_cons.1 hq with rfl | hq
    · exact ⟨hw.bas.size, fun _ h => h.elim⟩
    · exact hw.rng q hq
  · rcases List.mem_cons.1 hq with rfl | hq
    · exact hb.elim
    · exact hw.apt p hp q hq hb
theorem Rt_ofSM {f n : Nat} {fn : Func} {c : Code} {vs : List Value} {b0 w : World} {R : Rgs} {H : Hp} {S : Value → World → Prop} (hf : P.funcs[f]? = some fn) (hb : fn.body = some c) (hnt : fn.ntmps = n) (hn : Nat.ble vs.length n = true)
    (hw : SH b0 R H w) (h : GC none n [] (RetM fn S) b0 R H c (argS 0 vs)) : Rt f vs w S := by
  refine callsIn_of_wp_marks hf hb trivial ?_ rfl
  rw [hnt]
  exact h.use w hw _ (Rep_args hn)
theorem GX_retcc {n : Nat} {fn : Func} {S : Value → World → Prop} {b0 : World} {R : Rgs} {H : Hp} {fr : Slots} {t t2 : Tmp} {ty ty2 : TypeId} {b b2 : Nat} {v v2 : Value} {T T2 : TypeId} {fz fz2 : Nat × Nat} [TyOne ty] [TyOne ty2] (hr : fn.results = #[.cell t ty, .cell t2 ty2])
    (hv : look fr t = some (.pointer (some ⟨b, 0, none⟩))) (hv2 : look fr t2 = some (.pointer (some ⟨b2, 0, none⟩))) (hH : (b, Obj.cells #[v] T fz) ∈ H) (hH2 : (b2, Obj.cells #[v2] T2 fz2) ∈ H) (hS : ∀ w, SH b0 R H w → S (.tuple #[v, v2]) w) : GX n [] (RetQ fn S) b0 R H .ret fr :=
  GX_ret (rs := [.cell t ty, .cell t2 ty2]) (vs := [v, v2]) hr fun w hw => ⟨⟨⟨_, hv, .one (by rw [cell_blk (cs := [v]) (hw.own _ hH)]; rfl)⟩, ⟨_, hv2, .one (by rw [cell_blk (cs := [v2]) (hw.own _ hH2)]; rfl)⟩, trivial⟩, hS w hw⟩
/-- The better of a plan that stands and the next one. -/
def bestStep (k : Wk) (s : List Int × Int) (l : List Int) : List Int × Int := if s.2 < 0 ∨ endV k l < s.2 then (l, endV k l) else s
def bestF (k : Wk) (ls : List (List Int)) : List Int × Int := ls.foldl (bestStep k) ([], -1)
/-- The first plan of all those with n boxes whose ending is least. -/
def bestL (k : Wk) (n : Int) : List Int × Int := bestF k (lex (List.replicate k.yard.vats.length (0, n - 1)))
theorem bestF_snoc (k : Wk) (ls : List (List Int)) (x : List Int) : bestF k (ls ++ [x]) = bestStep k (bestF k ls) x := by simp [bestF, List.foldl_append]
theorem bestF_bd {k : Wk} (h : OkK k) : ∀ (ls : List (List Int)) (s : List Int × Int), (-1 ≤ s.2 ∧ s.2 ≤ 2703) → -1 ≤ (ls.foldl (bestStep k) s).2 ∧ (ls.foldl (bestStep k) s).2 ≤ 2703
  | [], s, hs => hs
  | l :: ls, s, hs => by
    have h2 := endV_bd h l
    refine bestF_bd h ls _ ?_
    simp only [bestStep]; split
    · simp only; omega
    · exact hs
section
variable {b0 : World} {R : Rgs} {G Gt : Nat → Prop} {w1 wt : World} {a b c d e f tv : Value} {hs : List Value} {k : Wk} {pw r : Nat} {rows : List (List Int)}
set_option maxHeartbeats 2000000 in
theorem c109 (hm : ((fun _ => True), b0) ∈ R) (hk : WkA All b0 a b c hs d e f k) (hK : OkK k) (hR : (G, w1) ∈ R) (hG : G pw) (hpw : w1.heap[pw]? = some (.cells (wkC a b c d e f k ++ [tv, .map (some r)]).toArray 188))
    (hRt : (Gt, wt) ∈ R) (hT : Arr Gt wt 3 (encA 3) tv rows) (hMT : MudT k.yard.vats.length ((truthsX k.yard).map (blueRow k.yard)) ((truthsW k.beat).map fun l => lossRow k.beat (toC l) k.ends) rows)
    (n : Int) (hn : 1 ≤ n ∧ n ≤ 4) (o : Obj) (H : Hp) (w : World) (hw : SH b0 R ((r, o) :: H) w) (ho : HrsOK k.force o) :
    Rt 109 [pt pw, .int .i64 n] w fun v w' => ∃ (s : Obj × Value × (Nat → Prop) × World), ((v = .tuple #[s.2.1, .int .i64 (bestL k n).2] ∧ HrsOK k.force s.1) ∧ (∀ b, s.2.2.1 b → b0.heap.size ≤ b) ∧ Arr s.2.2.1 s.2.2.2 1 encI s.2.1 (bestL k n).1) ∧ (∀ q ∈ R, q ∈ (s.2.2.1, s.2.2.2) :: R) ∧ SH b0 ((s.2.2.1, s.2.2.2) :: R) ((r, s.1) :: H) w' := by
  have i1 := hk.yard.fields.v1
  have i2 := hk.yard.vats.arr.v1
  have i3 := hk.yard.smps.v1
  have i4 := hk.beat.vats.v1
  have i5 := hk.beat.smps.v1
  have i6 := hk.ends.v1
  have v3 := hK.v3
  refine Rt_ofSM Tryz.func109 rfl Tryz.ntmps109 rfl hw ?_
  repeat' (first | apply s_ | (apply JO_ob; exact rfl; first | exact ob1 | exact Ob_loads_blk rfl hR hG hpw (vs := wkC a b c d e f k) rfl rfl | exact Ob_call rfl (fun w5 hw5 => c75w (hw5.wk hm hk))) | ((first | apply b_ | apply a_ | apply i_); exact z_; intro _) | ((first | apply p_ | apply JO_yes | apply GC_t); exact z_) | (apply n_; exact z_) | (apply GC_f; exact z_) | (apply GX_block_on; exact z_))
  rename_i p2 p4 p5 p10
  obtain ⟨fs, hfs⟩ : ∃ fs : List Rg, fs = List.replicate k.yard.vats.length ((0, n - 1) : Rg) := ⟨_, rfl⟩
  have hfl : fs.length = k.yard.vats.length := by rw [hfs]; simp
  have hfn : ∀ i, i < fs.length → nth fs i = (0, n - 1) := fun i hi => by rw [hfl] at hi; simp [nth, hfs, hi]
  have hOk : OkF fs := fun i hi => by rw [hfn i hi]; simp only; omega
  refine JO_call (S := fun w0 r w' => Arr (New w0) w' 2 encR r fs) rfl rfl (fun w5 hw5 => by rw [hfs]; exact c152 w5 _ (0, n - 1) k.yard.vats.length ((hw5.litArr (enc := encR) (sz := 2) [((0, n - 1) : Rg)] (fun _ => rfl) (.head _) rfl rfl rfl rfl).weaken fun _ _ _ => trivial) v3) ?_
  rintro rv u0 u1 hu0 hu1 hk01 hrv
  have irv := hrv.v1
  repeat' (first | apply s_ | (apply JO_ob; exact rfl; first | exact ob1) | ((first | apply b_ | apply a_ | apply i_); exact z_; intro _) | ((first | apply p_ | apply JO_yes | apply GC_t); exact z_) | (apply n_; exact z_) | (apply GC_f; exact z_) | (apply GX_block_on; exact z_) | (apply c_; exact z_; all_goals intro _))
  refine JO_call (S := fun w0 r w' => ∃ p, r = .func (.func 157) #[] #[pt p] ∧ w0.heap.size ≤ p ∧ w'.heap[p]? = some (.cells #[rv] 38)) rfl rfl (fun w5 hw5 => c127 w5 rv) ?_
  rintro v u2 u3 hu2 hu3 hk23 ⟨px, rfl, hpx, hpxc⟩
  repeat' (first | apply s_ | (apply JO_ob; exact rfl; first | exact ob1) | ((first | apply b_ | apply a_ | apply i_); exact z_; intro _) | ((first | apply p_ | apply JO_yes | apply GC_t); exact z_) | (apply n_; exact z_) | (apply GC_f; exact z_) | (apply GX_block_on; exact z_) | (apply c_; exact z_; all_goals intro _))
  have hit := it157 (b0 := b0) (Rb := (fun b => u2.heap.size ≤ b, u3) :: (fun b => u0.heap.size ≤ b, u1) :: R) (.head _) hpx hpxc (.tail _ (.head _)) hrv hOk (by omega)
  have hbs : ∀ {rs : Rgs} {q}, q ∈ R → q ∈ rs ++ ((fun b => u2.heap.size ≤ b, u3) :: (fun b => u0.heap.size ≤ b, u1) :: R) := fun h => List.mem_append_right _ (.tail _ (.tail _ h))
  refine GC_range (α := Obj × Value × Rgs × (List Int × Int)) (cap := [pt px]) (prs := [19]) rfl hit (fun s => s.2.2.1 ++ ((fun b => u2.heap.size ≤ b, u3) :: (fun b => u0.heap.size ≤ b, u1) :: R))
    (fun s => (p5, .cells #[.int .i64 s.2.2.2.2] 3) :: (p4, .cells #[s.2.1] 33) :: (p2, .cells #[pt pw] 123) :: (r, s.1) :: H)
    (fun pre s => s.2.2.2 = bestF k pre ∧ HrsOK k.force s.1 ∧ ∃ q ∈ s.2.2.1, (∀ b, q.1 b → b0.heap.size ≤ b) ∧ Arr q.1 q.2 1 encI s.2.1 s.2.2.2.1) (o, .slice none 0 0, [(fun _ => False, b0)], ([], -1)) rfl (fun s r h => List.mem_append_right _ h) ⟨rfl, ho, _, .head _, fun _ h => h.elim, arr_nil fun _ => rfl⟩ (fun w hw => ?_) (fun x us Hi hx => by obtain ⟨pb, e, _⟩ := hx; rw [e]; rfl) ?_ ?_
  · exact (hw.weak (fun r h => h) (List.Sublist.cons _ (List.Sublist.refl _))).addNo
  · rintro l dd rc pre x ⟨oh, pv, rs, bl, bn⟩ us Hi hrs hrp ⟨hbst, hoh, q, hq, hqn, hqa⟩ hpost hus
    simp only at hbst hoh hq hqn hqa ⊢
    obtain ⟨pb, rfl, hpb⟩ := hus
    have ipv := hqa.v1
    have hxl : x ∈ lex fs := by obtain ⟨post, hp⟩ := hpost; rw [hp]; simp
    have hxI := InL_iff.1 (mem_lex.1 hxl)
    have hxn : x.length = k.yard.vats.length := by rw [hxI.1, hfl]
    have hxb : ∀ i, i < k.yard.vats.length → 0 ≤ nth x i ∧ nth x i ≤ 3 := fun i hi => by
      have := hxI.2 i (by omega); rw [hfn i (by omega)] at this; simp only at this; omega
    obtain ⟨Ha, Hb, rfl⟩ := List.append_of_mem hpb
    simp only [putPs]
    repeat' (first | apply s_ | ((first | apply JO_ob | apply GD_ex | apply GL_ex); exact rfl; first | exact ob1) | ((first | apply b_ | apply a_ | apply i_); exact z_; intro _) | ((first | apply p_ | apply JO_yes | apply GC_t); exact z_) | (apply n_; exact z_) | (apply GC_f; exact z_) | (apply GX_block_on; exact z_) | refine GC_drawB (id := 7) [0] [1] [2, 3] _ (by kernel_rfl) (List.Sublist.refl _) ?_ | ((first | apply GD_at | apply GL_at | apply GD_no | apply GL_no); exact rfl) | apply DFin_0 | (apply q1_; exact z_) | (apply q0_; exact z_) | (apply q2_; exact z_) | (apply c_; exact z_; all_goals intro _) | (apply g_; exact z_; all_goals intro _))
    refine GX_begin hrs (fun w hw => hw) ?_
    repeat' (first | apply s_ | ((first | apply JO_ob | apply GD_ex | apply GL_ex); exact rfl; first | exact ob1) | ((first | apply b_ | apply a_ | apply i_); exact z_; intro _) | ((first | apply p_ | apply JO_yes | apply GC_t); exact z_) | (apply n_; exact z_) | (apply GC_f; exact z_) | (apply GX_block_on; exact z_) | refine GC_drawB (id := 7) [0] [1] [2, 3] _ (by kernel_rfl) (List.Sublist.refl _) ?_ | ((first | apply GD_at | apply GL_at | apply GD_no | apply GL_no); exact rfl) | apply DFin_0 | (apply q1_; exact z_) | (apply q0_; exact z_) | (apply q2_; exact z_))
    refine JO_callS (β := Obj) (S := fun o' v => v = .int .i64 (endV k x) ∧ HrsOK k.force o') (R' := fun _ => rs ++ ((fun b => u2.heap.size ≤ b, u3) :: (fun b => u0.heap.size ≤ b, u1) :: R))
      (H' := fun o' => (l, .loop { rc with state := .busy }) :: dOpen dd :: (p5, .cells #[.int .i64 bn] 3) :: (p4, .cells #[pv] 33) :: (p2, .cells #[pt pw] 123) :: (r, o') :: (H ++ (Ha ++ (pb, Obj.cells (x.flatMap encI).toArray 3) :: Hb))) rfl rfl (fun w5 hw5 => ?_) ?_
    · have hpm : ∀ (o' : Obj) {x1 x2 x3 x4 x5 x7 : Nat × Obj}, List.Perm (x1 :: x2 :: x3 :: x4 :: x5 :: (r, o') :: (H ++ (Ha ++ x7 :: Hb))) (x7 :: (r, o') :: x1 :: x2 :: x3 :: x4 :: x5 :: (H ++ (Ha ++ Hb))) := by
        intro o' x1 x2 x3 x4 x5 x7
        have e1 : List.Perm (H ++ (Ha ++ x7 :: Hb)) (x7 :: (H ++ (Ha ++ Hb))) := by
          rw [← List.append_assoc, ← List.append_assoc]; exact List.perm_middle
        have e2 : List.Perm (x1 :: x2 :: x3 :: x4 :: x5 :: (r, o') :: (H ++ (Ha ++ x7 :: Hb))) ((x1 :: x2 :: x3 :: x4 :: x5 :: (r, o') :: []) ++ x7 :: (H ++ (Ha ++ Hb))) := ((((((e1.cons _).cons _).cons _).cons _).cons _).cons _)
        refine e2.trans (List.perm_middle.trans (List.Perm.cons _ ?_))
        exact (List.perm_middle (l₁ := [x1, x2, x3, x4, x5]) (a := (r, o')) (l₂ := H ++ (Ha ++ Hb)))
      have hln := hw5.lend (hpm oh)
      have hmb : (pb, Obj.cells (x.flatMap encI).toArray 3) ∈ ((l, Obj.loop { rc with state := .busy }) :: dOpen dd :: (p5, Obj.cells #[.int .i64 bn] 3) :: (p4, Obj.cells #[pv] 33) :: (p2, Obj.cells #[pt pw] 123) :: (r, oh) :: (H ++ (Ha ++ (pb, Obj.cells (x.flatMap encI).toArray 3) :: Hb)) : Hp) := by simp
      have hla : Arr (fun b => b = pb) w5 1 encI (.slice (some ⟨pb, 0, none⟩) x.length x.length) x :=
        ⟨fun _ => rfl, _, _, rfl, Nat.le_refl _, by omega, .inr ⟨pb, 0, rfl, rfl, fun j hj => by rw [cell_blk (hw5.own _ hmb), Nat.zero_add]⟩⟩
      refine (c113 (.tail _ (hbs hm)) hk hK (.tail _ (hbs hR)) hG hpw (.tail _ (hbs hRt)) hT hMT (.head _) hla hxn hxb _ _ w5 hln hoh).mono ?_
      rintro v w6 ⟨o', ⟨h1, h2⟩, _, h3⟩
      exact ⟨o', ⟨h1, h2⟩, fun _ h => h, (hw5.back hmb h3).perm (hpm o').symm⟩
    · rintro o' u ⟨rfl, ho'⟩
      have hst := bestF_snoc k pre x
      rw [← hbst] at hst
      have hsub : ∀ p ∈ Ha ++ (pb, Obj.cells (x.flatMap encI).toArray 3) :: Hb, p ∈ ((l, Obj.loop { rc with state := .busy }) :: dOpen dd :: (p5, Obj.cells #[.int .i64 bn] 3) :: (p4, Obj.cells #[pv] 33) :: (p2, Obj.cells #[pt pw] 123) :: (r, o') :: (H ++ (Ha ++ (pb, Obj.cells (x.flatMap encI).toArray 3) :: Hb)) : Hp) :=
        fun p hp => .tail _ (.tail _ (.tail _ (.tail _ (.tail _ (.tail _ (List.mem_append_right _ hp))))))
      by_cases h1 : bn < 0 ∨ endV k x < bn
      · rw [bestStep, if_pos h1] at hst
        by_cases hneg : bn < 0
        all_goals
          try have hlt : endV k x < bn := by omega
          repeat' (first | apply s_ | ((first | apply JO_ob | apply GD_ex | apply GL_ex); exact rfl; first | exact ob1) | ((first | apply b_ | apply a_ | apply i_); exact z_; intro _) | ((first | apply p_ | apply JO_yes | apply GC_t); exact z_) | (apply n_; exact z_) | (apply GC_f; exact z_) | (apply GX_block_on; exact z_) | refine GC_drawB (id := 7) [0] [1] [2, 3] _ (by kernel_rfl) (List.Sublist.refl _) ?_ | ((first | apply GD_at | apply GL_at | apply GD_no | apply GL_no); exact rfl) | apply DFin_0 | (apply q1_; exact z_) | (apply q0_; exact z_) | (apply q2_; exact z_))
          refine JO_call (S := fun w0 r w' => Arr (New w0) w' 1 encI r x) rfl rfl (fun w5 hw5 => c145 w5 _ x (hw5.arl ⟨pb, rfl, hpb⟩ hsub (by omega)) (by omega)) ?_
          rintro cv u4 u5 hu4 hu5 hk45 hcv
          have icv := hcv.v1
          repeat' (first | apply s_ | ((first | apply JO_ob | apply GD_ex | apply GL_ex); exact rfl; first | exact ob1) | ((first | apply b_ | apply a_ | apply i_); exact z_; intro _) | ((first | apply p_ | apply JO_yes | apply GC_t); exact z_) | (apply n_; exact z_) | (apply GC_f; exact z_) | (apply GX_block_on; exact z_) | refine GC_drawB (id := 7) [0] [1] [2, 3] _ (by kernel_rfl) (List.Sublist.refl _) ?_ | ((first | apply GD_at | apply GL_at | apply GD_no | apply GL_no); exact rfl) | apply DFin_0 | (apply q1_; exact z_) | (apply q0_; exact z_) | (apply q2_; exact z_))
          refine GX_round (R' := (fun b => u4.heap.size ≤ b, u5) :: (rs ++ ((fun b => u2.heap.size ≤ b, u3) :: (fun b => u0.heap.size ≤ b, u1) :: R))) (H' := dOpen dd :: (p5, .cells #[.int .i64 (endV k x)] 3) :: (p4, .cells #[cv] 33) :: (p2, .cells #[pt pw] 123) :: (r, o') :: (H ++ (Ha ++ (pb, Obj.cells (x.flatMap encI).toArray 3) :: Hb))) hrs hrp (fun w hw => hw) fun w hw => ?_
          exact ⟨(o', cv, (fun b => u4.heap.size ≤ b, u5) :: rs, (x, endV k x)), ⟨hst.symm, ho', _, .head _, fun b hb => Nat.le_trans hu4.b0le hb, hcv⟩, fun _ h => .tail _ h, hw⟩
      · rw [bestStep, if_neg h1] at hst
        have hneg : ¬ bn < 0 := by omega
        have hlt : ¬ endV k x < bn := by omega
        repeat' (first | apply s_ | ((first | apply JO_ob | apply GD_ex | apply GL_ex); exact rfl; first | exact ob1) | ((first | apply b_ | apply a_ | apply i_); exact z_; intro _) | ((first | apply p_ | apply JO_yes | apply GC_t); exact z_) | (apply n_; exact z_) | (apply GC_f; exact z_) | (apply GX_block_on; exact z_) | refine GC_drawB (id := 7) [0] [1] [2, 3] _ (by kernel_rfl) (List.Sublist.refl _) ?_ | ((first | apply GD_at | apply GL_at | apply GD_no | apply GL_no); exact rfl) | apply DFin_0 | (apply q1_; exact z_) | (apply q0_; exact z_) | (apply q2_; exact z_))
        refine GX_round (H' := dOpen dd :: (p5, .cells #[.int .i64 bn] 3) :: (p4, .cells #[pv] 33) :: (p2, .cells #[pt pw] 123) :: (r, o') :: (H ++ (Ha ++ (pb, Obj.cells (x.flatMap encI).toArray 3) :: Hb))) hrs hrp (fun w hw => hw) fun w hw => ?_
        exact ⟨(o', pv, rs, (bl, bn)), ⟨hst.symm, ho', q, hq, hqn, hqa⟩, fun _ h => h, hw⟩
  · rintro dd ⟨oh, pv, rs, bl, bn⟩ ⟨hbst, hoh, q, hq, hqn, hqa⟩
    simp only at hbst hoh hq hqn hqa ⊢
    have ipv := hqa.v1
    repeat' (first | apply s_ | (apply JO_ob; exact rfl; first | exact ob1) | ((first | apply b_ | apply a_ | apply i_); exact z_; intro _) | ((first | apply p_ | apply JO_yes | apply GC_t); exact z_) | (apply n_; exact z_) | (apply GC_f; exact z_) | (apply GX_block_on; exact z_) | (apply c_; exact z_; all_goals intro _))
    refine GC_drawB (id := 7) [0] [1] [2, 3] [(p5, .cells #[.int .i64 bn] 3)] (by kernel_rfl) sub_ ?_
    repeat' (first | apply s_ | ((first | apply JO_ob | apply GD_ex | apply GL_ex); exact rfl; first | exact ob1) | ((first | apply b_ | apply a_ | apply i_); exact z_; intro _) | ((first | apply p_ | apply JO_yes | apply GC_t); exact z_) | (apply n_; exact z_) | (apply GC_f; exact z_) | (apply GX_block_on; exact z_) | refine GC_drawB (id := 7) [0] [1] [2, 3] _ (by kernel_rfl) (List.Sublist.refl _) ?_ | ((first | apply GD_at | apply GL_at | apply GD_no | apply GL_no); exact rfl) | apply DFin_0 | (apply q1_; exact z_) | (apply q0_; exact z_) | (apply q2_; exact z_) | (apply c_; exact z_; all_goals intro _) | (apply g_; exact z_; all_goals intro _))
    have e : bestL k n = (bl, bn) := by rw [bestL, ← hfs]; exact hbst.symm
    rw [e]
    refine GX_retM1 0 rfl (GX_retcc rfl rfl rfl (.tail _ (.tail _ (.head _))) (.tail _ (.head _)) fun w' hw' => ⟨(oh, pv, q.1, q.2), ⟨⟨rfl, hoh⟩, hqn, hqa⟩, fun _ h => .tail _ h, hw'.weak (fun p hp => ?_) (List.Sublist.cons _ (List.Sublist.cons _ (List.Sublist.cons _ (List.Sublist.cons _ (List.Sublist.refl _)))))⟩)
    rcases List.mem_cons.1 hp with rfl | hp
    · exact List.mem_append_left _ hq
    · exact hbs hp
end
end Go.Proofs.YtkbaaikidhbfmaaGreat
/- Contracts: the program's Best and More. No statement is proved here. -/
set_option linter.unusedVariables false
set_option linter.unusedSimpArgs false
namespace Go.Proofs.YtkbaaikidhbfmaaGreat
open Go.RowKit
section
variable {w : World} {a b c d e f : Value} {hs : List Value} {k : Wk}
/-- What Best says. -/
def bestV (k : Wk) : List Int × Int := if fault9 k ≠ 0 then ([], 0) else bestL k k.boxes
theorem c54 (h : WkA All w a b c hs d e f k) : Rt 54 [wkV a b c d e f k] w fun v w' => Keep w w' ∧ ∃ pv, v = .tuple #[pv, .int .i64 (bestV k).2, .int .i64 (fault9 k)] ∧ Arr (New w) w' 1 encI pv (bestV k).1 := by
  have i1 := h.yard.fields.v1
  have i2 := h.yard.vats.arr.v1
  have i3 := h.yard.smps.v1
  have i4 := h.beat.vats.v1
  have i5 := h.beat.smps.v1
  have i6 := h.ends.v1
  refine Rt_of Tryz.func54 rfl Tryz.ntmps54 rfl ?_
  repeat' (first | apply s_ | (apply JO_ob; exact rfl; first | exact ob1) | ((first | apply b_ | apply a_ | apply i_); exact z_; intro _) | ((first | apply p_ | apply JO_yes | apply GC_t); exact z_) | (apply n_; exact z_) | (apply GC_f; exact z_) | (apply GX_block_on; exact z_) | (apply c_; exact z_; all_goals intro _))
  rename_i p1
  refine JO_asked (hs := hs) rfl rfl (.head _) h (fun hf => ?_) (fun hf hq => by cases hq) (fun hf hq pw tv r rows u0 u1 hb0 hpr hpw hT hMT => ?_)
  · repeat' (first | apply s_ | (apply JO_ob; exact rfl; first | exact ob1) | ((first | apply b_ | apply a_ | apply i_); exact z_; intro _) | ((first | apply p_ | apply JO_yes | apply GC_t); exact z_) | (apply n_; exact z_) | (apply GC_f; exact z_) | (apply GX_block_on; exact z_) | (apply c_; exact z_; all_goals intro _))
    exact GX_ret (rs := [.tmp 2, .tmp 3, .tmp 4]) (vs := [.slice none 0 0, .int .i64 0, .int .i64 (fault9 k)]) rfl fun w' hw' => ⟨⟨rfl, rfl, rfl, trivial⟩, hw'.kp mem_, _, by rw [bestV, if_pos hf]; rfl, by rw [bestV, if_pos hf]; exact arr_nil fun _ => rfl⟩
  · have hK := okK_of hf
    have hbx := hK.boxes
    have iT := hT.v1
    have n0 : ¬ (fault9 k ≠ 0) := fun h => h hf
    have eb : bestV k = bestL k k.boxes := by rw [bestV, if_neg n0]
    rw [eb, hf]
    repeat' (first | apply s_ | (apply JO_ob; exact rfl; first | exact ob1 | exact Ob_indexa rfl rfl (by omega) | exact Ob_load_a rfl mem_ (by omega) | exact Ob_sliceA rfl) | (apply pA_; exact zA_) | ((first | apply b_ | apply a_ | apply i_); exact z_; intro _) | ((first | apply p_ | apply JO_yes | apply GC_t); exact z_) | (apply n_; exact z_) | (apply GC_f; exact z_) | (apply GX_block_on; exact z_) | (apply c_; exact z_; all_goals intro _))
    refine JO_callS (β := Obj × Value × (Nat → Prop) × World) (S := fun s v => (v = .tuple #[s.2.1, .int .i64 (bestL k k.boxes).2] ∧ HrsOK k.force s.1) ∧ (∀ b, s.2.2.1 b → w.heap.size ≤ b) ∧ Arr s.2.2.1 s.2.2.2 1 encI s.2.1 (bestL k k.boxes).1)
      (R' := fun s => [(s.2.2.1, s.2.2.2), (fun b => u0.heap.size ≤ b ∧ b ≠ r, u1), ((fun _ => True), w)]) (H' := fun s => (r, s.1) :: [(p1, .cells (wkC a b c d e f k).toArray 52)]) rfl rfl (fun w5 hw5 => ?_) ?_
    · exact c109 (.tail _ (.head _)) h hK (.head _) hpr hpw (.head _) hT hMT k.boxes (by omega) _ _ w5 hw5 (HrsOK.empty _)
    · rintro ⟨o', pv, G', w9⟩ u ⟨⟨rfl, g1⟩, g2, g3⟩
      simp only at g1 g2 g3 ⊢
      have ipv := g3.v1
      repeat' (first | apply s_ | (apply JO_ob; exact rfl; first | exact ob1 | exact Ob_indexa rfl rfl (by omega) | exact Ob_load_a rfl mem_ (by omega) | exact Ob_sliceA rfl) | (apply pA_; exact zA_) | ((first | apply b_ | apply a_ | apply i_); exact z_; intro _) | ((first | apply p_ | apply JO_yes | apply GC_t); exact z_) | (apply n_; exact z_) | (apply GC_f; exact z_) | (apply GX_block_on; exact z_) | (apply c_; exact z_; all_goals intro _))
      exact GX_ret (rs := [.tmp 2, .tmp 3, .tmp 4]) (vs := [pv, .int .i64 (bestL k k.boxes).2, .int .i64 0]) rfl fun w' hw' => ⟨⟨rfl, rfl, rfl, trivial⟩, hw'.kp mem_, _, rfl, (hw'.arr (.head _) g3).weaken fun b hb _ => g2 b hb⟩
/-- What More says. -/
def moreV (k : Wk) : Int × Int := if fault9 k ≠ 0 then (0, fault9 k) else if k.boxes < 3 then ((bestL k k.boxes).2 - (bestL k (k.boxes + 1)).2, 0) else (0, 2)
set_option maxHeartbeats 1000000 in
theorem c55 (h : WkA All w a b c hs d e f k) : Ex 55 [wkV a b c d e f k] w (.tuple #[.int .i64 (moreV k).1, .int .i64 (moreV k).2]) := by
  have i1 := h.yard.fields.v1
  have i2 := h.yard.vats.arr.v1
  have i3 := h.yard.smps.v1
  have i4 := h.beat.vats.v1
  have i5 := h.beat.smps.v1
  have i6 := h.ends.v1
  refine Rt_of Tryz.func55 rfl Tryz.ntmps55 rfl ?_
  repeat' (first | apply s_ | (apply JO_ob; exact rfl; first | exact ob1) | ((first | apply b_ | apply a_ | apply i_); exact z_; intro _) | ((first | apply p_ | apply JO_yes | apply GC_t); exact z_) | (apply n_; exact z_) | (apply GC_f; exact z_) | (apply GX_block_on; exact z_))
  rename_i p1
  refine JO_cmp rfl rfl rfl rfl (fun hlt => ?_) (fun hlt => ?_)
  all_goals
    repeat' (first | apply s_ | (apply JO_ob; exact rfl; first | exact ob1) | ((first | apply b_ | apply a_ | apply i_); exact z_; intro _) | ((first | apply p_ | apply JO_yes | apply GC_t); exact z_) | (apply n_; exact z_) | (apply GC_f; exact z_) | (apply GX_block_on; exact z_))
    refine JO_asked (hs := hs) rfl rfl (.head _) h (fun hf => ?_) (fun hf hq => ?_) (fun hf hq pw tv r rows u0 u1 hb0 hpr hpw hT hMT => ?_)
  · have e : moreV k = (0, fault9 k) := by rw [moreV, if_pos hf]
    rw [e]
    repeat' (first | apply s_ | (apply JO_ob; exact rfl; first | exact ob1) | ((first | apply b_ | apply a_ | apply i_); exact z_; intro _) | ((first | apply p_ | apply JO_yes | apply GC_t); exact z_) | (apply n_; exact z_) | (apply GC_f; exact z_) | (apply GX_block_on; exact z_))
    exact GX_ret2 rfl rfl rfl fun w' hw' => ⟨rfl, hw'.kp mem_⟩
  · cases hq
  · have hK := okK_of hf
    have hbx := hK.boxes
    have iT := hT.v1
    have n0 : ¬ (fault9 k ≠ 0) := fun h => h hf
    have eb : moreV k = ((bestL k k.boxes).2 - (bestL k (k.boxes + 1)).2, 0) := by rw [moreV, if_neg n0, if_pos hlt]
    have b1 := bestF_bd hK (lex (List.replicate k.yard.vats.length (0, k.boxes - 1))) ([], -1) (by simp)
    have b2 := bestF_bd hK (lex (List.replicate k.yard.vats.length (0, k.boxes + 1 - 1))) ([], -1) (by simp)
    have b3 : -1 ≤ (bestL k k.boxes).2 ∧ (bestL k k.boxes).2 ≤ 2703 := b1
    have b4 : -1 ≤ (bestL k (k.boxes + 1)).2 ∧ (bestL k (k.boxes + 1)).2 ≤ 2703 := b2
    clear b1 b2
    rw [eb]
    repeat' (first | apply s_ | (apply JO_ob; exact rfl; first | exact ob1 | exact Ob_indexa rfl rfl (by omega) | exact Ob_load_a rfl mem_ (by omega) | exact Ob_sliceA rfl) | (apply pA_; exact zA_) | ((first | apply b_ | apply a_ | apply i_); exact z_; intro _) | ((first | apply p_ | apply JO_yes | apply GC_t); exact z_) | (apply n_; exact z_) | (apply GC_f; exact z_) | (apply GX_block_on; exact z_) | (apply c_; exact z_; all_goals intro _))
    refine JO_callS (β := Obj × Value × (Nat → Prop) × World) (S := fun s v => (v = .tuple #[s.2.1, .int .i64 (bestL k k.boxes).2] ∧ HrsOK k.force s.1) ∧ (∀ b, s.2.2.1 b → w.heap.size ≤ b) ∧ Arr s.2.2.1 s.2.2.2 1 encI s.2.1 (bestL k k.boxes).1)
      (R' := fun s => [(s.2.2.1, s.2.2.2), (fun b => u0.heap.size ≤ b ∧ b ≠ r, u1), ((fun _ => True), w)]) (H' := fun s => (r, s.1) :: [(p1, .cells (wkC a b c d e f k).toArray 52)]) rfl rfl (fun w5 hw5 => ?_) ?_
    · exact c109 (.tail _ (.head _)) h hK (.head _) hpr hpw (.head _) hT hMT k.boxes (by omega) _ _ w5 hw5 (HrsOK.empty _)
    · rintro ⟨o', pv, G', w9⟩ u ⟨⟨rfl, g1⟩, g2, g3⟩
      simp only at g1 g2 g3 ⊢
      have ipv := g3.v1
      repeat' (first | apply s_ | (apply JO_ob; exact rfl; first | exact ob1 | exact Ob_indexa rfl rfl (by omega) | exact Ob_load_a rfl mem_ (by omega) | exact Ob_sliceA rfl) | (apply pA_; exact zA_) | ((first | apply b_ | apply a_ | apply i_); exact z_; intro _) | ((first | apply p_ | apply JO_yes | apply GC_t); exact z_) | (apply n_; exact z_) | (apply GC_f; exact z_) | (apply GX_block_on; exact z_) | (apply c_; exact z_; all_goals intro _))
      refine JO_callS (β := Obj × Value × (Nat → Prop) × World) (S := fun s v => (v = .tuple #[s.2.1, .int .i64 (bestL k (k.boxes + 1)).2] ∧ HrsOK k.force s.1) ∧ (∀ b, s.2.2.1 b → w.heap.size ≤ b) ∧ Arr s.2.2.1 s.2.2.2 1 encI s.2.1 (bestL k (k.boxes + 1)).1)
        (R' := fun s => [(s.2.2.1, s.2.2.2), (G', w9), (fun b => u0.heap.size ≤ b ∧ b ≠ r, u1), ((fun _ => True), w)]) (H' := fun s => (r, s.1) :: [(p1, .cells (wkC a b c d e f k).toArray 52)]) rfl rfl (fun w5 hw5 => ?_) ?_
      · exact c109 (.tail _ (.tail _ (.head _))) h hK (.tail _ (.head _)) hpr hpw (.tail _ (.head _)) hT hMT (k.boxes + 1) (by omega) _ _ w5 hw5 g1
      · rintro ⟨o2, pv2, G2, w10⟩ u ⟨⟨rfl, q1⟩, q2, q3⟩
        simp only at q1 q2 q3 ⊢
        have ipv2 := q3.v1
        repeat' (first | apply s_ | (apply JO_ob; exact rfl; first | exact ob1 | exact Ob_indexa rfl rfl (by omega) | exact Ob_load_a rfl mem_ (by omega) | exact Ob_sliceA rfl) | (apply pA_; exact zA_) | ((first | apply b_ | apply a_ | apply i_); exact z_; intro _) | ((first | apply p_ | apply JO_yes | apply GC_t); exact z_) | (apply n_; exact z_) | (apply GC_f; exact z_) | (apply GX_block_on; exact z_) | (apply c_; exact z_; all_goals intro _))
        exact GX_ret2 rfl rfl rfl fun w' hw' => ⟨rfl, hw'.kp mem_⟩
  · have e : moreV k = (0, fault9 k) := by rw [moreV, if_pos hf]
    rw [e]
    repeat' (first | apply s_ | (apply JO_ob; exact rfl; first | exact ob1) | ((first | apply b_ | apply a_ | apply i_); exact z_; intro _) | ((first | apply p_ | apply JO_yes | apply GC_t); exact z_) | (apply n_; exact z_) | (apply GC_f; exact z_) | (apply GX_block_on; exact z_))
    exact GX_ret2 rfl rfl rfl fun w' hw' => ⟨rfl, hw'.kp mem_⟩
  · have n0 : ¬ (fault9 k ≠ 0) := fun h => h hf
    have e : moreV k = (0, 2) := by rw [moreV, if_neg n0, if_neg hlt]
    rw [e]
    repeat' (first | apply s_ | (apply JO_ob; exact rfl; first | exact ob1) | ((first | apply b_ | apply a_ | apply i_); exact z_; intro _) | ((first | apply p_ | apply JO_yes | apply GC_t); exact z_) | (apply n_; exact z_) | (apply GC_f; exact z_) | (apply GX_block_on; exact z_))
    exact GX_ret2 rfl rfl rfl fun w' hw' => ⟨rfl, hw'.kp mem_⟩
  · cases hq
end
end Go.Proofs.YtkbaaikidhbfmaaGreat
/- Contracts: the program's wise endings. No statement is proved here. -/
set_option linter.unusedVariables false
set_option linter.unusedSimpArgs false
namespace Go.Proofs.YtkbaaikidhbfmaaGreat
open Go.RowKit
section
variable {n : Nat} {ρ : Option Nat} {D : List Deferred} {Q Q' : Post} {b0 : World} {R : Rgs} {H : Hp} {fr : Slots}
/-- What comes after a piece of code whose operations may stand in any order is walked but once. -/
theorem GC_mid {c y : Code} {α : Type} (F : α → Slots) (Rf : α → Rgs) (Hf : α → Hp) (I : α → Prop) (hc : GC ρ n D (Exit.then (Lp n D b0 (fun _ => 0) F Rf Hf I 1) Q') b0 R H c fr) (hrest : ∀ a, I a → GC ρ n D Q b0 (Rf a) (Hf a) y (F a)) :
    GC ρ n D (Exit.then (fun a w => y.wpIn (FW ρ) 0 P Q a w) Q') b0 R H c fr := GC.mk fun w hw A hA =>
  wpIn_mono (hc.use w hw A hA) fun e a w hq => by
    cases e with
    | normal =>
      obtain ⟨a', _, ⟨hr, hd⟩, hi, hs⟩ := hq
      obtain ⟨tm, df⟩ := a
      simp only at hr hd
      subst hd
      exact (hrest a' hi).use w hs _ hr
    | _ => exact hq
end
/-- A list that becomes another one, from its front. -/
def mixL (n : Nat) (f g : Nat → Int) (i : Nat) : List Int := (List.range n).map fun j => if j < i then f j else g j
theorem mixL_len (n : Nat) (f g : Nat → Int) (i : Nat) : (mixL n f g i).length = n := by simp [mixL]
theorem mixL_nth {n i j : Nat} (f g : Nat → Int) (h : j < n) : nth (mixL n f g i) j = if j < i then f j else g j := by simp [mixL, nth, h]
theorem mixL_get {n i : Nat} (f g : Nat → Int) (h : i < n) : (mixL n f g i)[i]? = some (g i) := by simp [mixL, h]
theorem mixL_get0 {n i : Nat} (f g : Nat → Int) (h : i < n) : (mixL n f g 0)[i]? = some (g i) := by simp [mixL, h]
theorem mixL_set {n i : Nat} (f g : Nat → Int) (h : i < n) : (mixL n f g i).set i (f i) = mixL n f g (i + 1) := by
  refine List.ext_getElem (by simp [mixL]) fun j h1 h2 => ?_
  simp only [mixL, List.getElem_set, List.getElem_map, List.getElem_range]
  by_cases e : i = j
  · subst e; simp
  · by_cases e2 : j < i
    · simp [e, e2, show j < i + 1 by omega]
    · simp [e, e2, show ¬ j < i + 1 by omega]
theorem mixL_keep {n i : Nat} (f g : Nat → Int) (h : f i = g i) : mixL n f g (i + 1) = mixL n f g i := by
  refine List.ext_getElem (by simp [mixL]) fun j h1 h2 => ?_
  simp only [mixL, List.getElem_map, List.getElem_range]
  by_cases e : j = i
  · subst e; simp [h]
  · by_cases e2 : j < i
    · simp [e2, show j < i + 1 by omega]
    · simp [e2, show ¬ j < i + 1 by omega]
theorem mixL_done (n : Nat) (f g g' : Nat → Int) : mixL n f g n = mixL n g' f 0 := by
  refine List.ext_getElem (by simp [mixL]) fun j h1 h2 => ?_
  have hj : j < n := by simpa [mixL] using h1
  simp [mixL, hj]
theorem mixL_zero (n : Nat) (f : Nat → Int) : List.replicate n (0 : Int) = mixL n f (fun _ => 0) 0 := by
  refine List.ext_getElem (by simp [mixL]) fun j h1 h2 => ?_
  simp [mixL]
/-- The worst of the losses of vat i. -/
def worstAt (rows : List (List Int)) (i : Nat) : Int := rows.foldl (fun x t => max x (nth t i)) 0
theorem worstAt_snoc {rows : List (List Int)} {q : Nat} (h : q < rows.length) (i : Nat) : worstAt (rows.take (q + 1)) i = max (worstAt (rows.take q) i) (nth (nth rows q) i) := by
  rw [worstAt, take_snoc h, List.foldl_append]; rfl
theorem worstAt_bd {B : Int} (hB : 0 ≤ B) (i : Nat) : ∀ (rows : List (List Int)) (x : Int), 0 ≤ x ∧ x ≤ B → (∀ t ∈ rows, nth t i ≤ B) → 0 ≤ rows.foldl (fun x t => max x (nth t i)) x ∧ rows.foldl (fun x t => max x (nth t i)) x ≤ B
  | [], x, hx, _ => hx
  | t :: rows, x, hx, h => by
    have := h t (List.mem_cons_self ..)
    exact worstAt_bd hB i rows (max x (nth t i)) (by omega) fun t ht => h t (List.mem_cons_of_mem _ ht)
/-- All losses where each vat is out at hour m. -/
def lossM (k : Wk) (m : Nat) : List (List Int) := (truthsW k.beat).map fun l => lossRow k.beat (toC l) (List.replicate k.yard.vats.length (m : Int))
/-- What is left of vat i's least mud above its worst loss. -/
def overI (k : Wk) (m i : Nat) : Int := max 0 ((nth (bnds k.yard.vats.length (dots k.yard (truthsX k.yard))) i).1 - worstAt (lossM k m) i)
/-- The wise hour of vat i among the first n, and what is left then. -/
def wiseU (k : Wk) (i n : Nat) : Int × Int := (List.range n).foldl (fun s m => if m = 0 ∨ s.2 < overI k m i then ((m : Int), overI k m i) else s) (0, 0)
theorem wiseU_succ (k : Wk) (i n : Nat) : wiseU k i (n + 1) = if n = 0 ∨ (wiseU k i n).2 < overI k n i then ((n : Int), overI k n i) else wiseU k i n := by
  rw [wiseU, List.range_succ, List.foldl_append]; rfl
def wiseV (k : Wk) : List Int := (List.range k.yard.vats.length).map fun i => (wiseU k i (k.beat.last + 1).toNat).1
section
variable {w : World} {a b c d e f : Value} {hs : List Value} {k : Wk}
set_option maxHeartbeats 4000000 in
theorem c39 (h : WkA All w a b c hs d e f k) : Rt 39 [wkV a b c d e f k] w fun v w' => Keep w w' ∧ ∃ pv, v = .tuple #[pv, .int .i64 (fault9 k)] ∧ Arr (New w) w' 1 encI pv (if fault9 k ≠ 0 then [] else wiseV k) := by
  have i1 := h.yard.fields.v1
  have i2 := h.yard.vats.arr.v1
  have i3 := h.yard.smps.v1
  have i4 := h.beat.vats.v1
  have i5 := h.beat.smps.v1
  have i6 := h.ends.v1
  refine Rt_of Tryz.func39 rfl Tryz.ntmps39 rfl ?_
  by_cases hf : fault9 k ≠ 0
  · rw [if_pos hf]
    repeat' (first | apply s_ | ((first | apply JO_ob | apply GD_ex | apply GL_ex); exact rfl; first | exact ob1 | exact Ob_call rfl (fun w5 hw5 => c25 (hw5.wk mem_ h))) | ((first | apply b_ | apply a_ | apply i_); exact z_; intro _) | ((first | apply p_ | apply JO_yes | apply GC_t); exact z_) | (apply n_; exact z_) | (apply GC_f; exact z_) | (apply GX_block_on; exact z_) | refine GC_drawB (id := 5) [0, 1] [3, 4] [2, 5, 6, 7] _ (by kernel_rfl) (List.Sublist.refl _) ?_ | refine GC_drawB (id := 10) [1] [0, 3, 4, 8] [2, 5, 6, 7] _ (by kernel_rfl) (List.Sublist.refl _) ?_ | refine GC_drawA (id := 22) [0, 1, 2, 3, 4, 5, 6, 7, 8, 9, 10, 11] [] (by kernel_rfl) ?_ | ((first | apply GD_at | apply GL_at | apply GD_no | apply GL_no); exact rfl) | apply DFin_0 | (apply q1_; exact z_) | (apply q0_; exact z_) | (apply q2_; exact z_))
    exact GX_ret2 rfl rfl rfl fun w' hw' => ⟨hw'.kp mem_, _, rfl, arr_nil fun _ => rfl⟩
  · rw [if_neg hf]
    have hf0 : fault9 k = 0 := by omega
    have hK := okK_of hf0
    have v3 := hK.v3
    have hbl : 0 ≤ k.beat.last ∧ k.beat.last ≤ 9 := hK.b.l
    repeat' (first | apply s_ | ((first | apply JO_ob | apply GD_ex | apply GL_ex); exact rfl; first | exact ob1 | exact Ob_call rfl (fun w5 hw5 => c25 (hw5.wk mem_ h))) | ((first | apply b_ | apply a_ | apply i_); exact z_; intro _) | ((first | apply p_ | apply JO_yes | apply GC_t); exact z_) | (apply n_; exact z_) | (apply GC_f; exact z_) | (apply GX_block_on; exact z_) | refine GC_drawB (id := 5) [0, 1] [3, 4] [2, 5, 6, 7] _ (by kernel_rfl) (List.Sublist.refl _) ?_ | refine GC_drawB (id := 10) [1] [0, 3, 4, 8] [2, 5, 6, 7] _ (by kernel_rfl) (List.Sublist.refl _) ?_ | refine GC_drawA (id := 22) [0, 1, 2, 3, 4, 5, 6, 7, 8, 9, 10, 11] [] (by kernel_rfl) ?_ | ((first | apply GD_at | apply GL_at | apply GD_no | apply GL_no); exact rfl) | apply DFin_0 | (apply q1_; exact z_) | (apply q0_; exact z_) | (apply q2_; exact z_))
    rename_i p1
    let n := k.yard.vats.length
    have hnl : k.beat.vats.length = n := hK.len
    have hae : ∀ m : Nat, m < (k.beat.last + 1).toNat → areEnd k.beat (List.replicate n (m : Int)) = true := fun m hm => by
      simp only [areEnd, Bool.and_eq_true, decide_eq_true_eq, List.all_eq_true, List.length_replicate]
      refine ⟨fun x hx => ?_, hnl.symm⟩
      have := List.eq_of_mem_replicate hx
      omega
    have hlb : ∀ m : Nat, m < (k.beat.last + 1).toNat → ∀ t ∈ lossM k m, ∀ i, i < n → 0 ≤ nth t i ∧ nth t i ≤ 400 := fun m hm t ht i hi => by
      simp only [lossM, List.mem_map] at ht
      obtain ⟨l, hl, rfl⟩ := ht
      have := loss_bd hK.b (InC_of (mem_lex.1 (List.mem_filter.1 hl).1)) (hae m hm) (q := i) (by omega)
      exact ⟨this.2.1, this.2.2⟩
    have hlo : ∀ i, i < n → 0 ≤ (nth (bnds n (dots k.yard (truthsX k.yard))) i).1 ∧ (nth (bnds n (dots k.yard (truthsX k.yard))) i).1 ≤ 900 := fun i hi => by
      have hd := dots_bd hK.y (truthsX_ok hK.y.f) hi
      have he := hull_ends (l := dots k.yard (truthsX k.yard) i) (by simpa [dots] using hK.t1) (fun x hx => by have := hd x hx; omega)
      rw [bnds_nth hi]; exact hd _ he.1
    refine JO_call (S := fun w0 v w' => ∃ u, v = .tuple #[u, .int .i64 0] ∧ Arr (New w0) w' 2 encR u (bnds n (dots k.yard (truthsX k.yard)))) rfl rfl (fun w5 hw5 => (c46 w5 a b c hs k.yard (hw5.yd mem_ h.yard)).mono ?_) ?_
    · rintro v w6 ⟨kp, h1 | h1 | h1⟩
      · exact absurd hK.f1 h1.1
      · exact absurd h1.2.1 hK.t1
      · exact ⟨kp, h1.2.2⟩
    rintro _ u0 u1 hu0 hu1 hk01 ⟨u, rfl, hu⟩
    have iu := hu.v1
    repeat' (first | apply s_ | (apply JO_ob; exact rfl; first | exact ob1) | ((first | apply b_ | apply a_ | apply i_); exact z_; intro _) | ((first | apply p_ | apply JO_yes | apply GC_t); exact z_) | (apply n_; exact z_) | (apply GC_f; exact z_) | (apply GX_block_on; exact z_))
    refine GC_mid (α := Nat × Nat) (fun s => [(1, pt p1), (5, u), (7, .slice (some ⟨s.1, 0, none⟩) n n), (8, .slice (some ⟨s.2, 0, none⟩) n n)]) (fun _ => [((fun b => u0.heap.size ≤ b), u1), ((fun _ => True), w)])
      (fun s => [(s.1, .cells ((List.replicate n (0 : Int)).flatMap encI).toArray 3), (s.2, .cells ((List.replicate n (0 : Int)).flatMap encI).toArray 3), (p1, .cells (wkC a b c d e f k).toArray 52)]) (fun _ => True) ?_ ?_
    · refine GC_drawB (id := 5) [0, 1] [3, 4] [2, 5, 6, 7] [(p1, .cells (wkC a b c d e f k).toArray 52)] (by kernel_rfl) sub_ ?_
      repeat' (first | apply s_ | ((first | apply JO_ob | apply GD_ex | apply GL_ex); exact rfl; first | exact ob1 | exact Ob_call rfl (fun w5 hw5 => c75w (hw5.wk mem_ h))) | ((first | apply b_ | apply a_ | apply i_); exact z_; intro _) | ((first | apply p_ | apply JO_yes | apply GC_t); exact z_) | (apply n_; exact z_) | (apply GC_f; exact z_) | (apply GX_block_on; exact z_) | refine GC_drawB (id := 5) [0, 1] [3, 4] [2, 5, 6, 7] _ (by kernel_rfl) (List.Sublist.refl _) ?_ | refine GC_drawB (id := 10) [1] [0, 3, 4, 8] [2, 5, 6, 7] _ (by kernel_rfl) (List.Sublist.refl _) ?_ | refine GC_drawA (id := 22) [0, 1, 2, 3, 4, 5, 6, 7, 8, 9, 10, 11] [] (by kernel_rfl) ?_ | ((first | apply GD_at | apply GL_at | apply GD_no | apply GL_no); exact rfl) | apply DFin_0 | (apply q1_; exact z_) | (apply q0_; exact z_) | (apply q2_; exact z_))
      all_goals refine JO_make (m := n) (x0 := (0 : Int)) (enc := encI) rfl rfl rfl (fun _ => rfl) rfl (by decide) (by omega) (by omega) ?_
      · intro bo hbo
        repeat' (first | apply s_ | ((first | apply JO_ob | apply GD_ex | apply GL_ex); exact rfl; first | exact ob1 | exact Ob_call rfl (fun w5 hw5 => c75w (hw5.wk mem_ h))) | ((first | apply b_ | apply a_ | apply i_); exact z_; intro _) | ((first | apply p_ | apply JO_yes | apply GC_t); exact z_) | (apply n_; exact z_) | (apply GC_f; exact z_) | (apply GX_block_on; exact z_) | refine GC_drawB (id := 5) [0, 1] [3, 4] [2, 5, 6, 7] _ (by kernel_rfl) (List.Sublist.refl _) ?_ | refine GC_drawB (id := 10) [1] [0, 3, 4, 8] [2, 5, 6, 7] _ (by kernel_rfl) (List.Sublist.refl _) ?_ | refine GC_drawA (id := 22) [0, 1, 2, 3, 4, 5, 6, 7, 8, 9, 10, 11] [] (by kernel_rfl) ?_ | ((first | apply GD_at | apply GL_at | apply GD_no | apply GL_no); exact rfl) | apply DFin_0 | (apply q1_; exact z_) | (apply q0_; exact z_) | (apply q2_; exact z_))
        all_goals refine JO_make (m := n) (x0 := (0 : Int)) (enc := encI) rfl rfl rfl (fun _ => rfl) rfl (by decide) (by omega) (by omega) ?_
        all_goals
          intro bm hbm
          repeat' (first | apply s_ | ((first | apply JO_ob | apply GD_ex | apply GL_ex); exact rfl; first | exact ob1 | exact Ob_call rfl (fun w5 hw5 => c75w (hw5.wk mem_ h))) | ((first | apply b_ | apply a_ | apply i_); exact z_; intro _) | ((first | apply p_ | apply JO_yes | apply GC_t); exact z_) | (apply n_; exact z_) | (apply GC_f; exact z_) | (apply GX_block_on; exact z_) | refine GC_drawB (id := 5) [0, 1] [3, 4] [2, 5, 6, 7] _ (by kernel_rfl) (List.Sublist.refl _) ?_ | refine GC_drawB (id := 10) [1] [0, 3, 4, 8] [2, 5, 6, 7] _ (by kernel_rfl) (List.Sublist.refl _) ?_ | refine GC_drawA (id := 22) [0, 1, 2, 3, 4, 5, 6, 7, 8, 9, 10, 11] [] (by kernel_rfl) ?_ | ((first | apply GD_at | apply GL_at | apply GD_no | apply GL_no); exact rfl) | apply DFin_0 | (apply q1_; exact z_) | (apply q0_; exact z_) | (apply q2_; exact z_))
          refine GX_loop (bo, bm) ⟨rfl, rfl, rfl, rfl, trivial⟩ (by decide) trivial fun w hw => ?_
          exact hw.perm (List.Perm.swap _ _ _)
      · intro bm hbm
        repeat' (first | apply s_ | ((first | apply JO_ob | apply GD_ex | apply GL_ex); exact rfl; first | exact ob1 | exact Ob_call rfl (fun w5 hw5 => c75w (hw5.wk mem_ h))) | ((first | apply b_ | apply a_ | apply i_); exact z_; intro _) | ((first | apply p_ | apply JO_yes | apply GC_t); exact z_) | (apply n_; exact z_) | (apply GC_f; exact z_) | (apply GX_block_on; exact z_) | refine GC_drawB (id := 5) [0, 1] [3, 4] [2, 5, 6, 7] _ (by kernel_rfl) (List.Sublist.refl _) ?_ | refine GC_drawB (id := 10) [1] [0, 3, 4, 8] [2, 5, 6, 7] _ (by kernel_rfl) (List.Sublist.refl _) ?_ | refine GC_drawA (id := 22) [0, 1, 2, 3, 4, 5, 6, 7, 8, 9, 10, 11] [] (by kernel_rfl) ?_ | ((first | apply GD_at | apply GL_at | apply GD_no | apply GL_no); exact rfl) | apply DFin_0 | (apply q1_; exact z_) | (apply q0_; exact z_) | (apply q2_; exact z_))
        refine JO_make (m := n) (x0 := (0 : Int)) (enc := encI) rfl rfl rfl (fun _ => rfl) rfl (by decide) (by omega) (by omega) ?_
        intro bo hbo
        repeat' (first | apply s_ | ((first | apply JO_ob | apply GD_ex | apply GL_ex); exact rfl; first | exact ob1 | exact Ob_call rfl (fun w5 hw5 => c75w (hw5.wk mem_ h))) | ((first | apply b_ | apply a_ | apply i_); exact z_; intro _) | ((first | apply p_ | apply JO_yes | apply GC_t); exact z_) | (apply n_; exact z_) | (apply GC_f; exact z_) | (apply GX_block_on; exact z_) | refine GC_drawB (id := 5) [0, 1] [3, 4] [2, 5, 6, 7] _ (by kernel_rfl) (List.Sublist.refl _) ?_ | refine GC_drawB (id := 10) [1] [0, 3, 4, 8] [2, 5, 6, 7] _ (by kernel_rfl) (List.Sublist.refl _) ?_ | refine GC_drawA (id := 22) [0, 1, 2, 3, 4, 5, 6, 7, 8, 9, 10, 11] [] (by kernel_rfl) ?_ | ((first | apply GD_at | apply GL_at | apply GD_no | apply GL_no); exact rfl) | apply DFin_0 | (apply q1_; exact z_) | (apply q0_; exact z_) | (apply q2_; exact z_))
        exact GX_loop (bo, bm) ⟨rfl, rfl, rfl, rfl, trivial⟩ (by decide) trivial fun w hw => hw
    · rintro ⟨bo, bm⟩ -
      simp only
      repeat' (first | apply s_ | ((first | apply JO_ob | apply GD_ex | apply GL_ex); exact rfl; first | exact ob1) | ((first | apply b_ | apply a_ | apply i_); exact z_; intro _) | ((first | apply p_ | apply JO_yes | apply GC_t); exact z_) | (apply n_; exact z_) | (apply GC_f; exact z_) | (apply GX_block_on; exact z_) | refine GC_drawB (id := 5) [0, 1] [3, 4] [2, 5, 6, 7] _ (by kernel_rfl) (List.Sublist.refl _) ?_ | refine GC_drawB (id := 10) [1] [0, 3, 4, 8] [2, 5, 6, 7] _ (by kernel_rfl) (List.Sublist.refl _) ?_ | refine GC_drawA (id := 22) [0, 1, 2, 3, 4, 5, 6, 7, 8, 9, 10, 11] [] (by kernel_rfl) ?_ | ((first | apply GD_at | apply GL_at | apply GD_no | apply GL_no); exact rfl) | apply DFin_0 | (apply q1_; exact z_) | (apply q0_; exact z_) | (apply q2_; exact z_))
      refine GC_loop (α := Nat) (fun m => (k.beat.last + 1).toNat - m) (fun m => [(1, pt p1), (5, u), (7, .slice (some ⟨bo, 0, none⟩) n n), (8, .slice (some ⟨bm, 0, none⟩) n n), (37, .int .i64 (k.beat.last + 1)), (38, .int .i64 (m : Int))]) (fun _ => [((fun b => u0.heap.size ≤ b), u1), ((fun _ => True), w)])
        (fun m => [(bo, .cells ((mixL n (fun i => (wiseU k i (m + 1)).1) (fun i => (wiseU k i m).1) 0).flatMap encI).toArray 3), (bm, .cells ((mixL n (fun i => (wiseU k i (m + 1)).2) (fun i => (wiseU k i m).2) 0).flatMap encI).toArray 3), (p1, .cells (wkC a b c d e f k).toArray 52)]) (fun m => m ≤ (k.beat.last + 1).toNat) 0 ⟨rfl, rfl, rfl, rfl, rfl, rfl, trivial⟩ (Nat.zero_le _) (fun w hw => ?_) ?_
      · have z1 : List.replicate n (0 : Int) = mixL n (fun i => (wiseU k i (0 + 1)).1) (fun i => (wiseU k i 0).1) 0 := mixL_zero n _
        have z2 : List.replicate n (0 : Int) = mixL n (fun i => (wiseU k i (0 + 1)).2) (fun i => (wiseU k i 0).2) 0 := mixL_zero n _
        rw [← z1, ← z2]
        exact hw
      intro m hm
      by_cases hlt : m < (k.beat.last + 1).toNat
      · repeat' (first | apply s_ | ((first | apply JO_ob | apply GD_ex | apply GL_ex); exact rfl; first | exact ob1 | exact Ob_call rfl (fun w5 hw5 => c75w (hw5.wk mem_ h))) | ((first | apply b_ | apply a_ | apply i_); exact z_; intro _) | ((first | apply p_ | apply JO_yes | apply GC_t); exact z_) | (apply n_; exact z_) | (apply GC_f; exact z_) | (apply GX_block_on; exact z_) | refine GC_drawB (id := 5) [0, 1] [3, 4] [2, 5, 6, 7] _ (by kernel_rfl) (List.Sublist.refl _) ?_ | refine GC_drawB (id := 10) [1] [0, 3, 4, 8] [2, 5, 6, 7] _ (by kernel_rfl) (List.Sublist.refl _) ?_ | refine GC_drawA (id := 22) [0, 1, 2, 3, 4, 5, 6, 7, 8, 9, 10, 11] [] (by kernel_rfl) ?_ | ((first | apply GD_at | apply GL_at | apply GD_no | apply GL_no); exact rfl) | apply DFin_0 | (apply q1_; exact z_) | (apply q0_; exact z_) | (apply q2_; exact z_))
        refine JO_make (m := n) (x0 := (0 : Int)) (enc := encI) rfl rfl rfl (fun _ => rfl) rfl (by decide) (by omega) (by omega) ?_
        intro bw hbw
        repeat' (first | apply s_ | (apply JO_ob; exact rfl; first | exact ob1) | ((first | apply b_ | apply a_ | apply i_); exact z_; intro _) | ((first | apply p_ | apply JO_yes | apply GC_t); exact z_) | (apply n_; exact z_) | (apply GC_f; exact z_) | (apply GX_block_on; exact z_))
        refine GC_drawB (id := 10) [1] [0, 3, 4, 8] [2, 5, 6, 7] [(p1, .cells (wkC a b c d e f k).toArray 52)] (by kernel_rfl) sub_ ?_
        repeat' (first | apply s_ | ((first | apply JO_ob | apply GD_ex | apply GL_ex); exact rfl; first | exact ob1 | exact Ob_call rfl (fun w5 hw5 => c75w (hw5.wk mem_ h))) | ((first | apply b_ | apply a_ | apply i_); exact z_; intro _) | ((first | apply p_ | apply JO_yes | apply GC_t); exact z_) | (apply n_; exact z_) | (apply GC_f; exact z_) | (apply GX_block_on; exact z_) | refine GC_drawB (id := 5) [0, 1] [3, 4] [2, 5, 6, 7] _ (by kernel_rfl) (List.Sublist.refl _) ?_ | refine GC_drawB (id := 10) [1] [0, 3, 4, 8] [2, 5, 6, 7] _ (by kernel_rfl) (List.Sublist.refl _) ?_ | refine GC_drawA (id := 22) [0, 1, 2, 3, 4, 5, 6, 7, 8, 9, 10, 11] [] (by kernel_rfl) ?_ | ((first | apply GD_at | apply GL_at | apply GD_no | apply GL_no); exact rfl) | apply DFin_0 | (apply q1_; exact z_) | (apply q0_; exact z_) | (apply q2_; exact z_))
        refine JO_call (S := fun w0 r w' => Arr (New w0) w' 1 encI r (List.replicate n (m : Int))) rfl rfl (fun w5 hw5 => c93 w5 _ (m : Int) n ((hw5.litArr (enc := encI) (sz := 1) [(m : Int)] (fun _ => rfl) (.head _) rfl rfl rfl rfl).weaken fun _ _ _ => trivial) v3) ?_
        rintro rv u2 u3 hu2 hu3 hk23 hrv
        have irv := hrv.v1
        repeat' (first | apply s_ | ((first | apply JO_ob | apply GD_ex | apply GL_ex); exact rfl; first | exact ob1) | ((first | apply b_ | apply a_ | apply i_); exact z_; intro _) | ((first | apply p_ | apply JO_yes | apply GC_t); exact z_) | (apply n_; exact z_) | (apply GC_f; exact z_) | (apply GX_block_on; exact z_) | refine GC_drawB (id := 5) [0, 1] [3, 4] [2, 5, 6, 7] _ (by kernel_rfl) (List.Sublist.refl _) ?_ | refine GC_drawB (id := 10) [1] [0, 3, 4, 8] [2, 5, 6, 7] _ (by kernel_rfl) (List.Sublist.refl _) ?_ | refine GC_drawA (id := 22) [0, 1, 2, 3, 4, 5, 6, 7, 8, 9, 10, 11] [] (by kernel_rfl) ?_ | ((first | apply GD_at | apply GL_at | apply GD_no | apply GL_no); exact rfl) | apply DFin_0 | (apply q1_; exact z_) | (apply q0_; exact z_) | (apply q2_; exact z_))
        refine JO_call (S := fun w0 r w' => ∃ hs', Nest (New w0) w' r hs' (lossM k m)) rfl rfl (fun w5 hw5 => c92 (hw5.wk mem_ h) ((hw5.arr (.head _) hrv).weaken fun _ _ _ => trivial) hK.f3 (hae m hlt)) ?_
        rintro lv u4 u5 hu4 hu5 hk45 ⟨ls, hN⟩
        have ilv := hN.arr.v1
        have hNa := hN.arr
        have hNl := hN.len
        repeat' (first | apply s_ | ((first | apply JO_ob | apply GD_ex | apply GL_ex); exact rfl; first | exact ob1) | ((first | apply b_ | apply a_ | apply i_); exact z_; intro _) | ((first | apply p_ | apply JO_yes | apply GC_t); exact z_) | (apply n_; exact z_) | (apply GC_f; exact z_) | (apply GX_block_on; exact z_) | refine GC_drawB (id := 5) [0, 1] [3, 4] [2, 5, 6, 7] _ (by kernel_rfl) (List.Sublist.refl _) ?_ | refine GC_drawB (id := 10) [1] [0, 3, 4, 8] [2, 5, 6, 7] _ (by kernel_rfl) (List.Sublist.refl _) ?_ | refine GC_drawA (id := 22) [0, 1, 2, 3, 4, 5, 6, 7, 8, 9, 10, 11] [] (by kernel_rfl) ?_ | ((first | apply GD_at | apply GL_at | apply GD_no | apply GL_no); exact rfl) | apply DFin_0 | (apply q1_; exact z_) | (apply q0_; exact z_) | (apply q2_; exact z_))
        obtain ⟨rows, hrows⟩ : ∃ rows, rows = lossM k m := ⟨_, rfl⟩
        rw [← hrows] at hN hNl
        have hrn : rows.length ≤ 2000 := by rw [hrows]; simp only [lossM, List.length_map, truthsW]; exact Nat.le_trans (List.length_filter_le _ _) (lexB_len _ hK.b hK.m3)
        have hrb : ∀ t ∈ rows, t.length = n ∧ ∀ i, i < n → 0 ≤ nth t i ∧ nth t i ≤ 400 := fun t ht => by
          rw [hrows] at ht
          refine ⟨?_, hlb m hlt t ht⟩
          simp only [lossM, List.mem_map] at ht
          obtain ⟨l, hl, rfl⟩ := ht
          simp [lossRow, hnl]
        have hwb : ∀ q i, i < n → 0 ≤ worstAt (rows.take q) i ∧ worstAt (rows.take q) i ≤ 400 := fun q i hi => worstAt_bd (by omega) i _ 0 (by omega) fun t ht => ((hrb t (List.mem_of_mem_take ht)).2 i hi).2
        let Rg_ : Rgs := [(fun b => u4.heap.size ≤ b, u5), (fun b => u2.heap.size ≤ b, u3), (fun b => u0.heap.size ≤ b, u1), (fun _ => True, w)]
        let Fm : Slots := [(1, pt p1), (5, u), (7, .slice (some ⟨bo, 0, none⟩) n n), (8, .slice (some ⟨bm, 0, none⟩) n n), (9, .int .i64 (m : Int)), (10, .slice (some ⟨bw, 0, none⟩) n n), (37, .int .i64 (k.beat.last + 1)), (38, .int .i64 (m : Int))]
        let Ho : Nat → Nat × Obj := fun i => (bo, .cells ((mixL n (fun i => (wiseU k i (m + 1)).1) (fun i => (wiseU k i m).1) i).flatMap encI).toArray 3)
        let Hm : Nat → Nat × Obj := fun i => (bm, .cells ((mixL n (fun i => (wiseU k i (m + 1)).2) (fun i => (wiseU k i m).2) i).flatMap encI).toArray 3)
        let Hp1 : Nat × Obj := (p1, .cells (wkC a b c d e f k).toArray 52)
        refine GC_loop (α := Nat) (fun q => rows.length - q) (fun q => [(1, pt p1), (5, u), (7, .slice (some ⟨bo, 0, none⟩) n n), (8, .slice (some ⟨bm, 0, none⟩) n n), (9, .int .i64 (m : Int)), (10, .slice (some ⟨bw, 0, none⟩) n n), (37, .int .i64 (k.beat.last + 1)), (38, .int .i64 (m : Int)), (50, lv), (51, .int .i64 (rows.length : Int)), (52, .int .i64 (q : Int))]) (fun _ => Rg_)
          (fun q => [(bw, .cells ((mixL n (worstAt (rows.take (q + 1))) (worstAt (rows.take q)) 0).flatMap encI).toArray 3), Ho 0, Hm 0, Hp1]) (fun q => q ≤ rows.length) 0 ⟨rfl, rfl, rfl, rfl, rfl, rfl, rfl, rfl, rfl, by rw [← hNl]; rfl, rfl, trivial⟩ (Nat.zero_le _) (fun w hw => ?_) ?_
        · have z3 : List.replicate n (0 : Int) = mixL n (worstAt (rows.take (0 + 1))) (worstAt (rows.take 0)) 0 := mixL_zero n _
          rw [← z3]
          exact hw.weak (fun r h => h) (List.Sublist.cons _ (List.Sublist.refl _))
        intro q hq
        by_cases hlq : q < rows.length
        · have gr : Arr (New u4) u5 1 encI (nth ls q) (nth rows q) := hN.row q hlq
          have ir := gr.v1
          have hrq := hrb _ (nth_mem hlq)
          have hrl := hrq.1
          have hlsq : q < ls.length := by omega
          simp only [Ho, Hm, Hp1, Rg_]
          repeat' (first | apply s_ | ((first | apply JO_ob | apply GD_ex | apply GL_ex); exact rfl; first | exact ob1) | ((first | apply b_ | apply a_ | apply i_); exact z_; intro _) | ((first | apply p_ | apply JO_yes | apply GC_t); exact z_) | (apply n_; exact z_) | (apply GC_f; exact z_) | (apply GX_block_on; exact z_) | refine GC_drawB (id := 5) [0, 1] [3, 4] [2, 5, 6, 7] _ (by kernel_rfl) (List.Sublist.refl _) ?_ | refine GC_drawB (id := 10) [1] [0, 3, 4, 8] [2, 5, 6, 7] _ (by kernel_rfl) (List.Sublist.refl _) ?_ | refine GC_drawA (id := 22) [0, 1, 2, 3, 4, 5, 6, 7, 8, 9, 10, 11] [] (by kernel_rfl) ?_ | ((first | apply GD_at | apply GL_at | apply GD_no | apply GL_no); exact rfl) | apply DFin_0 | (apply q1_; exact z_) | (apply q0_; exact z_) | (apply q2_; exact z_))
          refine GC_loop (α := Nat) (fun i => n - i) (fun i => [(1, pt p1), (5, u), (7, .slice (some ⟨bo, 0, none⟩) n n), (8, .slice (some ⟨bm, 0, none⟩) n n), (9, .int .i64 (m : Int)), (10, .slice (some ⟨bw, 0, none⟩) n n), (37, .int .i64 (k.beat.last + 1)), (38, .int .i64 (m : Int)), (50, lv), (51, .int .i64 (rows.length : Int)), (52, .int .i64 (q : Int)), (56, nth ls q), (57, .int .i64 (n : Int)), (58, .int .i64 (i : Int))]) (fun _ => Rg_)
            (fun i => [(bw, .cells ((mixL n (worstAt (rows.take (q + 1))) (worstAt (rows.take q)) i).flatMap encI).toArray 3), Ho 0, Hm 0, Hp1]) (fun i => i ≤ n) 0 ⟨rfl, rfl, rfl, rfl, rfl, rfl, rfl, rfl, rfl, rfl, rfl, rfl, by rw [← hrl]; rfl, rfl, trivial⟩ (Nat.zero_le _) (fun w hw => hw) ?_
          intro i hi
          simp only [Ho, Hm, Hp1, Rg_]
          by_cases hli : i < n
          · have hlr : i < (nth rows q).length := by omega
            repeat' (first | apply s_ | ((first | apply JO_ob | apply GD_ex | apply GL_ex); exact rfl; first | exact ob1 | exact Ob_index_row rfl rfl hli | exact Ob_load_r (enc := encI) (sz := 1) (i := i) (k := 0) (fun _ => rfl) rfl (.head _) (mixL_get _ _ hli) (by decide) rfl) | ((first | apply b_ | apply a_ | apply i_); exact z_; intro _) | ((first | apply p_ | apply JO_yes | apply GC_t); exact z_) | (apply n_; exact z_) | (apply GC_f; exact z_) | (apply GX_block_on; exact z_) | refine GC_drawB (id := 5) [0, 1] [3, 4] [2, 5, 6, 7] _ (by kernel_rfl) (List.Sublist.refl _) ?_ | refine GC_drawB (id := 10) [1] [0, 3, 4, 8] [2, 5, 6, 7] _ (by kernel_rfl) (List.Sublist.refl _) ?_ | refine GC_drawA (id := 22) [0, 1, 2, 3, 4, 5, 6, 7, 8, 9, 10, 11] [] (by kernel_rfl) ?_ | ((first | apply GD_at | apply GL_at | apply GD_no | apply GL_no); exact rfl) | apply DFin_0 | (apply q1_; exact z_) | (apply q0_; exact z_) | (apply q2_; exact z_))
            refine JO_store_r (m := 1) (sz := 1) (k := 0) (enc := encI) (j := 0) (xs := mixL n (worstAt (rows.take (q + 1))) (worstAt (rows.take q)) i) (a := worstAt (rows.take q) i) (a' := worstAt (rows.take (q + 1)) i) (fun _ => rfl) rfl rfl rfl inferInstance rfl (mixL_get _ _ hli) (Nat.le_refl _) (by rw [worstAt_snoc hlq]; rfl) ?_
            rw [mixL_set _ _ hli]
            repeat' (first | apply s_ | ((first | apply JO_ob | apply GD_ex | apply GL_ex); exact rfl; first | exact ob1) | ((first | apply b_ | apply a_ | apply i_); exact z_; intro _) | ((first | apply p_ | apply JO_yes | apply GC_t); exact z_) | (apply n_; exact z_) | (apply GC_f; exact z_) | (apply GX_block_on; exact z_) | refine GC_drawB (id := 5) [0, 1] [3, 4] [2, 5, 6, 7] _ (by kernel_rfl) (List.Sublist.refl _) ?_ | refine GC_drawB (id := 10) [1] [0, 3, 4, 8] [2, 5, 6, 7] _ (by kernel_rfl) (List.Sublist.refl _) ?_ | refine GC_drawA (id := 22) [0, 1, 2, 3, 4, 5, 6, 7, 8, 9, 10, 11] [] (by kernel_rfl) ?_ | ((first | apply GD_at | apply GL_at | apply GD_no | apply GL_no); exact rfl) | apply DFin_0 | (apply q1_; exact z_) | (apply q0_; exact z_) | (apply q2_; exact z_))
            exact GX_loop (i + 1) ⟨rfl, rfl, rfl, rfl, rfl, rfl, rfl, rfl, rfl, rfl, rfl, rfl, rfl, rfl, trivial⟩ (by omega) (by omega) fun w hw => hw
          · have hie : i = n := by omega
            repeat' (first | apply s_ | ((first | apply JO_ob | apply GD_ex | apply GL_ex); exact rfl; first | exact ob1) | ((first | apply b_ | apply a_ | apply i_); exact z_; intro _) | ((first | apply p_ | apply JO_yes | apply GC_t); exact z_) | (apply n_; exact z_) | (apply GC_f; exact z_) | (apply GX_block_on; exact z_) | refine GC_drawB (id := 5) [0, 1] [3, 4] [2, 5, 6, 7] _ (by kernel_rfl) (List.Sublist.refl _) ?_ | refine GC_drawB (id := 10) [1] [0, 3, 4, 8] [2, 5, 6, 7] _ (by kernel_rfl) (List.Sublist.refl _) ?_ | refine GC_drawA (id := 22) [0, 1, 2, 3, 4, 5, 6, 7, 8, 9, 10, 11] [] (by kernel_rfl) ?_ | ((first | apply GD_at | apply GL_at | apply GD_no | apply GL_no); exact rfl) | apply DFin_0 | (apply q1_; exact z_) | (apply q0_; exact z_) | (apply q2_; exact z_))
            refine GX_loop (q + 1) ⟨rfl, rfl, rfl, rfl, rfl, rfl, rfl, rfl, rfl, rfl, rfl, trivial⟩ (by omega) (by omega) fun w hw => ?_
            rw [hie, mixL_done _ _ _ (worstAt (rows.take (q + 1 + 1)))] at hw
            exact hw
        · have hqe : q = rows.length := by omega
          have hqt : rows.take q = rows := by rw [hqe, List.take_length]
          simp only [Ho, Hm, Hp1, Rg_]
          repeat' (first | apply s_ | ((first | apply JO_ob | apply GD_ex | apply GL_ex); exact rfl; first | exact ob1) | ((first | apply b_ | apply a_ | apply i_); exact z_; intro _) | ((first | apply p_ | apply JO_yes | apply GC_t); exact z_) | (apply n_; exact z_) | (apply GC_f; exact z_) | (apply GX_block_on; exact z_) | refine GC_drawB (id := 5) [0, 1] [3, 4] [2, 5, 6, 7] _ (by kernel_rfl) (List.Sublist.refl _) ?_ | refine GC_drawB (id := 10) [1] [0, 3, 4, 8] [2, 5, 6, 7] _ (by kernel_rfl) (List.Sublist.refl _) ?_ | refine GC_drawA (id := 22) [0, 1, 2, 3, 4, 5, 6, 7, 8, 9, 10, 11] [] (by kernel_rfl) ?_ | ((first | apply GD_at | apply GL_at | apply GD_no | apply GL_no); exact rfl) | apply DFin_0 | (apply q1_; exact z_) | (apply q0_; exact z_) | (apply q2_; exact z_))
          refine GC_loop (α := Nat) (fun i => n - i) (fun i => [(1, pt p1), (5, u), (7, .slice (some ⟨bo, 0, none⟩) n n), (8, .slice (some ⟨bm, 0, none⟩) n n), (9, .int .i64 (m : Int)), (10, .slice (some ⟨bw, 0, none⟩) n n), (37, .int .i64 (k.beat.last + 1)), (38, .int .i64 (m : Int)), (75, .int .i64 (n : Int)), (76, .int .i64 (i : Int))]) (fun _ => Rg_)
            (fun i => [(bw, .cells ((mixL n (worstAt (rows.take (q + 1))) (worstAt rows) 0).flatMap encI).toArray 3), Ho i, Hm i, Hp1]) (fun i => i ≤ n) 0 ⟨rfl, rfl, rfl, rfl, rfl, rfl, rfl, rfl, rfl, rfl, trivial⟩ (Nat.zero_le _) (fun w hw => by rw [hqt] at hw; exact hw) ?_
          intro i hi
          simp only [Ho, Hm, Hp1, Rg_]
          by_cases hli : i < n
          · have hbl2 : i < (bnds n (dots k.yard (truthsX k.yard))).length := by simp [bnds]; exact hli
            have hl1 := hlo i hli
            have hw1 := hwb q i hli
            rw [hqt] at hw1
            have hsu := wiseU_succ k i m
            have hov : overI k m i = max 0 ((nth (bnds n (dots k.yard (truthsX k.yard))) i).1 - worstAt rows i) := by rw [hrows]; rfl
            rw [hov] at hsu
            by_cases hm0 : m = 0
            · rw [if_pos (.inl hm0)] at hsu
              have hz0 : (m : Int) = 0 := by omega
              repeat' (first | apply s_ | ((first | apply JO_ob | apply GD_ex | apply GL_ex); exact rfl; first | exact ob1 | exact Ob_index_row rfl rfl hli | exact Ob_load_r (enc := encI) (sz := 1) (i := i) (k := 0) (fun _ => rfl) rfl (.head _) (mixL_get0 _ _ hli) (by decide) rfl) | ((first | apply b_ | apply a_ | apply i_); exact z_; intro _) | ((first | apply p_ | apply JO_yes | apply GC_t); exact z_) | (apply n_; exact z_) | (apply GC_f; exact z_) | (apply GX_block_on; exact z_) | refine GC_drawB (id := 5) [0, 1] [3, 4] [2, 5, 6, 7] _ (by kernel_rfl) (List.Sublist.refl _) ?_ | refine GC_drawB (id := 10) [1] [0, 3, 4, 8] [2, 5, 6, 7] _ (by kernel_rfl) (List.Sublist.refl _) ?_ | refine GC_drawA (id := 22) [0, 1, 2, 3, 4, 5, 6, 7, 8, 9, 10, 11] [] (by kernel_rfl) ?_ | ((first | apply GD_at | apply GL_at | apply GD_no | apply GL_no); exact rfl) | apply DFin_0 | (apply q1_; exact z_) | (apply q0_; exact z_) | (apply q2_; exact z_))
              refine JO_store_r (m := 1) (sz := 1) (k := 0) (enc := encI) (j := 1) (xs := mixL n (fun i => (wiseU k i (m + 1)).1) (fun i => (wiseU k i m).1) i) (a := (wiseU k i m).1) (a' := (wiseU k i (m + 1)).1) (fun _ => rfl) rfl rfl rfl inferInstance rfl (mixL_get _ _ hli) (Nat.le_refl _) (by rw [hsu]; rfl) ?_
              rw [mixL_set (fun i => (wiseU k i (m + 1)).1) (fun i => (wiseU k i m).1) hli]
              repeat' (first | apply s_ | ((first | apply JO_ob | apply GD_ex | apply GL_ex); exact rfl; first | exact ob1 | exact Ob_index_row rfl rfl hli) | ((first | apply b_ | apply a_ | apply i_); exact z_; intro _) | ((first | apply p_ | apply JO_yes | apply GC_t); exact z_) | (apply n_; exact z_) | (apply GC_f; exact z_) | (apply GX_block_on; exact z_) | refine GC_drawB (id := 5) [0, 1] [3, 4] [2, 5, 6, 7] _ (by kernel_rfl) (List.Sublist.refl _) ?_ | refine GC_drawB (id := 10) [1] [0, 3, 4, 8] [2, 5, 6, 7] _ (by kernel_rfl) (List.Sublist.refl _) ?_ | refine GC_drawA (id := 22) [0, 1, 2, 3, 4, 5, 6, 7, 8, 9, 10, 11] [] (by kernel_rfl) ?_ | ((first | apply GD_at | apply GL_at | apply GD_no | apply GL_no); exact rfl) | apply DFin_0 | (apply q1_; exact z_) | (apply q0_; exact z_) | (apply q2_; exact z_))
              refine JO_store_r (m := 1) (sz := 1) (k := 0) (enc := encI) (j := 2) (xs := mixL n (fun i => (wiseU k i (m + 1)).2) (fun i => (wiseU k i m).2) i) (a := (wiseU k i m).2) (a' := (wiseU k i (m + 1)).2) (fun _ => rfl) rfl rfl rfl inferInstance rfl (mixL_get _ _ hli) (Nat.le_refl _) (by rw [hsu]; rfl) ?_
              rw [mixL_set (fun i => (wiseU k i (m + 1)).2) (fun i => (wiseU k i m).2) hli]
              repeat' (first | apply s_ | ((first | apply JO_ob | apply GD_ex | apply GL_ex); exact rfl; first | exact ob1) | ((first | apply b_ | apply a_ | apply i_); exact z_; intro _) | ((first | apply p_ | apply JO_yes | apply GC_t); exact z_) | (apply n_; exact z_) | (apply GC_f; exact z_) | (apply GX_block_on; exact z_) | refine GC_drawB (id := 5) [0, 1] [3, 4] [2, 5, 6, 7] _ (by kernel_rfl) (List.Sublist.refl _) ?_ | refine GC_drawB (id := 10) [1] [0, 3, 4, 8] [2, 5, 6, 7] _ (by kernel_rfl) (List.Sublist.refl _) ?_ | refine GC_drawA (id := 22) [0, 1, 2, 3, 4, 5, 6, 7, 8, 9, 10, 11] [] (by kernel_rfl) ?_ | ((first | apply GD_at | apply GL_at | apply GD_no | apply GL_no); exact rfl) | apply DFin_0 | (apply q1_; exact z_) | (apply q0_; exact z_) | (apply q2_; exact z_))
              exact GX_loop (i + 1) ⟨rfl, rfl, rfl, rfl, rfl, rfl, rfl, rfl, rfl, rfl, trivial⟩ (by omega) (by omega) fun w hw => hw
            · by_cases hgt : (wiseU k i m).2 < max 0 ((nth (bnds n (dots k.yard (truthsX k.yard))) i).1 - worstAt rows i)
              · rw [if_pos (.inr hgt)] at hsu
                repeat' (first | apply s_ | ((first | apply JO_ob | apply GD_ex | apply GL_ex); exact rfl; first | exact ob1 | exact Ob_index_row rfl rfl hli | exact Ob_load_r (enc := encI) (sz := 1) (i := i) (k := 0) (fun _ => rfl) rfl (.head _) (mixL_get0 _ _ hli) (by decide) rfl | exact Ob_load_r (enc := encI) (sz := 1) (i := i) (k := 0) (fun _ => rfl) rfl (.tail _ (.tail _ (.head _))) (mixL_get (fun i => (wiseU k i (m + 1)).2) (fun i => (wiseU k i m).2) hli) (by decide) rfl) | ((first | apply b_ | apply a_ | apply i_); exact z_; intro _) | ((first | apply p_ | apply JO_yes | apply GC_t); exact z_) | (apply n_; exact z_) | (apply GC_f; exact z_) | (apply GX_block_on; exact z_) | refine GC_drawB (id := 5) [0, 1] [3, 4] [2, 5, 6, 7] _ (by kernel_rfl) (List.Sublist.refl _) ?_ | refine GC_drawB (id := 10) [1] [0, 3, 4, 8] [2, 5, 6, 7] _ (by kernel_rfl) (List.Sublist.refl _) ?_ | refine GC_drawA (id := 22) [0, 1, 2, 3, 4, 5, 6, 7, 8, 9, 10, 11] [] (by kernel_rfl) ?_ | ((first | apply GD_at | apply GL_at | apply GD_no | apply GL_no); exact rfl) | apply DFin_0 | (apply q1_; exact z_) | (apply q0_; exact z_) | (apply q2_; exact z_))
                refine JO_store_r (m := 1) (sz := 1) (k := 0) (enc := encI) (j := 1) (xs := mixL n (fun i => (wiseU k i (m + 1)).1) (fun i => (wiseU k i m).1) i) (a := (wiseU k i m).1) (a' := (wiseU k i (m + 1)).1) (fun _ => rfl) rfl rfl rfl inferInstance rfl (mixL_get _ _ hli) (Nat.le_refl _) (by rw [hsu]; rfl) ?_
                rw [mixL_set (fun i => (wiseU k i (m + 1)).1) (fun i => (wiseU k i m).1) hli]
                repeat' (first | apply s_ | ((first | apply JO_ob | apply GD_ex | apply GL_ex); exact rfl; first | exact ob1 | exact Ob_index_row rfl rfl hli) | ((first | apply b_ | apply a_ | apply i_); exact z_; intro _) | ((first | apply p_ | apply JO_yes | apply GC_t); exact z_) | (apply n_; exact z_) | (apply GC_f; exact z_) | (apply GX_block_on; exact z_) | refine GC_drawB (id := 5) [0, 1] [3, 4] [2, 5, 6, 7] _ (by kernel_rfl) (List.Sublist.refl _) ?_ | refine GC_drawB (id := 10) [1] [0, 3, 4, 8] [2, 5, 6, 7] _ (by kernel_rfl) (List.Sublist.refl _) ?_ | refine GC_drawA (id := 22) [0, 1, 2, 3, 4, 5, 6, 7, 8, 9, 10, 11] [] (by kernel_rfl) ?_ | ((first | apply GD_at | apply GL_at | apply GD_no | apply GL_no); exact rfl) | apply DFin_0 | (apply q1_; exact z_) | (apply q0_; exact z_) | (apply q2_; exact z_))
                refine JO_store_r (m := 1) (sz := 1) (k := 0) (enc := encI) (j := 2) (xs := mixL n (fun i => (wiseU k i (m + 1)).2) (fun i => (wiseU k i m).2) i) (a := (wiseU k i m).2) (a' := (wiseU k i (m + 1)).2) (fun _ => rfl) rfl rfl rfl inferInstance rfl (mixL_get _ _ hli) (Nat.le_refl _) (by rw [hsu]; rfl) ?_
                rw [mixL_set (fun i => (wiseU k i (m + 1)).2) (fun i => (wiseU k i m).2) hli]
                repeat' (first | apply s_ | ((first | apply JO_ob | apply GD_ex | apply GL_ex); exact rfl; first | exact ob1) | ((first | apply b_ | apply a_ | apply i_); exact z_; intro _) | ((first | apply p_ | apply JO_yes | apply GC_t); exact z_) | (apply n_; exact z_) | (apply GC_f; exact z_) | (apply GX_block_on; exact z_) | refine GC_drawB (id := 5) [0, 1] [3, 4] [2, 5, 6, 7] _ (by kernel_rfl) (List.Sublist.refl _) ?_ | refine GC_drawB (id := 10) [1] [0, 3, 4, 8] [2, 5, 6, 7] _ (by kernel_rfl) (List.Sublist.refl _) ?_ | refine GC_drawA (id := 22) [0, 1, 2, 3, 4, 5, 6, 7, 8, 9, 10, 11] [] (by kernel_rfl) ?_ | ((first | apply GD_at | apply GL_at | apply GD_no | apply GL_no); exact rfl) | apply DFin_0 | (apply q1_; exact z_) | (apply q0_; exact z_) | (apply q2_; exact z_))
                exact GX_loop (i + 1) ⟨rfl, rfl, rfl, rfl, rfl, rfl, rfl, rfl, rfl, rfl, trivial⟩ (by omega) (by omega) fun w hw => hw
              · rw [if_neg (by omega)] at hsu
                repeat' (first | apply s_ | ((first | apply JO_ob | apply GD_ex | apply GL_ex); exact rfl; first | exact ob1 | exact Ob_index_row rfl rfl hli | exact Ob_load_r (enc := encI) (sz := 1) (i := i) (k := 0) (fun _ => rfl) rfl (.head _) (mixL_get0 _ _ hli) (by decide) rfl | exact Ob_load_r (enc := encI) (sz := 1) (i := i) (k := 0) (fun _ => rfl) rfl (.tail _ (.tail _ (.head _))) (mixL_get (fun i => (wiseU k i (m + 1)).2) (fun i => (wiseU k i m).2) hli) (by decide) rfl) | ((first | apply b_ | apply a_ | apply i_); exact z_; intro _) | ((first | apply p_ | apply JO_yes | apply GC_t); exact z_) | (apply n_; exact z_) | (apply GC_f; exact z_) | (apply GX_block_on; exact z_) | refine GC_drawB (id := 5) [0, 1] [3, 4] [2, 5, 6, 7] _ (by kernel_rfl) (List.Sublist.refl _) ?_ | refine GC_drawB (id := 10) [1] [0, 3, 4, 8] [2, 5, 6, 7] _ (by kernel_rfl) (List.Sublist.refl _) ?_ | refine GC_drawA (id := 22) [0, 1, 2, 3, 4, 5, 6, 7, 8, 9, 10, 11] [] (by kernel_rfl) ?_ | ((first | apply GD_at | apply GL_at | apply GD_no | apply GL_no); exact rfl) | apply DFin_0 | (apply q1_; exact z_) | (apply q0_; exact z_) | (apply q2_; exact z_))
                refine GX_loop (i + 1) ⟨rfl, rfl, rfl, rfl, rfl, rfl, rfl, rfl, rfl, rfl, trivial⟩ (by omega) (by omega) fun w hw => ?_
                rw [mixL_keep (fun i => (wiseU k i (m + 1)).1) (fun i => (wiseU k i m).1) (by rw [hsu]), mixL_keep (fun i => (wiseU k i (m + 1)).2) (fun i => (wiseU k i m).2) (by rw [hsu])]
                exact hw
          · have hie : i = n := by omega
            repeat' (first | apply s_ | ((first | apply JO_ob | apply GD_ex | apply GL_ex); exact rfl; first | exact ob1) | ((first | apply b_ | apply a_ | apply i_); exact z_; intro _) | ((first | apply p_ | apply JO_yes | apply GC_t); exact z_) | (apply n_; exact z_) | (apply GC_f; exact z_) | (apply GX_block_on; exact z_) | refine GC_drawB (id := 5) [0, 1] [3, 4] [2, 5, 6, 7] _ (by kernel_rfl) (List.Sublist.refl _) ?_ | refine GC_drawB (id := 10) [1] [0, 3, 4, 8] [2, 5, 6, 7] _ (by kernel_rfl) (List.Sublist.refl _) ?_ | refine GC_drawA (id := 22) [0, 1, 2, 3, 4, 5, 6, 7, 8, 9, 10, 11] [] (by kernel_rfl) ?_ | ((first | apply GD_at | apply GL_at | apply GD_no | apply GL_no); exact rfl) | apply DFin_0 | (apply q1_; exact z_) | (apply q0_; exact z_) | (apply q2_; exact z_))
            refine GX_loop (m + 1) ⟨rfl, rfl, rfl, rfl, rfl, rfl, trivial⟩ (by omega) (by omega) fun w hw => ?_
            rw [hie, mixL_done _ _ _ (fun i => (wiseU k i (m + 1 + 1)).1), mixL_done _ _ (fun i => (wiseU k i m).2) (fun i => (wiseU k i (m + 1 + 1)).2)] at hw
            exact hw.weak (fun r h => .tail _ (.tail _ h)) (List.Sublist.cons _ (List.Sublist.refl _))
      · have hme : m = (k.beat.last + 1).toNat := by omega
        repeat' (first | apply s_ | ((first | apply JO_ob | apply GD_ex | apply GL_ex); exact rfl; first | exact ob1) | ((first | apply b_ | apply a_ | apply i_); exact z_; intro _) | ((first | apply p_ | apply JO_yes | apply GC_t); exact z_) | (apply n_; exact z_) | (apply GC_f; exact z_) | (apply GX_block_on; exact z_) | refine GC_drawB (id := 5) [0, 1] [3, 4] [2, 5, 6, 7] _ (by kernel_rfl) (List.Sublist.refl _) ?_ | refine GC_drawB (id := 10) [1] [0, 3, 4, 8] [2, 5, 6, 7] _ (by kernel_rfl) (List.Sublist.refl _) ?_ | refine GC_drawA (id := 22) [0, 1, 2, 3, 4, 5, 6, 7, 8, 9, 10, 11] [] (by kernel_rfl) ?_ | ((first | apply GD_at | apply GL_at | apply GD_no | apply GL_no); exact rfl) | apply DFin_0 | (apply q1_; exact z_) | (apply q0_; exact z_) | (apply q2_; exact z_))
        refine GX_ret2 rfl rfl rfl fun w' hw' => ⟨hw'.kp mem_, _, by rw [hf0], ?_⟩
        have ew : mixL n (fun i => (wiseU k i (m + 1)).1) (fun i => (wiseU k i m).1) 0 = wiseV k := by simp [mixL, wiseV, hme, n]
        rw [ew] at hw'
        exact (Own.lit (sz := 1) (enc := encI) (b := bo) (m := n) (wiseV k) (fun _ => rfl) (by simp [wiseV, n]) (Nat.ble_eq_true_of_le (by omega))).ret (A := []) (e := 3) (by decide) (by rw [List.append_nil]; exact hw'.weak (fun r h => h) (List.Sublist.cons_cons _ (List.nil_sublist _))) mem_
end
end Go.Proofs.YtkbaaikidhbfmaaGreat
/- Contracts: the laws' lists that are the same, ranges that are equal, the works of the document's examples. No statement is proved here. -/
set_option linter.unusedVariables false
set_option linter.unusedSimpArgs false
namespace Go.Proofs.YtkbaaikidhbfmaaGreat
open Go.RowKit
section
variable {b0 : World} {R : Rgs} {H : Hp} {fr : Slots} {dst : Option Nat} {g : Option (Nat × Bool)} {ty : TypeId} {ps : String} {af : Array Edge} {t m : Nat} {x y : Operand} {yt : TypeId} {k l : List Int}
theorem Ob_eqAT [h : TyEq t m] (hx : ev fr x = some (kA m k)) (hy : ev fr y = some (kA m l)) (hk : k.length = m) (hl : l.length = m) (he : k = l) : Ob b0 R H ⟨dst, .binOp .eql t x y yt, ty, ps, af, g⟩ fr (.bool true) := by
  have := Ob_eqA (b0 := b0) (R := R) (H := H) (dst := dst) (g := g) (ty := ty) (ps := ps) (af := af) (yt := yt) (h := h) hx hy hk hl
  rwa [decide_eq_true he] at this
theorem Ob_eqAF [h : TyEq t m] (hx : ev fr x = some (kA m k)) (hy : ev fr y = some (kA m l)) (hk : k.length = m) (hl : l.length = m) (he : ¬ k = l) : Ob b0 R H ⟨dst, .binOp .eql t x y yt, ty, ps, af, g⟩ fr (.bool false) := by
  have := Ob_eqA (b0 := b0) (R := R) (H := H) (dst := dst) (g := g) (ty := ty) (ps := ps) (af := af) (yt := yt) (h := h) hx hy hk hl
  rwa [decide_eq_false he] at this
end
theorem c40 (w : World) (va vb : Value) (xs ys : List Int) (ha : Arr All w 1 encI va xs) (hb : Arr All w 1 encI vb ys) : Ex 40 [va, vb] w (.bool (decide (xs = ys))) := by
  have i1 := ha.v1
  have i2 := hb.v1
  have b1 := ha.bound
  have b2 := hb.bound
  refine Rt_of Tryz.func40 rfl Tryz.ntmps40 rfl ?_
  by_cases hl : xs.length = ys.length
  · repeat' (first | apply s_ | ((first | apply JO_ob | apply GD_ex | apply GL_ex); exact rfl; first | exact ob1) | ((first | apply b_ | apply a_ | apply i_); exact z_; intro _) | ((first | apply p_ | apply JO_yes | apply GC_t); exact z_) | (apply n_; exact z_) | (apply GC_f; exact z_) | (apply GX_block_on; exact z_) | refine GC_drawA (id := 6) [0, 1, 2, 3, 4, 5, 6, 7, 8] [] (by kernel_rfl) ?_ | ((first | apply GD_at | apply GL_at | apply GD_no | apply GL_no); exact rfl) | apply DFin_0 | (apply q1_; exact z_) | (apply q0_; exact z_) | (apply q2_; exact z_))
    refine GC_loop0 (fun i => xs.length - i) (fun i => [(0, va), (1, vb), (5, .int .i64 (i : Int))]) (fun i => i ≤ xs.length ∧ ∀ j, j < i → nth xs j = nth ys j) 0 ⟨rfl, rfl, rfl, trivial⟩ ⟨Nat.zero_le _, fun j hj => absurd hj (Nat.not_lt_zero j)⟩ ?_
    rintro i ⟨hi, hno⟩
    by_cases hlt : i < xs.length
    · have hlt2 : i < ys.length := by omega
      by_cases he : nth xs i = nth ys i
      · repeat' (first | apply s_ | ((first | apply JO_ob | apply GD_ex | apply GL_ex); exact rfl; first | exact ob1) | ((first | apply b_ | apply a_ | apply i_); exact z_; intro _) | ((first | apply p_ | apply JO_yes | apply GC_t); exact z_) | (apply n_; exact z_) | (apply GC_f; exact z_) | (apply GX_block_on; exact z_) | refine GC_drawA (id := 6) [0, 1, 2, 3, 4, 5, 6, 7, 8] [] (by kernel_rfl) ?_ | ((first | apply GD_at | apply GL_at | apply GD_no | apply GL_no); exact rfl) | apply DFin_0 | (apply q1_; exact z_) | (apply q0_; exact z_) | (apply q2_; exact z_))
        refine GX_loop (i + 1) ⟨rfl, rfl, rfl, trivial⟩ (by omega) ⟨by omega, fun j hj => ?_⟩ fun w hw => hw
        by_cases e : j < i
        · exact hno j e
        · rw [show j = i by omega]; exact he
      · repeat' (first | apply s_ | ((first | apply JO_ob | apply GD_ex | apply GL_ex); exact rfl; first | exact ob1) | ((first | apply b_ | apply a_ | apply i_); exact z_; intro _) | ((first | apply p_ | apply JO_yes | apply GC_t); exact z_) | (apply n_; exact z_) | (apply GC_f; exact z_) | (apply GX_block_on; exact z_) | refine GC_drawA (id := 6) [0, 1, 2, 3, 4, 5, 6, 7, 8] [] (by kernel_rfl) ?_ | ((first | apply GD_at | apply GL_at | apply GD_no | apply GL_no); exact rfl) | apply DFin_0 | (apply q1_; exact z_) | (apply q0_; exact z_) | (apply q2_; exact z_))
        exact GX_ex rfl rfl mem_ (dF fun h => he (by rw [h]))
    · repeat' (first | apply s_ | ((first | apply JO_ob | apply GD_ex | apply GL_ex); exact rfl; first | exact ob1) | ((first | apply b_ | apply a_ | apply i_); exact z_; intro _) | ((first | apply p_ | apply JO_yes | apply GC_t); exact z_) | (apply n_; exact z_) | (apply GC_f; exact z_) | (apply GX_block_on; exact z_) | refine GC_drawA (id := 6) [0, 1, 2, 3, 4, 5, 6, 7, 8] [] (by kernel_rfl) ?_ | ((first | apply GD_at | apply GL_at | apply GD_no | apply GL_no); exact rfl) | apply DFin_0 | (apply q1_; exact z_) | (apply q0_; exact z_) | (apply q2_; exact z_))
      exact GX_ex rfl rfl mem_ (dT (nth_ext hl fun j hj => hno j (by omega)))
  · repeat' (first | apply s_ | ((first | apply JO_ob | apply GD_ex | apply GL_ex); exact rfl; first | exact ob1) | ((first | apply b_ | apply a_ | apply i_); exact z_; intro _) | ((first | apply p_ | apply JO_yes | apply GC_t); exact z_) | (apply n_; exact z_) | (apply GC_f; exact z_) | (apply GX_block_on; exact z_) | refine GC_drawA (id := 6) [0, 1, 2, 3, 4, 5, 6, 7, 8] [] (by kernel_rfl) ?_ | ((first | apply GD_at | apply GL_at | apply GD_no | apply GL_no); exact rfl) | apply DFin_0 | (apply q1_; exact z_) | (apply q0_; exact z_) | (apply q2_; exact z_))
    exact GX_ex rfl rfl mem_ (dF fun h => hl (by rw [h]))
theorem c68 (w : World) (v : Value) (rs : List Rg) (a b : Rg) (hA : Arr All w 2 encR v rs) : Ex 68 [v, .agg #[.int .i64 a.1, .int .i64 a.2], .agg #[.int .i64 b.1, .int .i64 b.2]] w (.bool (decide (rs = [a, b]))) := by
  have i1 := hA.v1
  have b1 := hA.bound
  refine Rt_of Tryz.func68 rfl Tryz.ntmps68 rfl ?_
  by_cases hl : rs.length = 2
  · obtain ⟨r0, r1, rfl⟩ : ∃ r0 r1, rs = [r0, r1] := by
      match rs, hl with
      | [r0, r1], _ => exact ⟨r0, r1, rfl⟩
    have h0 : 0 < [r0, r1].length := by simp
    have h1 : 1 < [r0, r1].length := by simp
    have hq : ∀ (r c : Rg), ([r.1, r.2] = [c.1, c.2]) = (r = c) := fun r c => by simp [Prod.ext_iff]
    by_cases e0 : r0 = a
    · have e0' : [r0.1, r0.2] = [a.1, a.2] := by rw [hq]; exact e0
      by_cases e1 : r1 = b
      · have e1' : [r1.1, r1.2] = [b.1, b.2] := by rw [hq]; exact e1
        repeat' (first | apply s_ | ((first | apply JO_ob | apply GD_ex | apply GL_ex); exact rfl; first | exact ob1 | exact Ob_indexn (i := 0) rfl hA rfl h0 (by decide) | exact Ob_indexn (i := 1) rfl hA rfl h1 (by decide) | exact Ob_loadsn (i := 0) (vs := encR r0) rfl hA (.head _) rfl h0 (Nat.le_refl 2) rfl rfl | exact Ob_loadsn (i := 1) (vs := encR r1) rfl hA (.head _) rfl h1 (Nat.le_refl 2) rfl rfl | exact Ob_eqAT (m := 2) (k := [r0.1, r0.2]) (l := [a.1, a.2]) rfl rfl rfl rfl e0' | exact Ob_eqAT (m := 2) (k := [r1.1, r1.2]) (l := [b.1, b.2]) rfl rfl rfl rfl e1') | ((first | apply b_ | apply a_ | apply i_); exact z_; intro _) | ((first | apply p_ | apply JO_yes | apply GC_t); exact z_) | (apply n_; exact z_) | (apply GC_f; exact z_) | (apply GX_block_on; exact z_) | refine GC_drawA (id := 1) [0, 1, 2, 3, 4, 5, 6, 7, 8, 9, 10, 11, 12, 13, 14, 15, 16, 17] [] (by kernel_rfl) ?_ | ((first | apply GD_at | apply GL_at | apply GD_no | apply GL_no); exact rfl) | apply DFin_0 | (apply q1_; exact z_) | (apply q0_; exact z_) | (apply q2_; exact z_))
        exact GX_ex rfl rfl mem_ (dT (by rw [e0, e1]))
      · have e1' : ¬ [r1.1, r1.2] = [b.1, b.2] := by rw [hq]; exact e1
        repeat' (first | apply s_ | ((first | apply JO_ob | apply GD_ex | apply GL_ex); exact rfl; first | exact ob1 | exact Ob_indexn (i := 0) rfl hA rfl h0 (by decide) | exact Ob_indexn (i := 1) rfl hA rfl h1 (by decide) | exact Ob_loadsn (i := 0) (vs := encR r0) rfl hA (.head _) rfl h0 (Nat.le_refl 2) rfl rfl | exact Ob_loadsn (i := 1) (vs := encR r1) rfl hA (.head _) rfl h1 (Nat.le_refl 2) rfl rfl | exact Ob_eqAT (m := 2) (k := [r0.1, r0.2]) (l := [a.1, a.2]) rfl rfl rfl rfl e0' | exact Ob_eqAF (m := 2) (k := [r1.1, r1.2]) (l := [b.1, b.2]) rfl rfl rfl rfl e1') | ((first | apply b_ | apply a_ | apply i_); exact z_; intro _) | ((first | apply p_ | apply JO_yes | apply GC_t); exact z_) | (apply n_; exact z_) | (apply GC_f; exact z_) | (apply GX_block_on; exact z_) | refine GC_drawA (id := 1) [0, 1, 2, 3, 4, 5, 6, 7, 8, 9, 10, 11, 12, 13, 14, 15, 16, 17] [] (by kernel_rfl) ?_ | ((first | apply GD_at | apply GL_at | apply GD_no | apply GL_no); exact rfl) | apply DFin_0 | (apply q1_; exact z_) | (apply q0_; exact z_) | (apply q2_; exact z_))
        exact GX_ex rfl rfl mem_ (dF fun h => e1 (by simpa using (List.cons.inj (List.cons.inj h).2).1))
    · have e0' : ¬ [r0.1, r0.2] = [a.1, a.2] := by rw [hq]; exact e0
      repeat' (first | apply s_ | ((first | apply JO_ob | apply GD_ex | apply GL_ex); exact rfl; first | exact ob1 | exact Ob_indexn (i := 0) rfl hA rfl h0 (by decide) | exact Ob_loadsn (i := 0) (vs := encR r0) rfl hA (.head _) rfl h0 (Nat.le_refl 2) rfl rfl | exact Ob_eqAF (m := 2) (k := [r0.1, r0.2]) (l := [a.1, a.2]) rfl rfl rfl rfl e0') | ((first | apply b_ | apply a_ | apply i_); exact z_; intro _) | ((first | apply p_ | apply JO_yes | apply GC_t); exact z_) | (apply n_; exact z_) | (apply GC_f; exact z_) | (apply GX_block_on; exact z_) | refine GC_drawA (id := 1) [0, 1, 2, 3, 4, 5, 6, 7, 8, 9, 10, 11, 12, 13, 14, 15, 16, 17] [] (by kernel_rfl) ?_ | ((first | apply GD_at | apply GL_at | apply GD_no | apply GL_no); exact rfl) | apply DFin_0 | (apply q1_; exact z_) | (apply q0_; exact z_) | (apply q2_; exact z_))
      exact GX_ex rfl rfl mem_ (dF fun h => e0 (List.cons.inj h).1)
  · repeat' (first | apply s_ | ((first | apply JO_ob | apply GD_ex | apply GL_ex); exact rfl; first | exact ob1) | ((first | apply b_ | apply a_ | apply i_); exact z_; intro _) | ((first | apply p_ | apply JO_yes | apply GC_t); exact z_) | (apply n_; exact z_) | (apply GC_f; exact z_) | (apply GX_block_on; exact z_) | refine GC_drawA (id := 1) [0, 1, 2, 3, 4, 5, 6, 7, 8, 9, 10, 11, 12, 13, 14, 15, 16, 17] [] (by kernel_rfl) ?_ | ((first | apply GD_at | apply GL_at | apply GD_no | apply GL_no); exact rfl) | apply DFin_0 | (apply q1_; exact z_) | (apply q0_; exact z_) | (apply q2_; exact z_))
    exact GX_ex rfl rfl mem_ (dF fun h => hl (by rw [h]; rfl))
theorem SH.litNew {α : Type} {b0 : World} {R : Rgs} {H : Hp} {w : World} {sz : Nat} {enc : α → List Value} (hw : SH b0 R H w) (hm : ((fun _ => True), b0) ∈ R) (xs : List α) {b m : Nat} {cs : List Value} {T : TypeId} (he : ∀ x, (enc x).length = sz) (hH : (b, Obj.cells cs.toArray T) ∈ H) (hc : cs = xs.flatMap enc) (hl : m = xs.length) (hcm : Nat.ble m 9223372036854775807 = true) :
    Arr (New b0) w sz enc (.slice (some ⟨b, 0, none⟩) m m) xs := by
  subst hc; subst hl
  exact ⟨he, _, _, rfl, Nat.le_refl _, Nat.le_of_ble_eq_true hcm, .inr ⟨b, 0, rfl, hw.apt _ hH _ hm trivial, fun j hj => by rw [cell_blk (hw.own _ hH), Nat.zero_add]⟩⟩
/-- The works of the document's examples. -/
def kEx (boxes force first : Int) : Wk := ⟨⟨[(3, 5), (2, 3), (0, 1)], [[4, 0, 2], [1, 3, 0]], []⟩, ⟨(0, 1), [⟨2, 4, 3, 2⟩, ⟨3, 3, 1, 5⟩], 6, []⟩, [first, 3], boxes, force, 8, 5⟩
theorem c67 (w : World) (x y z : Int) : Rt 67 [.int .i64 x, .int .i64 y, .int .i64 z] w fun v w' => Keep w w' ∧ ∃ a b c hs d e f, v = wkV a b c d e f (kEx x y z) ∧ WkA (New w) w' a b c hs d e f (kEx x y z) := by
  refine Rt_of Tryz.func67 rfl Tryz.ntmps67 rfl ?_
  repeat' (first | apply s_ | (apply JO_ob; exact rfl; first | exact ob1) | ((first | apply b_ | apply a_ | apply i_); exact z_; intro _) | ((first | apply p_ | apply JO_yes | apply GC_t); exact z_) | (apply n_; exact z_) | (apply GC_f; exact z_) | (apply GX_block_on; exact z_))
  rename_i p6 b12 b13 b14 b15 p7 b22 p8 b27
  refine GX_retc (cs := [.slice (some ⟨b12, 0, none⟩) 3 3, .slice (some ⟨b15, 0, none⟩) 2 2, .slice none 0 0, .int .i64 0, .int .i64 1, .slice (some ⟨b22, 0, none⟩) 2 2, .int .i64 6, .slice none 0 0, .slice (some ⟨b27, 0, none⟩) 2 2, .int .i64 x, .int .i64 y, .int .i64 8, .int .i64 5]) rfl rfl (.tail _ (.tail _ (.tail _ (.tail _ (.tail _ (.tail _ (.tail _ (.tail _ (.head _))))))))) rfl fun w' hw' => ?_
  have h2 : SH w [((fun _ => True), w)] [(b27, .cells ([z, 3].flatMap encI).toArray 3), (p8, _), (b22, .cells (([⟨2, 4, 3, 2⟩, ⟨3, 3, 1, 5⟩] : List BV).flatMap encV).toArray 174), (p7, _), (b15, .cells (([.slice (some ⟨b13, 0, none⟩) 3 3, .slice (some ⟨b14, 0, none⟩) 3 3] : List Value).flatMap encO).toArray 33), (b14, .cells ([1, 3, 0].flatMap encI).toArray 3), (b13, .cells ([4, 0, 2].flatMap encI).toArray 3), (b12, .cells (([(3, 5), (2, 3), (0, 1)] : List Rg).flatMap encR).toArray 80), (p6, _)] w' := hw'
  refine ⟨hw'.kp mem_, _, _, _, [.slice (some ⟨b13, 0, none⟩) 3 3, .slice (some ⟨b14, 0, none⟩) 3 3], _, _, _, rfl, ⟨⟨h2.litNew (enc := encR) (sz := 2) mem_ [(3, 5), (2, 3), (0, 1)] (fun _ => rfl) mem_ rfl rfl rfl, ⟨rfl, h2.litNew (enc := encO) (sz := 1) mem_ _ (fun _ => rfl) mem_ rfl rfl rfl, fun i hi => ?_⟩, arr_nil fun _ => rfl⟩, ⟨h2.litNew (enc := encV) (sz := 4) mem_ ([⟨2, 4, 3, 2⟩, ⟨3, 3, 1, 5⟩] : List BV) (fun _ => rfl) mem_ rfl rfl rfl, arr_nil fun _ => rfl⟩, h2.litNew (enc := encI) (sz := 1) mem_ [z, 3] (fun _ => rfl) mem_ rfl rfl rfl⟩⟩
  match i, hi with
  | 0, _ => exact h2.litNew (enc := encI) (sz := 1) mem_ [4, 0, 2] (fun _ => rfl) mem_ rfl rfl rfl
  | 1, _ => exact h2.litNew (enc := encI) (sz := 1) mem_ [1, 3, 0] (fun _ => rfl) mem_ rfl rfl rfl
  | i + 2, hi => exact absurd hi (by simp only [kEx, List.length_cons, List.length_nil]; omega)
end Go.Proofs.YtkbaaikidhbfmaaGreat
/- Contracts: the reference's plans and its best one. No statement is proved here. -/
set_option linter.unusedVariables false
set_option linter.unusedSimpArgs false
namespace Go.Proofs.YtkbaaikidhbfmaaGreat
open Go.RowKit
/-- A plan with one vat more. -/
def longer (b : Int) (l : List Int) : List (List Int) := (List.range b.toNat).map fun (j : Nat) => l ++ [(j : Int)]
def plansR (b : Int) : Nat → List (List Int)
  | 0 => [[]]
  | n + 1 => (plansR b n).flatMap (longer b)
theorem longer_len (b : Int) (l : List Int) : (longer b l).length = b.toNat := by simp [longer]
theorem longer_nth {b : Int} {l : List Int} {j : Nat} (h : j < b.toNat) : nth (longer b l) j = l ++ [(j : Int)] := by simp [longer, nth, h]
theorem longer_take {b : Int} {l : List Int} {j : Nat} (h : j < b.toNat) : (longer b l).take (j + 1) = (longer b l).take j ++ [l ++ [(j : Int)]] := by
  rw [take_snoc (by rw [longer_len]; exact h), longer_nth h]
theorem flatMap_len_le {α β : Type} (f : α → List β) (m : Nat) : ∀ (l : List α), (∀ x ∈ l, (f x).length ≤ m) → (l.flatMap f).length ≤ l.length * m
  | [], _ => by simp
  | x :: xs, h => by
    have h1 := flatMap_len_le f m xs fun y hy => h y (List.mem_cons_of_mem _ hy)
    have h2 := h x (List.mem_cons_self ..)
    simp only [List.flatMap_cons, List.length_append, List.length_cons, Nat.add_mul, Nat.one_mul]; omega
theorem plansR_len (b : Int) (hb : b ≤ 4) : ∀ n, (plansR b n).length ≤ 4 ^ n
  | 0 => by simp [plansR]
  | n + 1 => by
    have h1 := plansR_len b hb n
    have h2 := flatMap_len_le (longer b) 4 (plansR b n) fun l _ => by rw [longer_len]; omega
    simp only [plansR, Nat.pow_succ]
    exact Nat.le_trans h2 (Nat.mul_le_mul_right _ h1)
theorem plansR_mem (b : Int) : ∀ n, ∀ l ∈ plansR b n, l.length = n
  | 0, l, h => by simp [plansR] at h; rw [h]; rfl
  | n + 1, l, h => by
    simp only [plansR, List.mem_flatMap, longer, List.mem_map, List.mem_range] at h
    obtain ⟨l0, h0, j, _, rfl⟩ := h
    simp [plansR_mem b n l0 h0]
theorem c114 (b : Int) (hb : 1 ≤ b ∧ b ≤ 4) : ∀ (n : Nat), n ≤ 3 → ∀ w, Rt 114 [.int .i64 b, .int .i64 (n : Int)] w fun v w' => Keep w w' ∧ ∃ hs, Nest (New w) w' v hs (plansR b n)
  | 0, _, w => by
    refine Rt_of Tryz.func114 rfl Tryz.ntmps114 rfl ?_
    repeat' (first | apply s_ | (apply JO_ob; exact rfl; first | exact ob1) | ((first | apply b_ | apply a_ | apply i_); exact z_; intro _) | ((first | apply p_ | apply JO_yes | apply GC_t); exact z_) | (apply n_; exact z_) | (apply GC_f; exact z_) | (apply GX_block_on; exact z_))
    refine GX_ret1 rfl rfl fun w' hw' => ⟨hw'.kp mem_, [.slice none 0 0], ⟨rfl, hw'.litNew (enc := encO) (sz := 1) mem_ [.slice none 0 0] (fun _ => rfl) mem_ rfl rfl rfl, fun i hi => ?_⟩⟩
    have : i = 0 := by simp [plansR] at hi; exact hi
    subst this
    exact arr_nil fun _ => rfl
  | n + 1, hn, w => by
    have ih := c114 b hb n (by omega)
    have hL := plansR_len b hb.2 n
    have hL2 := plansR_len b hb.2 (n + 1)
    have hLm := plansR_mem b n
    have h64 : 4 ^ n ≤ 4 ^ 3 := Nat.pow_le_pow_right (by decide) (by omega)
    have h65 : 4 ^ (n + 1) ≤ 4 ^ 3 := Nat.pow_le_pow_right (by decide) (by omega)
    have hee : ((n + 1 : Nat) : Int) - 1 = (n : Int) := by omega
    refine Rt_of Tryz.func114 rfl Tryz.ntmps114 rfl ?_
    repeat' (first | apply s_ | (apply JO_ob; exact rfl; first | exact ob1) | ((first | apply b_ | apply a_ | apply i_); exact z_; intro _) | ((first | apply p_ | apply JO_yes | apply GC_t); exact z_) | (apply n_; exact z_) | (apply GC_f; exact z_) | (apply GX_block_on; exact z_))
    refine JO_call (S := fun w0 r w' => ∃ hs0, Nest (New w0) w' r hs0 (plansR b n)) rfl rfl (fun w5 hw5 => by rw [hee]; exact ih w5) ?_
    rintro r u0 u1 hu0 hu1 hk01 ⟨hs0, hN⟩
    have n1 := hN.arr
    have n2 := hN.len
    have n3 := n1.v1
    generalize hLe : plansR b n = L at *
    have hnth : ∀ i, i < L.length → (nth L i).length = n := fun i hi => hLm _ (nth_mem hi)
    repeat' (first | apply s_ | (apply JO_ob; exact rfl; first | exact ob1) | ((first | apply b_ | apply a_ | apply i_); exact z_; intro _) | ((first | apply p_ | apply JO_yes | apply GC_t); exact z_) | (apply n_; exact z_) | (apply GC_f; exact z_) | (apply GX_block_on; exact z_))
    let rws : Nat → Nat → List (List Int) := fun i j => (L.take i).flatMap (longer b) ++ (longer b (nth L i)).take j
    have hrl : ∀ i j, i < L.length → (rws i j).length ≤ 300 := fun i j hi => by
      have h1 := flatMap_len_le (longer b) 4 (L.take i) fun l _ => by rw [longer_len]; omega
      have h2 : ((longer b (nth L i)).take j).length ≤ 4 := by rw [List.length_take, longer_len]; omega
      have h3 : (L.take i).length = i := by rw [List.length_take]; omega
      have h4 : (L.take i).length * 4 ≤ 64 * 4 := Nat.mul_le_mul_right _ (by omega)
      simp only [rws, List.length_append]; omega
    let Hf : Value → List Value → List Value → Hp := fun v hs2 s2 => rowH v 33 (hs2.flatMap encO ++ s2)
    refine GC_loopw (α := Nat × Value × List Value × List Value × World) (fun s => L.length - s.1) (fun s => [(0, .int .i64 b), (6, r), (5, s.2.1), (7, .int .i64 (s.1 : Int))])
      (fun s => [(OffN w (Hf s.2.1 s.2.2.1 s.2.2.2.1), s.2.2.2.2), (fun b => u0.heap.size ≤ b, u1), ((fun _ => True), w)]) (fun s => Hf s.2.1 s.2.2.1 s.2.2.2.1)
      (fun s => s.1 ≤ L.length ∧ Own 1 encO s.2.1 s.2.2.1 s.2.2.2.1 ∧ s.2.2.1.length = ((L.take s.1).flatMap (longer b)).length ∧ ∀ i, i < ((L.take s.1).flatMap (longer b)).length → Arr (OffN w (Hf s.2.1 s.2.2.1 s.2.2.2.1)) s.2.2.2.2 1 encI (nth s.2.2.1 i) (nth ((L.take s.1).flatMap (longer b)) i)) ?_ ?_
    · intro u hu
      exact ⟨(0, .slice none 0 0, [], [], u), ⟨rfl, rfl, rfl, rfl, trivial⟩, ⟨Nat.zero_le _, Own.nil fun _ => rfl, rfl, fun i hi => absurd hi (Nat.not_lt_zero i)⟩, hu.offN⟩
    rintro ⟨i, v2, hs2, s2, u⟩ ⟨hi, ho2, hl2, hrows⟩
    simp only at hi ho2 hl2 hrows ⊢
    have j2 := ho2.v1
    by_cases hlt : i < L.length
    · have hlh : i < hs0.length := by omega
      have hri := hN.row i hlt
      have gri := hri.v1
      simp only [Hf]
      repeat' (first | apply s_ | (apply JO_ob; exact rfl; first | exact ob1) | ((first | apply b_ | apply a_ | apply i_); exact z_; intro _) | ((first | apply p_ | apply JO_yes | apply GC_t); exact z_) | (apply n_; exact z_) | (apply GC_f; exact z_) | (apply GX_block_on; exact z_))
      refine GC_loopw (α := Nat × Value × List Value × List Value × World) (fun s => b.toNat - s.1) (fun s => [(0, .int .i64 b), (6, r), (5, s.2.1), (7, .int .i64 (i : Int)), (8, .int .i64 (s.1 : Int))])
        (fun s => [(OffN w (Hf s.2.1 s.2.2.1 s.2.2.2.1), s.2.2.2.2), (fun b => u0.heap.size ≤ b, u1), ((fun _ => True), w)]) (fun s => Hf s.2.1 s.2.2.1 s.2.2.2.1)
        (fun s => s.1 ≤ b.toNat ∧ Own 1 encO s.2.1 s.2.2.1 s.2.2.2.1 ∧ s.2.2.1.length = (rws i s.1).length ∧ ∀ q, q < (rws i s.1).length → Arr (OffN w (Hf s.2.1 s.2.2.1 s.2.2.2.1)) s.2.2.2.2 1 encI (nth s.2.2.1 q) (nth (rws i s.1) q)) ?_ ?_
      · intro u9 hu9
        have e0 : rws i 0 = (L.take i).flatMap (longer b) := by simp [rws]
        refine ⟨(0, v2, hs2, s2, u), ⟨rfl, rfl, rfl, rfl, rfl, trivial⟩, ⟨Nat.zero_le _, ho2, by simp only [e0]; exact hl2, fun q hq => ?_⟩, ?_⟩
        · simp only [e0] at hq ⊢; exact hrows q hq
        · exact hu9
      rintro ⟨j, v5, hs5, s5, u5⟩ ⟨hj, ho5, hl5, hrow5⟩
      simp only at hj ho5 hl5 hrow5 ⊢
      have j5 := ho5.v1
      by_cases hjt : (j : Int) < b
      · have hrb := hrl i j hlt
        have hnl := hnth i hlt
        simp only [Hf]
        repeat' (first | apply s_ | (apply JO_ob; exact rfl; first | exact ob1) | ((first | apply b_ | apply a_ | apply i_); exact z_; intro _) | ((first | apply p_ | apply JO_yes | apply GC_t); exact z_) | (apply n_; exact z_) | (apply GC_f; exact z_) | (apply GX_block_on; exact z_))
        rename_i b28
        refine JO_append (xs := []) (ys := nth L i) (sp := []) (rowH v5 33 (hs5.flatMap encO ++ s5)) rfl rfl rfl (Own.lit (b := b28) [] (fun _ => rfl) rfl rfl) (List.perm_append_singleton _ _).symm (fun w hw => hw.slArr (.tail _ (.head _)) hri (by decide)) (allOne_flat (fun _ => rfl) _) (by simp; omega) ?_
        intro v33 s33 ho33
        rw [List.nil_append] at ho33 ⊢
        have j33 := ho33.v1
        repeat' (first | apply s_ | (apply JO_ob; exact rfl; first | exact ob1) | ((first | apply b_ | apply a_ | apply i_); exact z_; intro _) | ((first | apply p_ | apply JO_yes | apply GC_t); exact z_) | (apply n_; exact z_) | (apply GC_f; exact z_) | (apply GX_block_on; exact z_))
        rename_i b35
        refine JO_append (xs := nth L i) (ys := [(j : Int)]) ((b35, _) :: rowH v5 33 (hs5.flatMap encO ++ s5)) rfl rfl rfl ho33 (List.Perm.refl _) (fun w hw => hw.slOwn mem_ rfl) rfl (by simp; omega) ?_
        intro v36 s36 ho36
        have j36 := ho36.v1
        repeat' (first | apply s_ | (apply JO_ob; exact rfl; first | exact ob1) | ((first | apply b_ | apply a_ | apply i_); exact z_; intro _) | ((first | apply p_ | apply JO_yes | apply GC_t); exact z_) | (apply n_; exact z_) | (apply GC_f; exact z_) | (apply GX_block_on; exact z_))
        rename_i b37
        refine JO_append (xs := hs5) (ys := [v36]) ((b37, _) :: (b35, _) :: rowH v36 3 ((nth L i ++ [(j : Int)]).flatMap encI ++ s36)) rfl rfl rfl ho5 ((List.perm_append_comm.cons _).cons _) (fun w hw => hw.slOwn mem_ rfl) (by simp [encO, j36.o]) (by simp; omega) ?_
        intro v38 s38 ho38
        have j38 := ho38.v1
        repeat' (first | apply s_ | (apply JO_ob; exact rfl; first | exact ob1) | ((first | apply b_ | apply a_ | apply i_); exact z_; intro _) | ((first | apply p_ | apply JO_yes | apply GC_t); exact z_) | (apply n_; exact z_) | (apply GC_f; exact z_) | (apply GX_block_on; exact z_))
        refine GX_loopw fun w5 hw5 => ?_
        have hw6 := (hw5.weak (R := _) (H := rowH v36 3 ((nth L i ++ [(j : Int)]).flatMap encI ++ s36) ++ Hf v38 (hs5 ++ [v36]) s38) (fun r h => h) (.cons _ (.cons _ (List.Sublist.refl _)))).perm List.perm_append_comm
        obtain ⟨hw7, hA36, hG36⟩ := hw6.freeze ho36 (by decide)
        have er : rws i (j + 1) = rws i j ++ [nth L i ++ [(j : Int)]] := by
          simp only [rws]; rw [longer_take (by omega), List.append_assoc]
        refine ⟨(j + 1, v38, hs5 ++ [v36], s38, w5), ⟨rfl, rfl, rfl, rfl, rfl, trivial⟩, (by simp only; omega), ⟨by simp only; omega, ho38, by simp only [er, List.length_append, List.length_singleton, hl5], fun q hq => ?_⟩, hw7.offN.weak (fun r h => ?_) (List.Sublist.refl _)⟩
        · simp only [er, List.length_append, List.length_singleton] at hq ⊢
          rcases Nat.lt_or_ge q (rws i j).length with hik | hik
          · rw [nth_app_l (by omega), nth_app_l hik]
            exact hw7.toOff (.tail _ (.head _)) (fun b hb => hb.1) (hrow5 q hik)
          · have e : q = (rws i j).length := by omega
            rw [nth_app_last (by omega), nth_app_last e]
            exact hw7.toOff (.head _) (fun b hb => hG36 _ (.tail _ (.tail _ (.head _))) b hb trivial) hA36
        · simp only [List.mem_cons, List.not_mem_nil, or_false] at h ⊢
          rcases h with h | h | h
          · exact .inl h
          · exact .inr (.inr (.inr (.inl h)))
          · exact .inr (.inr (.inr (.inr h)))
      · have hjb : j = b.toNat := by omega
        subst hjb
        have er : rws i b.toNat = (L.take (i + 1)).flatMap (longer b) := by
          have e1 : (longer b (nth L i)).take b.toNat = longer b (nth L i) := List.take_of_length_le (by rw [longer_len]; exact Nat.le_refl _)
          simp only [rws]
          rw [e1, take_snoc hlt, List.flatMap_append, List.flatMap_singleton]
        simp only [Hf]
        repeat' (first | apply s_ | (apply JO_ob; exact rfl; first | exact ob1) | ((first | apply b_ | apply a_ | apply i_); exact z_; intro _) | ((first | apply p_ | apply JO_yes | apply GC_t); exact z_) | (apply n_; exact z_) | (apply GC_f; exact z_) | (apply GX_block_on; exact z_))
        refine GX_loopw fun w5 hw5 => ?_
        refine ⟨(i + 1, v5, hs5, s5, u5), ⟨rfl, rfl, rfl, rfl, trivial⟩, (by simp only; omega), ⟨by simp only; omega, ho5, by simp only [← er]; exact hl5, fun q hq => ?_⟩, hw5⟩
        simp only [← er] at hq ⊢; exact hrow5 q hq
    · have ei : L.take i = L := List.take_of_length_le (by omega)
      rw [ei] at hl2 hrows
      simp only [Hf]
      repeat' (first | apply s_ | (apply JO_ob; exact rfl; first | exact ob1) | ((first | apply b_ | apply a_ | apply i_); exact z_; intro _) | ((first | apply p_ | apply JO_yes | apply GC_t); exact z_) | (apply n_; exact z_) | (apply GC_f; exact z_) | (apply GX_block_on; exact z_))
      have ep : plansR b (n + 1) = L.flatMap (longer b) := by rw [plansR, hLe]
      rw [ep]
      refine GX_freeze (A := []) ho2 (by decide) ?_
      intro G2 w2 hV hG2
      refine GX_ret1 rfl rfl fun w' hw' => ⟨hw'.kp mem_, hs2, hl2, hV.new hG2 (.tail _ (.tail _ (.head _))) (.head _) hw', fun q hq => ?_⟩
      exact (hw'.arr (.tail _ (.head _)) (hrows q hq)).weaken fun b hb _ => hb.1
/-- What the reference's fold over all plans finds. -/
def bestRF (k : Wk) (ls : List (List Int)) : List Int × Int := ls.foldl (fun s l => if endV k l < s.2 then (l, endV k l) else s) ([], 1099511627776)
theorem bestRF_take {k : Wk} {ls : List (List Int)} {i : Nat} (hi : i < ls.length) : bestRF k (ls.take (i + 1)) = if endV k (nth ls i) < (bestRF k (ls.take i)).2 then (nth ls i, endV k (nth ls i)) else bestRF k (ls.take i) := by
  rw [take_snoc hi]
  simp only [bestRF, List.foldl_append, List.foldl_cons, List.foldl_nil]
  rfl
section
variable {w : World} {a b c d e f v : Value} {hs : List Value} {k : Wk} {es : List (Value × Int × Value)}
theorem c62 (h : WkA All w a b c hs d e f k) (hK : OkK k) (hP : PNest All w v es (pairs k)) (bx : Int) (hb : 1 ≤ bx ∧ bx ≤ 4) :
    Rt 62 [wkV a b c d e f k, v, .int .i64 bx] w fun r w' => Keep w w' ∧ ∃ bv, r = .tuple #[bv, .int .i64 (bestRF k (plansR bx k.yard.vats.length)).2] ∧ Arr (New w) w' 1 encI bv (bestRF k (plansR bx k.yard.vats.length)).1 := by
  have i1 := h.yard.fields.v1
  have i2 := h.yard.vats.arr.v1
  have i3 := h.yard.smps.v1
  have i4 := h.beat.vats.v1
  have i5 := h.beat.smps.v1
  have i6 := h.ends.v1
  have i7 := hP.arr.v1
  have v3 := hK.v3
  have hsl := h.yard.vats.len
  have hLm := plansR_mem bx k.yard.vats.length
  have hLl := plansR_len bx hb.2 k.yard.vats.length
  have h64 : 4 ^ k.yard.vats.length ≤ 4 ^ 3 := Nat.pow_le_pow_right (by decide) (by omega)
  generalize hLe : plansR bx k.yard.vats.length = L at *
  refine Rt_of Tryz.func62 rfl Tryz.ntmps62 rfl ?_
  repeat' (first | apply s_ | ((first | apply JO_ob | apply GD_ex | apply GL_ex); exact rfl; first | exact ob1 | exact Ob_call rfl (fun w hw => c26 w a b c _ _ d _ e f _ _ _ _ (hw.arr mem_ h.yard.vats.arr))) | ((first | apply b_ | apply a_ | apply i_); exact z_; intro _) | ((first | apply p_ | apply JO_yes | apply GC_t); exact z_) | (apply n_; exact z_) | (apply GC_f; exact z_) | (apply GX_block_on; exact z_) | refine GC_drawA (id := 7) [0, 1, 2, 3, 4, 5, 6, 7] [] (by kernel_rfl) ?_ | ((first | apply GD_at | apply GL_at | apply GD_no | apply GL_no); exact rfl) | apply DFin_0 | (apply q1_; exact z_) | (apply q0_; exact z_) | (apply q2_; exact z_) | (apply c_; exact z_; all_goals intro _) | (apply g_; exact z_; all_goals intro _))
  rename_i p3
  refine JO_call (S := fun w0 r w' => ∃ hs0, Nest (New w0) w' r hs0 L) rfl rfl (fun w5 hw5 => by rw [hsl, ← hLe]; exact c114 bx hb k.yard.vats.length v3 w5) ?_
  rintro r u0 u1 hu0 hu1 hk01 ⟨hs0, hN⟩
  have n1 := hN.arr
  have n2 := hN.len
  have n3 := n1.v1
  repeat' (first | apply s_ | ((first | apply JO_ob | apply GD_ex | apply GL_ex); exact rfl; first | exact ob1) | ((first | apply b_ | apply a_ | apply i_); exact z_; intro _) | ((first | apply p_ | apply JO_yes | apply GC_t); exact z_) | (apply n_; exact z_) | (apply GC_f; exact z_) | (apply GX_block_on; exact z_) | refine GC_drawA (id := 7) [0, 1, 2, 3, 4, 5, 6, 7] [] (by kernel_rfl) ?_ | ((first | apply GD_at | apply GL_at | apply GD_no | apply GL_no); exact rfl) | apply DFin_0 | (apply q1_; exact z_) | (apply q0_; exact z_) | (apply q2_; exact z_) | (apply c_; exact z_; all_goals intro _) | (apply g_; exact z_; all_goals intro _))
  refine GC_loop (α := Nat × Value) (fun s => L.length - s.1) (fun s => [(3, pt p3), (1, v), (10, r), (8, s.2), (9, .int .i64 (bestRF k (L.take s.1)).2), (11, .int .i64 (s.1 : Int))]) (fun _ => [(fun b => u0.heap.size ≤ b, u1), ((fun _ => True), w)])
    (fun s => [(p3, .cells (wkC a b c d e f k).toArray 35)]) (fun s => s.1 ≤ L.length ∧ Arr (fun b => u0.heap.size ≤ b) u1 1 encI s.2 (bestRF k (L.take s.1)).1) (0, .slice none 0 0) ⟨rfl, rfl, rfl, rfl, rfl, rfl, trivial⟩ ⟨Nat.zero_le _, arr_nil fun _ => rfl⟩ (fun w hw => hw) ?_
  rintro ⟨i, bv⟩ ⟨hi, hbv⟩
  simp only at hi hbv ⊢
  have ib := hbv.v1
  by_cases hlt : i < L.length
  · have hlh : i < hs0.length := by omega
    have hri := hN.row i hlt
    have gri := hri.v1
    have hll := hLm _ (nth_mem hlt)
    by_cases he : endV k (nth L i) < (bestRF k (L.take i)).2
    · repeat' (first | apply s_ | ((first | apply JO_ob | apply GD_ex | apply GL_ex); exact rfl; first | exact ob1 | exact Ob_call rfl (fun w5 hw5 => c63 (hw5.wk mem_ h) hK (hw5.pn mem_ hP) ((hw5.arr (.head _) hri).weaken fun _ _ _ => trivial) hll)) | ((first | apply b_ | apply a_ | apply i_); exact z_; intro _) | ((first | apply p_ | apply JO_yes | apply GC_t); exact z_) | (apply n_; exact z_) | (apply GC_f; exact z_) | (apply GX_block_on; exact z_) | refine GC_drawA (id := 7) [0, 1, 2, 3, 4, 5, 6, 7] [] (by kernel_rfl) ?_ | ((first | apply GD_at | apply GL_at | apply GD_no | apply GL_no); exact rfl) | apply DFin_0 | (apply q1_; exact z_) | (apply q0_; exact z_) | (apply q2_; exact z_) | (apply c_; exact z_; all_goals intro _) | (apply g_; exact z_; all_goals intro _))
      refine GX_loop (i + 1, nth hs0 i) ⟨rfl, rfl, rfl, rfl, ?_, rfl, trivial⟩ (by simp only; omega) ⟨by simp only; omega, ?_⟩ (fun w hw => hw)
      · simp only [bestRF_take hlt, if_pos he]; rfl
      · simp only [bestRF_take hlt, if_pos he]; exact hri
    · repeat' (first | apply s_ | ((first | apply JO_ob | apply GD_ex | apply GL_ex); exact rfl; first | exact ob1 | exact Ob_call rfl (fun w5 hw5 => c63 (hw5.wk mem_ h) hK (hw5.pn mem_ hP) ((hw5.arr (.head _) hri).weaken fun _ _ _ => trivial) hll)) | ((first | apply b_ | apply a_ | apply i_); exact z_; intro _) | ((first | apply p_ | apply JO_yes | apply GC_t); exact z_) | (apply n_; exact z_) | (apply GC_f; exact z_) | (apply GX_block_on; exact z_) | refine GC_drawA (id := 7) [0, 1, 2, 3, 4, 5, 6, 7] [] (by kernel_rfl) ?_ | ((first | apply GD_at | apply GL_at | apply GD_no | apply GL_no); exact rfl) | apply DFin_0 | (apply q1_; exact z_) | (apply q0_; exact z_) | (apply q2_; exact z_) | (apply c_; exact z_; all_goals intro _) | (apply g_; exact z_; all_goals intro _))
      refine GX_loop (i + 1, bv) ⟨rfl, rfl, rfl, rfl, ?_, rfl, trivial⟩ (by simp only; omega) ⟨by simp only; omega, ?_⟩ (fun w hw => hw)
      · simp only [bestRF_take hlt, if_neg he]; rfl
      · simp only [bestRF_take hlt, if_neg he]; exact hbv
  · have ei : L.take i = L := List.take_of_length_le (by omega)
    rw [ei] at hbv
    simp only [ei]
    repeat' (first | apply s_ | ((first | apply JO_ob | apply GD_ex | apply GL_ex); exact rfl; first | exact ob1) | ((first | apply b_ | apply a_ | apply i_); exact z_; intro _) | ((first | apply p_ | apply JO_yes | apply GC_t); exact z_) | (apply n_; exact z_) | (apply GC_f; exact z_) | (apply GX_block_on; exact z_) | refine GC_drawA (id := 7) [0, 1, 2, 3, 4, 5, 6, 7] [] (by kernel_rfl) ?_ | ((first | apply GD_at | apply GL_at | apply GD_no | apply GL_no); exact rfl) | apply DFin_0 | (apply q1_; exact z_) | (apply q0_; exact z_) | (apply q2_; exact z_) | (apply c_; exact z_; all_goals intro _) | (apply g_; exact z_; all_goals intro _))
    exact GX_ret2 rfl rfl rfl fun w' hw' => ⟨hw'.kp mem_, bv, rfl, (hw'.arr (.head _) hbv).weaken fun b hb _ => Nat.le_trans hu0.b0le hb⟩
end
end Go.Proofs.YtkbaaikidhbfmaaGreat
/- Plain mathematics: bounds that widen, hours, and what a vat has at least and at most. No statement is proved here. -/
set_option linter.unusedVariables false
set_option linter.unusedSimpArgs false
namespace Go.Proofs.YtkbaaikidhbfmaaGreat
open Go.RowKit
theorem lo_le {l l' : List Int} (h : ∀ x ∈ l, ∃ y ∈ l', y ≤ x) : loL l' ≤ loL l := by
  obtain ⟨_, _, h3⟩ := foldl_min_le l (2 ^ 40)
  obtain ⟨h4, h5, _⟩ := foldl_min_le l' (2 ^ 40)
  simp only [loL]
  rcases h3 with h3 | h3
  · rw [h3]; exact h4
  · obtain ⟨y, hy, hyx⟩ := h _ h3
    have := h5 y hy
    omega
theorem hi_le {l l' : List Int} (h : ∀ x ∈ l, ∃ y ∈ l', x ≤ y) : hiL l ≤ hiL l' := by
  obtain ⟨_, _, h3⟩ := foldl_max_le l (-1)
  obtain ⟨h4, h5, _⟩ := foldl_max_le l' (-1)
  simp only [hiL]
  rcases h3 with h3 | h3
  · rw [h3]; exact h4
  · obtain ⟨y, hy, hyx⟩ := h _ h3
    have := h5 y hy
    omega
theorem hull_map_mono {l : List Int} (h0 : l ≠ []) (hb : ∀ x ∈ l, 0 ≤ x ∧ x < 2 ^ 40) (g : Int → Int) (hg : ∀ x ∈ l, ∀ y ∈ l, x ≤ y → g x ≤ g y) (hgb : ∀ x ∈ l, 0 ≤ g x ∧ g x < 2 ^ 40) :
    hull (l.map g) = (g (hull l).1, g (hull l).2) := by
  obtain ⟨h1, h2⟩ := hull_ends h0 hb
  have h0' : l.map g ≠ [] := by simp [h0]
  obtain ⟨h3, h4⟩ := hull_ends h0' (by
    intro x hx
    obtain ⟨y, hy, rfl⟩ := List.mem_map.1 hx
    exact hgb y hy)
  obtain ⟨x, hx, ex⟩ := List.mem_map.1 h3
  obtain ⟨y, hy, ey⟩ := List.mem_map.1 h4
  have a1 := hull_in hx
  have a2 := hull_in hy
  have b1 := hg _ h1 _ hx a1.1
  have b2 := hg _ hy _ h2 a2.2
  have c1 := hull_in (List.mem_map.2 ⟨_, h1, rfl⟩ : g (hull l).1 ∈ l.map g)
  have c2 := hull_in (List.mem_map.2 ⟨_, h2, rfl⟩ : g (hull l).2 ∈ l.map g)
  exact Prod.ext (by simp only; omega) (by simp only; omega)

/-! ### Hours -/
theorem hoursFrom_spec {f m : Int} (hf : 1 ≤ f) : ∀ (j n : Nat), m ≤ (n : Int) + j → n ≤ hoursFrom f m j n ∧ m ≤ pr f (hoursFrom f m j n : Nat) ∧ ∀ i : Nat, n ≤ i → i < hoursFrom f m j n → pr f (i : Int) < m
  | 0, n, h => ⟨Nat.le_refl _, by have := pr_ge hf n; simp only [hoursFrom]; omega, fun i h1 h2 => by simp only [hoursFrom] at h2; omega⟩
  | j + 1, n, h => by
    simp only [hoursFrom]
    split
    · rename_i hlt
      obtain ⟨h1, h2, h3⟩ := hoursFrom_spec (m := m) hf j (n + 1) (by omega)
      refine ⟨by omega, h2, fun i h4 h5 => ?_⟩
      by_cases e : i = n
      · subst e; exact hlt
      · exact h3 i (by omega) h5
    · exact ⟨Nat.le_refl _, by omega, fun i h1 h2 => by omega⟩
theorem hoursR_spec {f m : Int} (hf : 1 ≤ f) (hm : m ≤ 900) : m ≤ pr f (hoursR f m : Nat) ∧ ∀ i : Nat, i < hoursR f m → pr f (i : Int) < m := by
  obtain ⟨_, h2, h3⟩ := hoursFrom_spec (m := m) hf 1000 0 (by omega)
  exact ⟨h2, fun i hi => h3 i (Nat.zero_le _) hi⟩
theorem hoursR_le {f m : Int} (hf : 1 ≤ f) (hm : m ≤ 900) {n : Nat} (h : m ≤ pr f (n : Int)) : hoursR f m ≤ n := by
  rcases Nat.lt_or_ge n (hoursR f m) with h1 | h1
  · have := (hoursR_spec hf hm).2 n h1; omega
  · exact h1
theorem hoursR_mono {f m m' : Int} (hf : 1 ≤ f) (hm : m' ≤ 900) (h : m ≤ m') : hoursR f m ≤ hoursR f m' :=
  hoursR_le hf (by omega) (by have := (hoursR_spec hf hm).1; omega)
theorem pr_force {f f' : Int} (h : f ≤ f') (n : Nat) : pr f (n : Int) ≤ pr f' (n : Int) := by
  have h1 : f * (n : Int) ≤ f' * n := Int.mul_le_mul_of_nonneg_right h (by omega)
  have h2 : f * (n : Int) * ((n : Int) + 1) ≤ f' * n * ((n : Int) + 1) := Int.mul_le_mul_of_nonneg_right h1 (by omega)
  simp only [pr]; omega
theorem pr_mono {f : Int} (hf : 0 ≤ f) {n n' : Nat} (h : n ≤ n') : pr f (n : Int) ≤ pr f (n' : Int) := by
  have h1 : f * (n : Int) ≤ f * n' := Int.mul_le_mul_of_nonneg_left (by omega) hf
  have h0 : 0 ≤ f * (n' : Int) := Int.mul_nonneg hf (by omega)
  have h2 : f * (n : Int) * ((n : Int) + 1) ≤ f * n' * ((n : Int) + 1) := Int.mul_le_mul_of_nonneg_right h1 (by omega)
  have h3 : f * (n' : Int) * ((n : Int) + 1) ≤ f * n' * ((n' : Int) + 1) := Int.mul_le_mul_of_nonneg_left (by omega) h0
  simp only [pr]; omega
theorem hoursR_force {f f' m : Int} (hf : 1 ≤ f) (h : f ≤ f') (hm : m ≤ 900) : hoursR f' m ≤ hoursR f m :=
  hoursR_le (by omega) hm (by have h1 := (hoursR_spec hf hm).1; have h2 := pr_force h (hoursR f m); omega)
theorem hoursR_900 {f m : Int} (hf : 1 ≤ f) (hm : m ≤ 900) : hoursR f m ≤ 42 := by
  refine Nat.le_trans (hoursR_force (f := 1) (f' := f) (by omega) hf hm) ?_
  exact hoursR_le (by omega) hm (by have : pr 1 ((42 : Nat) : Int) = 903 := by decide
                                    omega)

/-! ### Muds -/
theorem pairs_mem {k : Wk} (h : OkK k) {p : List Int × Crs} : p ∈ pairs k ↔ p.1 ∈ truthsX k.yard ∧ ∃ l ∈ truthsW k.beat, toC l = p.2 := by
  obtain ⟨b, c⟩ := p
  simp only [pairs, prod, List.mem_flatMap, List.mem_map, Prod.mk.injEq]
  constructor
  · rintro ⟨b0, hb, c0, hc, rfl, rfl⟩
    exact ⟨(mem_truths1 h.y.f h.m1).1 hb, (mem_truths3 h.b).1 hc⟩
  · rintro ⟨hb, hc⟩
    exact ⟨b, (mem_truths1 h.y.f h.m1).2 hb, c, (mem_truths3 h.b).2 hc, rfl, rfl⟩
/-- All muds of a vat. -/
def mudsL (k : Wk) (i : Nat) : List Int := (pairs k).map fun p => mudR k p.1 p.2 (i : Int)
theorem mudsL_ne {k : Wk} (h : OkK k) (i : Nat) : mudsL k i ≠ [] := by simp [mudsL, pairs_ne h]
theorem mudsL_bd {k : Wk} (h : OkK k) {i : Nat} (hi : i < k.yard.vats.length) : ∀ x ∈ mudsL k i, 0 ≤ x ∧ x ≤ 900 := fun x hx => by
  obtain ⟨p, hp, rfl⟩ := List.mem_map.1 hx
  exact mudR_bd h hp hi
theorem mudsV_len (k : Wk) (val : Int → Int) : (mudsV k val).length = k.yard.vats.length := by simp [mudsV, bnds]
theorem mudsV_nth {k : Wk} (val : Int → Int) {i : Nat} (hi : i < k.yard.vats.length) : nth (mudsV k val) i = hull ((mudsL k i).map val) := by
  rw [mudsV, bnds_nth hi, mudsL, List.map_map]; rfl
theorem mudsV_id {k : Wk} {i : Nat} (hi : i < k.yard.vats.length) : nth (mudsV k fun m => m) i = hull (mudsL k i) := by
  rw [mudsV_nth _ hi]; congr 1; exact List.map_id' _
theorem mudsV_mono {k : Wk} (h : OkK k) {i : Nat} (hi : i < k.yard.vats.length) (val : Int → Int) (hv : ∀ x y, 0 ≤ x → x ≤ y → y ≤ 900 → val x ≤ val y) (hb : ∀ x, 0 ≤ x → x ≤ 900 → 0 ≤ val x ∧ val x < 2 ^ 40) :
    nth (mudsV k val) i = (val (nth (mudsV k fun m => m) i).1, val (nth (mudsV k fun m => m) i).2) := by
  have hbd := mudsL_bd h hi
  rw [mudsV_nth _ hi, mudsV_id hi]
  refine hull_map_mono (mudsL_ne h i) (fun x hx => by have := hbd x hx; omega) val (fun x hx y hy hxy => ?_) (fun x hx => ?_)
  · have h1 := hbd x hx
    have h2 := hbd y hy
    exact hv x y h1.1 hxy h2.2
  · have h1 := hbd x hx
    exact hb x h1.1 h1.2
theorem muds_bd {k : Wk} (h : OkK k) {i : Nat} (hi : i < k.yard.vats.length) : 0 ≤ (nth (mudsV k fun m => m) i).1 ∧ (nth (mudsV k fun m => m) i).1 ≤ (nth (mudsV k fun m => m) i).2 ∧ (nth (mudsV k fun m => m) i).2 ≤ 900 ∧
    (nth (mudsV k fun m => m) i).1 ∈ mudsL k i ∧ (nth (mudsV k fun m => m) i).2 ∈ mudsL k i := by
  have hbd := mudsL_bd h hi
  rw [mudsV_id hi]
  obtain ⟨h1, h2⟩ := hull_ends (mudsL_ne h i) (fun x hx => by have := hbd x hx; omega)
  have h3 := hbd _ h1
  have h4 := hbd _ h2
  have h5 := (hull_in h1).2
  exact ⟨by omega, by omega, by omega, h1, h2⟩
theorem hours_mono {k : Wk} (h : OkK k) {i : Nat} (hi : i < k.yard.vats.length) : nth (mudsV k fun m => (hoursR k.force m : Int)) i = ((hoursR k.force (nth (mudsV k fun m => m) i).1 : Int), (hoursR k.force (nth (mudsV k fun m => m) i).2 : Int)) :=
  mudsV_mono h hi _ (fun x y h0 h1 h2 => by have := hoursR_mono h.force.1 h2 h1; omega) (fun x h0 h1 => by have := hoursR_900 h.force.1 h1; omega)
theorem cakes_mono {k : Wk} (h : OkK k) {i : Nat} (hi : i < k.yard.vats.length) : nth (mudsV k fun m => m / k.cake) i = ((nth (mudsV k fun m => m) i).1 / k.cake, (nth (mudsV k fun m => m) i).2 / k.cake) := by
  have hc := h.cake
  refine mudsV_mono h hi _ (fun x y h0 h1 h2 => Int.ediv_le_ediv (by omega) h1) (fun x h0 h1 => ?_)
  have h2 : 0 ≤ x / k.cake := Int.ediv_nonneg h0 (by omega)
  have h3 : x / k.cake ≤ x := Int.ediv_le_self _ h0
  exact ⟨h2, by omega⟩
/-- What is lost at the worst. -/
def worstC (y : Bt) (i : Nat) (h : Int) : Int := hiL ((truthsW y).map fun l => lostC y (toC l) (i : Int) h)
def leastB (y : Yd) (i : Nat) : Int := loL (dots y (truthsX y) i)
theorem lost_bd {k : Wk} (h : OkK k) {l : List Int} (hl : l ∈ truthsW k.beat) {i : Nat} (hi : i < k.yard.vats.length) {x : Int} (hx : 0 ≤ x ∧ x ≤ 9) : 0 ≤ lostC k.beat (toC l) (i : Int) x ∧ lostC k.beat (toC l) (i : Int) x ≤ 520 :=
  lostC_bd h.b (InC_of (mem_lex.1 (List.mem_filter.1 hl).1)) (by omega) (by have := h.len; omega) hx
theorem dots_okK {k : Wk} (h : OkK k) {i : Nat} (hi : i < k.yard.vats.length) : ∀ x ∈ dots k.yard (truthsX k.yard) i, 0 ≤ x ∧ x ≤ 900 := dots_bd h.y (truthsX_ok h.y.f) hi
theorem worstC_mem {k : Wk} (h : OkK k) {i : Nat} (hi : i < k.yard.vats.length) {x : Int} (hx : 0 ≤ x ∧ x ≤ 9) : ∃ l ∈ truthsW k.beat, worstC k.beat i x = lostC k.beat (toC l) (i : Int) x := by
  obtain ⟨_, h2⟩ := hull_ends (l := (truthsW k.beat).map fun l => lostC k.beat (toC l) (i : Int) x) (by simp [h.t3]) (fun y hy => by
    obtain ⟨l, hl, rfl⟩ := List.mem_map.1 hy
    have := lost_bd h hl hi hx; omega)
  obtain ⟨l, hl, e⟩ := List.mem_map.1 h2
  exact ⟨l, hl, e.symm⟩
theorem worstC_ge {y : Bt} {i : Nat} {x : Int} {l : List Int} (hl : l ∈ truthsW y) : lostC y (toC l) (i : Int) x ≤ worstC y i x := (hull_in (List.mem_map.2 ⟨l, hl, rfl⟩)).2
theorem leastB_mem {k : Wk} (h : OkK k) {i : Nat} (hi : i < k.yard.vats.length) : ∃ b ∈ truthsX k.yard, leastB k.yard i = dot b (nth k.yard.vats i) := by
  obtain ⟨h1, _⟩ := hull_ends (l := dots k.yard (truthsX k.yard) i) (by simp [dots, h.t1]) (fun y hy => by have := dots_okK h hi y hy; omega)
  obtain ⟨l, hl, e⟩ := List.mem_map.1 h1
  exact ⟨l, hl, e.symm⟩
theorem leastB_le {y : Yd} {i : Nat} {b : List Int} (hb : b ∈ truthsX y) : leastB y i ≤ dot b (nth y.vats i) := (hull_in (List.mem_map.2 ⟨b, hb, rfl⟩)).1
/-- The sure mud: the least blue, less what is lost at the worst. -/
theorem muds_lo {k : Wk} (h : OkK k) {i : Nat} (hi : i < k.yard.vats.length) (hx : 0 ≤ nth k.ends i ∧ nth k.ends i ≤ 9) : (nth (mudsV k fun m => m) i).1 = max 0 (leastB k.yard i - worstC k.beat i (nth k.ends i)) := by
  obtain ⟨g1, g2, g3, g4, g5⟩ := muds_bd h hi
  obtain ⟨p, hp, e⟩ := List.mem_map.1 g4
  obtain ⟨q1, l, hl, q2⟩ := (pairs_mem h).1 hp
  obtain ⟨b', hb', eb⟩ := leastB_mem h hi
  obtain ⟨l', hl', el⟩ := worstC_mem h hi hx
  have e1 := leastB_le (i := i) q1
  have e2 := worstC_ge (i := i) (x := nth k.ends i) hl
  have e3 : mudR k b' (toC l') (i : Int) ∈ mudsL k i := List.mem_map.2 ⟨(b', toC l'), (pairs_mem h).2 ⟨hb', l', hl', rfl⟩, rfl⟩
  have e4 := (hull_in e3).1
  rw [← mudsV_id hi] at e4
  simp only [mudR, Int.toNat_natCast, ← q2] at e e4
  rw [← eb, ← el] at e4
  omega
end Go.Proofs.YtkbaaikidhbfmaaGreat
/- Plain mathematics: when vats are pressed, endings, the best plan. No statement is proved here. -/
set_option linter.unusedVariables false
set_option linter.unusedSimpArgs false
namespace Go.Proofs.YtkbaaikidhbfmaaGreat
open Go.RowKit
/-- The hours that a vat needs, in two truths. -/
def hrP (k : Wk) (p : List Int × Crs) (i : Nat) : Int := (hoursR k.force (mudR k p.1 p.2 (i : Int)) : Int)
theorem atP_eq (k : Wk) (l : List Int) (p : List Int × Crs) (i : Nat) : atP k l p i = atN (hrP k p) l (nth l i) (i + 1) := rfl
theorem hrP_bd {k : Wk} (h : OkK k) {p : List Int × Crs} (hp : p ∈ pairs k) {i : Nat} (hi : i < k.yard.vats.length) : 0 ≤ hrP k p i ∧ hrP k p i ≤ 42 := by
  have h1 := mudR_bd h hp hi
  have h2 := hoursR_900 h.force.1 h1.2
  simp only [hrP]; omega
theorem atN_nn {hr : Nat → Int} {l : List Int} {v : Int} : ∀ n, (∀ i, i < n → 0 ≤ hr i) → 0 ≤ atN hr l v n
  | 0, _ => by simp [atN]
  | n + 1, h => by
    have h1 := atN_nn (hr := hr) (l := l) (v := v) n fun i hi => h i (by omega)
    have h2 := h n (by omega)
    simp only [atN]; split <;> omega
theorem atN_grow {hr : Nat → Int} {l : List Int} {v : Int} {n : Nat} : ∀ m, (∀ i, i < n + m → 0 ≤ hr i) → atN hr l v n ≤ atN hr l v (n + m)
  | 0, _ => Int.le_refl _
  | m + 1, h => by
    have h1 := atN_grow (hr := hr) (l := l) (v := v) (n := n) m fun i hi => h i (by omega)
    have h2 := h (n + m) (by omega)
    rw [← Nat.add_assoc]
    simp only [atN]; split <;> omega
theorem atN_mono {h1 h2 : Nat → Int} {l : List Int} {v : Int} : ∀ n, (∀ i, i < n → h1 i ≤ h2 i) → atN h1 l v n ≤ atN h2 l v n
  | 0, _ => Int.le_refl _
  | n + 1, h => by
    have q1 := atN_mono (h1 := h1) (h2 := h2) (l := l) (v := v) n fun i hi => h i (by omega)
    have q2 := h n (by omega)
    simp only [atN]; split <;> omega
theorem atN_box {hr : Nat → Int} {l l' : List Int} {v v' : Int} : ∀ n, (∀ i, i < n → (nth l i = v ↔ nth l' i = v')) → atN hr l v n = atN hr l' v' n
  | 0, _ => rfl
  | n + 1, h => by
    simp only [atN]; rw [atN_box n fun i hi => h i (by omega)]
    have := h n (by omega)
    by_cases e : nth l n = v
    · rw [if_pos e, if_pos (this.1 e)]
    · rw [if_neg e, if_neg fun h' => e (this.2 h')]
theorem atN_alone {hr : Nat → Int} {l : List Int} {v : Int} : ∀ n, (∀ i, i < n → nth l i ≠ v) → atN hr l v n = 0
  | 0, _ => rfl
  | n + 1, h => by
    simp only [atN]; rw [atN_alone n fun i hi => h i (by omega), if_neg (h n (by omega))]; rfl
/-- A vat's own hours are among those after which it is pressed. -/
theorem atP_ge {k : Wk} (h : OkK k) (l : List Int) {p : List Int × Crs} (hp : p ∈ pairs k) {i : Nat} (hi : i < k.yard.vats.length) : hrP k p i ≤ atP k l p i := by
  have h1 := atN_nn (hr := hrP k p) (l := l) (v := nth l i) i fun j hj => (hrP_bd h hp (by omega)).1
  rw [atP_eq]; simp only [atN, if_true]; omega
theorem timesV_nth {k : Wk} (l : List Int) {i : Nat} (hi : i < k.yard.vats.length) : nth (timesV k l) i = hull ((pairs k).map fun p => atP k l p i) := by rw [timesV, bnds_nth hi]
theorem times_in {k : Wk} (l : List Int) {p : List Int × Crs} (hp : p ∈ pairs k) {i : Nat} (hi : i < k.yard.vats.length) : (nth (timesV k l) i).1 ≤ atP k l p i ∧ atP k l p i ≤ (nth (timesV k l) i).2 := by
  rw [timesV_nth l hi]
  exact hull_in (List.mem_map.2 ⟨p, hp, rfl⟩)
theorem times_hi {k : Wk} (h : OkK k) (l : List Int) {i : Nat} (hi : i < k.yard.vats.length) : ∃ p ∈ pairs k, (nth (timesV k l) i).2 = atP k l p i := by
  rw [timesV_nth l hi]
  obtain ⟨_, h2⟩ := hull_ends (l := (pairs k).map fun p => atP k l p i) (by simp [pairs_ne h]) (fun x hx => by
    obtain ⟨p, hp, rfl⟩ := List.mem_map.1 hx
    have := atP_bd h l hp hi; omega)
  obtain ⟨p, hp, e⟩ := List.mem_map.1 h2
  exact ⟨p, hp, e.symm⟩
theorem hours_in {k : Wk} (h : OkK k) {p : List Int × Crs} (hp : p ∈ pairs k) {i : Nat} (hi : i < k.yard.vats.length) : (nth (mudsV k fun m => (hoursR k.force m : Int)) i).1 ≤ hrP k p i ∧ hrP k p i ≤ (nth (mudsV k fun m => (hoursR k.force m : Int)) i).2 := by
  rw [mudsV_nth _ hi]
  exact hull_in (List.mem_map.2 ⟨_, List.mem_map.2 ⟨p, hp, rfl⟩, rfl⟩)
theorem hours_hi {k : Wk} (h : OkK k) {i : Nat} (hi : i < k.yard.vats.length) : ∃ p ∈ pairs k, (nth (mudsV k fun m => (hoursR k.force m : Int)) i).2 = hrP k p i := by
  rw [mudsV_nth _ hi]
  obtain ⟨_, h2⟩ := hull_ends (l := (mudsL k i).map fun m => (hoursR k.force m : Int)) (by simp [mudsL_ne h]) (fun x hx => by
    obtain ⟨y, hy, rfl⟩ := List.mem_map.1 hx
    obtain ⟨p, hp, rfl⟩ := List.mem_map.1 hy
    have := hrP_bd h hp hi; simp only [hrP] at this; omega)
  obtain ⟨x, hx, e⟩ := List.mem_map.1 h2
  obtain ⟨p, hp, e2⟩ := List.mem_map.1 hx
  exact ⟨p, hp, by rw [← e, ← e2]; rfl⟩
theorem hours_bd2 {k : Wk} (h : OkK k) {i : Nat} (hi : i < k.yard.vats.length) : 0 ≤ (nth (mudsV k fun m => (hoursR k.force m : Int)) i).1 ∧ (nth (mudsV k fun m => (hoursR k.force m : Int)) i).1 ≤ (nth (mudsV k fun m => (hoursR k.force m : Int)) i).2 ∧ (nth (mudsV k fun m => (hoursR k.force m : Int)) i).2 ≤ 42 := by
  obtain ⟨g1, g2, g3, _, _⟩ := muds_bd h hi
  have h1 := hoursR_mono h.force.1 g3 g2
  have h2 := hoursR_900 h.force.1 g3
  rw [hours_mono h hi]
  simp only; omega
theorem hours_len (k : Wk) : (mudsV k fun m => (hoursR k.force m : Int)).length = k.yard.vats.length := mudsV_len k _

/-! ### Endings -/
theorem endR_le : ∀ (rs : List Rg) (n x : Int), rs.foldl (fun n r => max n r.2) n ≤ x ↔ n ≤ x ∧ ∀ r ∈ rs, r.2 ≤ x
  | [], n, x => by simp
  | r :: rs, n, x => by
    simp only [List.foldl_cons, endR_le rs, List.mem_cons, forall_eq_or_imp]
    exact ⟨fun ⟨h1, h2⟩ => ⟨by omega, by omega, h2⟩, fun ⟨h1, h2, h3⟩ => ⟨by omega, h3⟩⟩
theorem endV_le {k : Wk} (h : OkK k) {l : List Int} {x : Int} : endV k l ≤ x ↔ 0 ≤ x ∧ ∀ i, i < k.yard.vats.length → (nth (timesV k l) i).2 ≤ x := by
  have hl := timesV_len k l
  simp only [endV, endR, endR_le]
  constructor
  · rintro ⟨h1, h2⟩; exact ⟨h1, fun i hi => h2 _ (nth_mem (by omega))⟩
  · rintro ⟨h1, h2⟩
    refine ⟨h1, fun r hr => ?_⟩
    obtain ⟨i, hi⟩ := List.getElem?_of_mem hr
    have hlt := (List.getElem?_eq_some_iff.1 hi).1
    have e : nth (timesV k l) i = r := by simp [nth, hi]
    rw [← e]; exact h2 i (by omega)
theorem endV_leP {k : Wk} (h : OkK k) {l : List Int} {x : Int} : endV k l ≤ x ↔ 0 ≤ x ∧ ∀ i, i < k.yard.vats.length → ∀ p ∈ pairs k, atP k l p i ≤ x := by
  rw [endV_le h]
  constructor
  · rintro ⟨h1, h2⟩
    refine ⟨h1, fun i hi p hp => ?_⟩
    have := h2 i hi
    have := (times_in l hp hi).2
    omega
  · rintro ⟨h1, h2⟩
    refine ⟨h1, fun i hi => ?_⟩
    obtain ⟨p, hp, e⟩ := times_hi h l hi
    rw [e]; exact h2 i hi p hp
theorem endV_ge {k : Wk} (h : OkK k) (l : List Int) {i : Nat} (hi : i < k.yard.vats.length) : (nth (timesV k l) i).2 ≤ endV k l := ((endV_le h).1 (Int.le_refl _)).2 i hi
/-- The most hours that a vat can need. -/
def mostV (k : Wk) : Int := endR (mudsV k fun m => (hoursR k.force m : Int))
theorem mostV_le {k : Wk} {x : Int} : mostV k ≤ x ↔ 0 ≤ x ∧ ∀ i, i < k.yard.vats.length → (nth (mudsV k fun m => (hoursR k.force m : Int)) i).2 ≤ x := by
  have hl := hours_len k
  simp only [mostV, endR, endR_le]
  constructor
  · rintro ⟨h1, h2⟩; exact ⟨h1, fun i hi => h2 _ (nth_mem (by omega))⟩
  · rintro ⟨h1, h2⟩
    refine ⟨h1, fun r hr => ?_⟩
    obtain ⟨i, hi⟩ := List.getElem?_of_mem hr
    have hlt := (List.getElem?_eq_some_iff.1 hi).1
    have e : nth (mudsV k fun m => (hoursR k.force m : Int)) i = r := by simp [nth, hi]
    rw [← e]; exact h2 i (by omega)
theorem mostV_end {k : Wk} (h : OkK k) (l : List Int) : mostV k ≤ endV k l := by
  rw [mostV_le]
  refine ⟨(endV_bd h l).1, fun i hi => ?_⟩
  obtain ⟨p, hp, e⟩ := hours_hi h hi
  have h1 := atP_ge h l hp hi
  have h2 := (times_in l hp hi).2
  have h3 := endV_ge h l hi
  omega
/-- Each vat in a box of its own. -/
theorem end_own {k : Wk} (h : OkK k) {l : List Int} (hl : ∀ i j, j < i → i < k.yard.vats.length → nth l j ≠ nth l i) : endV k l = mostV k := by
  have h1 := mostV_end h l
  have h2 : endV k l ≤ mostV k := by
    rw [endV_leP h]
    obtain ⟨h3, h4⟩ := (mostV_le (k := k)).1 (Int.le_refl _)
    refine ⟨h3, fun i hi p hp => ?_⟩
    rw [atP_eq]
    simp only [atN, if_true]
    rw [atN_alone i fun j hj => hl i j hj hi]
    have := (hours_in h hp hi).2
    have := h4 i hi
    omega
  omega

/-! ### The best plan -/
theorem InL_rep : ∀ {n : Nat} {b : Int} {l : List Int}, InL (List.replicate n (0, b)) l ↔ l.length = n ∧ ∀ x ∈ l, 0 ≤ x ∧ x ≤ b
  | 0, b, [] => by simp [InL]
  | 0, b, x :: xs => by simp [InL]
  | n + 1, b, [] => by simp [InL, List.replicate_succ]
  | n + 1, b, x :: xs => by
    simp only [List.replicate_succ, InL, InL_rep (n := n), List.length_cons, List.mem_cons, forall_eq_or_imp]
    exact ⟨fun ⟨h1, h2, h3⟩ => ⟨by omega, h1, h3⟩, fun ⟨h1, h2, h3⟩ => ⟨h2, by omega, h3⟩⟩
/-- One list is before another one, in lexicographic order. -/
def bef : List Int → List Int → Bool
  | x :: xs, y :: ys => decide (x < y) || (decide (x = y) && bef xs ys)
  | _, _ => false
theorem bef_irr : ∀ l : List Int, bef l l = false
  | [] => rfl
  | x :: xs => by simp [bef, bef_irr xs]
theorem bef_asym : ∀ {a b : List Int}, bef a b = true → bef b a = false
  | [], [], h => by simp [bef] at h
  | [], _ :: _, h => by simp [bef] at h
  | _ :: _, [], h => by simp [bef] at h
  | x :: xs, y :: ys, h => by
    simp only [bef, Bool.or_eq_true, Bool.and_eq_true, decide_eq_true_eq] at h
    rcases h with h | ⟨rfl, h⟩
    · simp only [bef]
      rw [decide_eq_false (by omega), decide_eq_false (by omega)]; rfl
    · simp [bef, bef_asym h]
theorem rangeL_pw (a b : Int) : (rangeL a b).Pairwise (· < ·) := by
  simp only [rangeL, List.pairwise_map]
  exact List.Pairwise.imp (fun h => by omega) List.pairwise_lt_range
/-- The lists come in lexicographic order. -/
theorem lex_pw : ∀ rs : List Rg, (lex rs).Pairwise fun a b => bef a b = true
  | [] => by simp [lex]
  | r :: rs => by
    have ih := lex_pw rs
    simp only [lex]
    rw [List.pairwise_flatMap]
    constructor
    · intro n _
      rw [List.pairwise_map]
      exact ih.imp fun h => by simp [bef, h]
    · refine (rangeL_pw r.1 r.2).imp fun {n m} h x hx y hy => ?_
      obtain ⟨x', _, rfl⟩ := List.mem_map.1 hx
      obtain ⟨y', _, rfl⟩ := List.mem_map.1 hy
      simp [bef, h]
/-- What the fold over all plans has found. -/
structure Bst (k : Wk) (ls : List (List Int)) (s : List Int × Int) : Prop where
  mem : s.1 ∈ ls
  val : s.2 = endV k s.1
  least : ∀ l ∈ ls, s.2 ≤ endV k l
  first : ∀ l ∈ ls, endV k l = s.2 → bef l s.1 = false
theorem Bst.snoc {k : Wk} (h : OkK k) {ls : List (List Int)} {s : List Int × Int} (hs : Bst k ls s) {x : List Int} (hp : ∀ l ∈ ls, bef l x = true) : Bst k (ls ++ [x]) (bestStep k s x) := by
  have h0 := (endV_bd h s.1).1
  have hv := hs.val
  simp only [bestStep]
  split
  · rename_i hc
    have hc : endV k x < s.2 := by omega
    refine ⟨by simp, rfl, fun l hl => ?_, fun l hl e => ?_⟩
    · rcases List.mem_append.1 hl with hl | hl
      · have := hs.least l hl; simp only; omega
      · simp at hl; subst hl; exact Int.le_refl _
    · rcases List.mem_append.1 hl with hl | hl
      · have := hs.least l hl; simp only at e; omega
      · simp at hl; subst hl; exact bef_irr _
  · rename_i hc
    refine ⟨by simp [hs.mem], hv, fun l hl => ?_, fun l hl e => ?_⟩
    · rcases List.mem_append.1 hl with hl | hl
      · exact hs.least l hl
      · simp at hl; subst hl; omega
    · rcases List.mem_append.1 hl with hl | hl
      · exact hs.first l hl e
      · simp at hl; subst hl
        exact bef_asym (hp _ hs.mem)
theorem Bst.fold {k : Wk} (h : OkK k) : ∀ (xs ls : List (List Int)) (s : List Int × Int), Bst k ls s → (ls ++ xs).Pairwise (fun a b => bef a b = true) → Bst k (ls ++ xs) (xs.foldl (bestStep k) s)
  | [], ls, s, hs, _ => by simpa using hs
  | x :: xs, ls, s, hs, hp => by
    have hp2 := List.pairwise_append.1 hp
    have h1 := hs.snoc h (x := x) fun l hl => hp2.2.2 l hl x (List.mem_cons_self ..)
    have e : ls ++ x :: xs = (ls ++ [x]) ++ xs := by simp
    rw [e] at hp ⊢
    exact Bst.fold h xs _ _ h1 hp
theorem best_of {k : Wk} (h : OkK k) {ls : List (List Int)} (h0 : ls ≠ []) (hp : ls.Pairwise fun a b => bef a b = true) : Bst k ls (bestF k ls) := by
  match ls, h0, hp with
  | x :: xs, _, hp =>
    have h1 : Bst k [x] (x, endV k x) := ⟨by simp, rfl, fun l hl => by simp at hl; subst hl; exact Int.le_refl _, fun l hl _ => by simp at hl; subst hl; exact bef_irr _⟩
    have := Bst.fold h xs [x] _ h1 (by simpa using hp)
    simpa [bestF, bestStep] using this
theorem plans_ne {n : Nat} {b : Int} (hb : 1 ≤ b) : lex (List.replicate n (0, b - 1)) ≠ [] := by
  intro e
  have : List.replicate n 0 ∈ lex (List.replicate n (0, b - 1)) := mem_lex.2 (InL_rep.2 ⟨by simp, fun x hx => by rw [List.eq_of_mem_replicate hx]; omega⟩)
  rw [e] at this; cases this
theorem mem_plans {k : Wk} {b : Int} {l : List Int} : l ∈ lex (List.replicate k.yard.vats.length (0, b - 1)) ↔ l.length = k.yard.vats.length ∧ ∀ x ∈ l, 0 ≤ x ∧ x ≤ b - 1 := by rw [mem_lex, InL_rep]
theorem isPlan_iff {k : Wk} {l : List Int} : isPlan k l = true ↔ l ∈ lex (List.replicate k.yard.vats.length (0, k.boxes - 1)) := by
  rw [mem_plans]
  simp only [isPlan, Bool.and_eq_true, decide_eq_true_eq, List.all_eq_true]
  exact ⟨fun h => ⟨h.2, h.1⟩, fun h => ⟨h.2, h.1⟩⟩
theorem bestL_ok {k : Wk} (h : OkK k) {b : Int} (hb : 1 ≤ b) : Bst k (lex (List.replicate k.yard.vats.length (0, b - 1))) (bestL k b) := best_of h (plans_ne hb) (lex_pw _)
theorem best_more {k : Wk} (h : OkK k) {b b' : Int} (hb : 1 ≤ b) (hbb : b ≤ b') : (bestL k b').2 ≤ (bestL k b).2 := by
  have h1 := bestL_ok h hb
  have h2 := bestL_ok h (b := b') (by omega)
  obtain ⟨g1, g2⟩ := mem_plans.1 h1.mem
  rw [h1.val]
  exact h2.least _ (mem_plans.2 ⟨g1, fun x hx => by have := g2 x hx; omega⟩)
theorem best_most {k : Wk} (h : OkK k) {b : Int} (hb : 1 ≤ b) : mostV k ≤ (bestL k b).2 := by
  rw [(bestL_ok h hb).val]; exact mostV_end h _
theorem best_own {k : Wk} (h : OkK k) {b : Int} (hb : 1 ≤ b) (hn : (k.yard.vats.length : Int) ≤ b) : (bestL k b).2 = mostV k := by
  have h1 := best_most h hb
  have h2 := (bestL_ok h hb).least ((List.range k.yard.vats.length).map fun (i : Nat) => (i : Int)) (mem_plans.2 ⟨by simp, fun x hx => by
    obtain ⟨i, hi, rfl⟩ := List.mem_map.1 hx
    have := List.mem_range.1 hi; omega⟩)
  have h3 : endV k ((List.range k.yard.vats.length).map fun (i : Nat) => (i : Int)) = mostV k := end_own h fun i j hj hi => by
    have e : ∀ q, q < k.yard.vats.length → nth ((List.range k.yard.vats.length).map fun (i : Nat) => (i : Int)) q = (q : Int) := fun q hq => by simp [nth, hq]
    rw [e i hi, e j (by omega)]; omega
  omega
end Go.Proofs.YtkbaaikidhbfmaaGreat
/- Contracts: plans by words, ranges inside of others, lists in order. No statement is proved here. -/
set_option linter.unusedVariables false
set_option linter.unusedSimpArgs false
namespace Go.Proofs.YtkbaaikidhbfmaaGreat
open Go.RowKit
def encU (x : Int) : List Value := [.int .u16 x]
def wordR (xs : List Int) (i : Nat) : Int := if xs.length = 0 then 0 else nth xs (i % xs.length)
/-- Words are numbers of 16 bits. -/
def Words (xs : List Int) : Prop := ∀ i, i < xs.length → 0 ≤ nth xs i ∧ nth xs i ≤ 65535
theorem wordR_bd {xs : List Int} (h : Words xs) (i : Nat) : 0 ≤ wordR xs i ∧ wordR xs i ≤ 65535 := by
  simp only [wordR]; split
  · omega
  · exact h _ (Nat.mod_lt _ (by omega))
def plannedL (k : Wk) (xs : List Int) : List Int := (List.range k.yard.vats.length).map fun i => wordR xs i % k.boxes
theorem plannedL_len (k : Wk) (xs : List Int) : (plannedL k xs).length = k.yard.vats.length := by simp [plannedL]
theorem plannedL_nth {k : Wk} {xs : List Int} {i : Nat} (h : i < k.yard.vats.length) : nth (plannedL k xs) i = wordR xs i % k.boxes := by simp [plannedL, nth, h]
theorem Ob_remn {b0 : World} {R : Rgs} {H : Hp} {fr : Slots} {dst : Option Nat} {g : Option (Nat × Bool)} {ty : TypeId} {ps : String} {af : Array Edge} {t yt : TypeId} {x y : Operand} {k : IntKind} {i m : Nat} (hx : ev fr x = some (.int k (i : Int))) (hy : ev fr y = some (.int k (m : Int))) (h : 0 < m) :
    Ob b0 R H ⟨dst, .binOp .rem t x y yt, ty, ps, af, g⟩ fr (.int k ((i % m : Nat) : Int)) := by
  have := Ob_rem (b0 := b0) (R := R) (H := H) (dst := dst) (g := g) (ty := ty) (ps := ps) (af := af) (t := t) (yt := yt) hx hy (by omega) (by omega)
  rwa [← Int.natCast_emod] at this
theorem c58 (w : World) (v : Value) (xs : List Int) (i : Nat) (hA : Arr All w 1 encU v xs) (hW : Words xs) (hi : i ≤ 1000) : Ex 58 [v, .int .i64 (i : Int)] w (.int .i64 (wordR xs i)) := by
  have i1 := hA.v1
  have b1 := hA.bound
  have hb := wordR_bd hW i
  refine Rt_of Tryz.func58 rfl Tryz.ntmps58 rfl ?_
  by_cases h0 : xs.length = 0
  · have e : wordR xs i = 0 := by simp [wordR, h0]
    rw [e]
    repeat' (first | apply s_ | (apply JO_ob; exact rfl; first | exact ob1) | ((first | apply b_ | apply a_ | apply i_); exact z_; intro _) | ((first | apply p_ | apply JO_yes | apply GC_t); exact z_) | (apply n_; exact z_) | (apply GC_f; exact z_) | (apply GX_block_on; exact z_))
    exact GX_ex rfl rfl mem_ rfl
  · have e : wordR xs i = nth xs (i % xs.length) := by simp [wordR, h0]
    rw [e] at hb ⊢
    have hlt : i % xs.length < xs.length := Nat.mod_lt _ (by omega)
    repeat' (first | apply s_ | (apply JO_ob; exact rfl; first | exact ob1 | exact Ob_remn rfl rfl (by omega) | exact Ob_convert rfl (wrapI (by omega) (by omega))) | ((first | apply b_ | apply a_ | apply i_); exact z_; intro _) | ((first | apply p_ | apply JO_yes | apply GC_t); exact z_) | (apply n_; exact z_) | (apply GC_f; exact z_) | (apply GX_block_on; exact z_))
    exact GX_ex rfl rfl mem_ rfl
section
variable {w : World} {a b c d e f v : Value} {hs : List Value} {k : Wk}
theorem c56 (h : WkA All w a b c hs d e f k) (h3 : k.yard.vats.length ≤ 3) (hbx : 1 ≤ k.boxes ∧ k.boxes ≤ 3) (xs : List Int) (hA : Arr All w 1 encU v xs) (hW : Words xs) : Rt 56 [wkV a b c d e f k, v] w fun r w' => Keep w w' ∧ Arr (New w) w' 1 encI r (plannedL k xs) := by
  have i1 := h.yard.fields.v1
  have i2 := h.yard.vats.arr.v1
  have i3 := h.yard.smps.v1
  have i4 := h.beat.vats.v1
  have i5 := h.beat.smps.v1
  have i6 := h.ends.v1
  have i7 := hA.v1
  have hsl := h.yard.vats.len
  have hpl := plannedL_len k xs
  refine Rt_of Tryz.func56 rfl Tryz.ntmps56 rfl ?_
  repeat' (first | apply s_ | ((first | apply JO_ob | apply GD_ex | apply GL_ex); exact rfl; first | exact ob1) | ((first | apply b_ | apply a_ | apply i_); exact z_; intro _) | ((first | apply p_ | apply JO_yes | apply GC_t); exact z_) | (apply n_; exact z_) | (apply GC_f; exact z_) | (apply GX_block_on; exact z_) | refine GC_drawB (id := 5) [1, 2, 3, 4, 5, 6] [0] [7, 8, 9] _ (by kernel_rfl) (List.Sublist.refl _) ?_ | ((first | apply GD_at | apply GL_at | apply GD_no | apply GL_no); exact rfl) | apply DFin_0 | (apply q1_; exact z_) | (apply q0_; exact z_) | (apply q2_; exact z_) | (apply c_; exact z_; all_goals intro _) | (apply g_; exact z_; all_goals intro _))
  rename_i p2
  let Hf : Value → Nat → List Value → Hp := fun v n s => (p2, .cells (wkC a b c d e f k).toArray 35) :: rowH v 3 (((plannedL k xs).take n).flatMap encI ++ s)
  refine GC_loop (α := Nat × Value × List Value) (fun s => k.yard.vats.length - s.1) (fun s => [(2, pt p2), (1, v), (5, s.2.1), (6, .int .i64 (s.1 : Int))]) (fun _ => [((fun _ => True), w)])
    (fun s => Hf s.2.1 s.1 s.2.2) (fun s => s.1 ≤ k.yard.vats.length ∧ Own 1 encI s.2.1 ((plannedL k xs).take s.1) s.2.2) (0, .slice none 0 0, []) ⟨rfl, rfl, rfl, rfl, trivial⟩ ⟨Nat.zero_le _, Own.nil fun _ => rfl⟩ (fun w hw => hw) ?_
  rintro ⟨i, ov, sp⟩ ⟨hi, ho⟩
  simp only at hi ho ⊢
  have jo := ho.v1
  by_cases hlt : i < k.yard.vats.length
  · have wb := wordR_bd hW i
    simp only [Hf]
    repeat' (first | apply s_ | ((first | apply JO_ob | apply GD_ex | apply GL_ex); exact rfl; first | exact ob1 | exact Ob_call rfl (fun w hw => c26 w a b c _ _ d _ e f _ _ _ _ (hw.arr mem_ h.yard.vats.arr)) | exact Ob_call rfl (fun w5 hw5 => c58 w5 v xs i (hw5.arr mem_ hA) hW (by omega)) | exact Ob_rem rfl rfl (by omega) (by omega)) | ((first | apply b_ | apply a_ | apply i_); exact z_; intro _) | ((first | apply p_ | apply JO_yes | apply GC_t); exact z_) | (apply n_; exact z_) | (apply GC_f; exact z_) | (apply GX_block_on; exact z_) | refine GC_drawB (id := 5) [1, 2, 3, 4, 5, 6] [0] [7, 8, 9] _ (by kernel_rfl) (List.Sublist.refl _) ?_ | ((first | apply GD_at | apply GL_at | apply GD_no | apply GL_no); exact rfl) | apply DFin_0 | (apply q1_; exact z_) | (apply q0_; exact z_) | (apply q2_; exact z_) | (apply c_; exact z_; all_goals intro _) | (apply g_; exact z_; all_goals intro _))
    refine JO_append (xs := (plannedL k xs).take i) (ys := [wordR xs i % k.boxes]) [_, _] rfl rfl rfl ho (List.Perm.refl _) (fun w hw => hw.slOwn mem_ rfl) rfl (by simp; omega) ?_
    intro v3 s3 ho3
    have j3 := ho3.v1
    have e6 : (plannedL k xs).take i ++ [wordR xs i % k.boxes] = (plannedL k xs).take (i + 1) := by
      rw [take_snoc (by omega), plannedL_nth hlt]
    rw [e6] at ho3 ⊢
    repeat' (first | apply s_ | ((first | apply JO_ob | apply GD_ex | apply GL_ex); exact rfl; first | exact ob1) | ((first | apply b_ | apply a_ | apply i_); exact z_; intro _) | ((first | apply p_ | apply JO_yes | apply GC_t); exact z_) | (apply n_; exact z_) | (apply GC_f; exact z_) | (apply GX_block_on; exact z_) | refine GC_drawB (id := 5) [1, 2, 3, 4, 5, 6] [0] [7, 8, 9] _ (by kernel_rfl) (List.Sublist.refl _) ?_ | ((first | apply GD_at | apply GL_at | apply GD_no | apply GL_no); exact rfl) | apply DFin_0 | (apply q1_; exact z_) | (apply q0_; exact z_) | (apply q2_; exact z_) | (apply c_; exact z_; all_goals intro _) | (apply g_; exact z_; all_goals intro _))
    exact GX_loop (i + 1, v3, s3) ⟨rfl, rfl, rfl, rfl, trivial⟩ (by simp only; omega) ⟨by simp only; omega, ho3⟩ fun w hw => hw.weak (fun r h => h) (List.Sublist.cons _ (List.Sublist.refl _))
  · have ei : (plannedL k xs).take i = plannedL k xs := List.take_of_length_le (by omega)
    simp only [Hf]
    rw [ei] at ho ⊢
    repeat' (first | apply s_ | ((first | apply JO_ob | apply GD_ex | apply GL_ex); exact rfl; first | exact ob1 | exact Ob_call rfl (fun w hw => c26 w a b c _ _ d _ e f _ _ _ _ (hw.arr mem_ h.yard.vats.arr))) | ((first | apply b_ | apply a_ | apply i_); exact z_; intro _) | ((first | apply p_ | apply JO_yes | apply GC_t); exact z_) | (apply n_; exact z_) | (apply GC_f; exact z_) | (apply GX_block_on; exact z_) | refine GC_drawB (id := 5) [1, 2, 3, 4, 5, 6] [0] [7, 8, 9] _ (by kernel_rfl) (List.Sublist.refl _) ?_ | ((first | apply GD_at | apply GL_at | apply GD_no | apply GL_no); exact rfl) | apply DFin_0 | (apply q1_; exact z_) | (apply q0_; exact z_) | (apply q2_; exact z_) | (apply c_; exact z_; all_goals intro _) | (apply g_; exact z_; all_goals intro _))
    exact GX_ret1 rfl rfl fun w' hw' => ⟨hw'.kp mem_, ho.ret (A := [_]) (by decide) hw' mem_⟩
end
theorem c59T (w : World) (va vb : Value) (us zs : List Rg) (ha : Arr All w 2 encR va us) (hb : Arr All w 2 encR vb zs) (hl : us.length = zs.length) (hin : ∀ i, i < us.length → (nth zs i).1 ≤ (nth us i).1 ∧ (nth us i).2 ≤ (nth zs i).2) : Ex 59 [va, vb] w (.bool true) := by
  have i1 := ha.v1
  have i2 := hb.v1
  have b1 := ha.bound
  have b2 := hb.bound
  refine Rt_of Tryz.func59 rfl Tryz.ntmps59 rfl ?_
  repeat' (first | apply s_ | ((first | apply JO_ob | apply GD_ex | apply GL_ex); exact rfl; first | exact ob1) | ((first | apply b_ | apply a_ | apply i_); exact z_; intro _) | ((first | apply p_ | apply JO_yes | apply GC_t); exact z_) | (apply n_; exact z_) | (apply GC_f; exact z_) | (apply GX_block_on; exact z_) | refine GC_drawA (id := 6) [0, 1, 2, 3, 4, 5, 6, 7, 8, 9, 10, 11, 12, 13, 14, 15, 16, 17, 18, 19, 20, 21, 22, 23] [] (by kernel_rfl) ?_ | ((first | apply GD_at | apply GL_at | apply GD_no | apply GL_no); exact rfl) | apply DFin_0 | (apply q1_; exact z_) | (apply q0_; exact z_) | (apply q2_; exact z_))
  refine GC_loop0 (fun i => us.length - i) (fun i => [(0, va), (1, vb), (5, .int .i64 (i : Int))]) (fun i => i ≤ us.length) 0 ⟨rfl, rfl, rfl, trivial⟩ (Nat.zero_le _) ?_
  intro i hi
  by_cases hlt : i < us.length
  · have hlt2 : i < zs.length := by omega
    have hii := hin i hlt
    repeat' (first | apply s_ | ((first | apply JO_ob | apply GD_ex | apply GL_ex); exact rfl; first | exact ob1) | ((first | apply b_ | apply a_ | apply i_); exact z_; intro _) | ((first | apply p_ | apply JO_yes | apply GC_t); exact z_) | (apply n_; exact z_) | (apply GC_f; exact z_) | (apply GX_block_on; exact z_) | refine GC_drawA (id := 6) [0, 1, 2, 3, 4, 5, 6, 7, 8, 9, 10, 11, 12, 13, 14, 15, 16, 17, 18, 19, 20, 21, 22, 23] [] (by kernel_rfl) ?_ | ((first | apply GD_at | apply GL_at | apply GD_no | apply GL_no); exact rfl) | apply DFin_0 | (apply q1_; exact z_) | (apply q0_; exact z_) | (apply q2_; exact z_))
    exact GX_loop0 (i + 1) ⟨rfl, rfl, rfl, trivial⟩ (by omega) (by omega)
  · repeat' (first | apply s_ | ((first | apply JO_ob | apply GD_ex | apply GL_ex); exact rfl; first | exact ob1) | ((first | apply b_ | apply a_ | apply i_); exact z_; intro _) | ((first | apply p_ | apply JO_yes | apply GC_t); exact z_) | (apply n_; exact z_) | (apply GC_f; exact z_) | (apply GX_block_on; exact z_) | refine GC_drawA (id := 6) [0, 1, 2, 3, 4, 5, 6, 7, 8, 9, 10, 11, 12, 13, 14, 15, 16, 17, 18, 19, 20, 21, 22, 23] [] (by kernel_rfl) ?_ | ((first | apply GD_at | apply GL_at | apply GD_no | apply GL_no); exact rfl) | apply DFin_0 | (apply q1_; exact z_) | (apply q0_; exact z_) | (apply q2_; exact z_))
    exact GX_ex rfl rfl mem_ rfl
theorem bef_diff : ∀ {a b : List Int} {i : Nat}, a.length = b.length → i < a.length → (∀ j, j < i → nth a j = nth b j) → nth a i ≠ nth b i → bef a b = decide (nth a i < nth b i)
  | [], b, i, _, h, _, _ => by simp at h
  | x :: xs, [], i, h, _, _, _ => by simp at h
  | x :: xs, y :: ys, 0, _, _, _, hne => by
    simp only [nth_cons_zero] at hne ⊢
    simp [bef, hne]
  | x :: xs, y :: ys, i + 1, hl, hi, hj, hne => by
    have h0 := hj 0 (by omega)
    simp only [nth_cons_zero] at h0
    subst h0
    simp only [nth_cons_succ] at hne ⊢
    have ih := bef_diff (a := xs) (b := ys) (i := i) (by simpa using hl) (by simpa using hi) (fun j hj' => by have := hj (j + 1) (by omega); simpa [nth_cons_succ] using this) hne
    simp [bef, ih]
theorem c64 (w : World) (va vb : Value) (xs ys : List Int) (ha : Arr All w 1 encI va xs) (hb : Arr All w 1 encI vb ys) (hl : xs.length = ys.length) : Ex 64 [va, vb] w (.bool (bef xs ys)) := by
  have i1 := ha.v1
  have i2 := hb.v1
  have b1 := ha.bound
  have b2 := hb.bound
  refine Rt_of Tryz.func64 rfl Tryz.ntmps64 rfl ?_
  repeat' (first | apply s_ | ((first | apply JO_ob | apply GD_ex | apply GL_ex); exact rfl; first | exact ob1) | ((first | apply b_ | apply a_ | apply i_); exact z_; intro _) | ((first | apply p_ | apply JO_yes | apply GC_t); exact z_) | (apply n_; exact z_) | (apply GC_f; exact z_) | (apply GX_block_on; exact z_) | refine GC_drawA (id := 4) [0, 1, 2, 3, 4, 5, 6, 7, 8] [] (by kernel_rfl) ?_ | refine GC_drawA (id := 5) [0, 1, 2, 3, 4, 5, 6, 7, 8, 9] [] (by kernel_rfl) ?_ | ((first | apply GD_at | apply GL_at | apply GD_no | apply GL_no); exact rfl) | apply DFin_0 | (apply q1_; exact z_) | (apply q0_; exact z_) | (apply q2_; exact z_))
  refine GC_loop0 (fun i => xs.length - i) (fun i => [(0, va), (1, vb), (5, .int .i64 (i : Int))]) (fun i => i ≤ xs.length ∧ ∀ j, j < i → nth xs j = nth ys j) 0 ⟨rfl, rfl, rfl, trivial⟩ ⟨Nat.zero_le _, fun j hj => absurd hj (Nat.not_lt_zero j)⟩ ?_
  rintro i ⟨hi, hno⟩
  by_cases hlt : i < xs.length
  · have hlt2 : i < ys.length := by omega
    by_cases he : nth xs i = nth ys i
    · repeat' (first | apply s_ | ((first | apply JO_ob | apply GD_ex | apply GL_ex); exact rfl; first | exact ob1) | ((first | apply b_ | apply a_ | apply i_); exact z_; intro _) | ((first | apply p_ | apply JO_yes | apply GC_t); exact z_) | (apply n_; exact z_) | (apply GC_f; exact z_) | (apply GX_block_on; exact z_) | refine GC_drawA (id := 4) [0, 1, 2, 3, 4, 5, 6, 7, 8] [] (by kernel_rfl) ?_ | refine GC_drawA (id := 5) [0, 1, 2, 3, 4, 5, 6, 7, 8, 9] [] (by kernel_rfl) ?_ | ((first | apply GD_at | apply GL_at | apply GD_no | apply GL_no); exact rfl) | apply DFin_0 | (apply q1_; exact z_) | (apply q0_; exact z_) | (apply q2_; exact z_))
      refine GX_loop0 (i + 1) ⟨rfl, rfl, rfl, trivial⟩ (by omega) ⟨by omega, fun j hj => ?_⟩
      by_cases e : j < i
      · exact hno j e
      · rw [show j = i by omega]; exact he
    · rw [bef_diff hl hlt hno he]
      by_cases hL : nth xs i < nth ys i
      · repeat' (first | apply s_ | ((first | apply JO_ob | apply GD_ex | apply GL_ex); exact rfl; first | exact ob1) | ((first | apply b_ | apply a_ | apply i_); exact z_; intro _) | ((first | apply p_ | apply JO_yes | apply GC_t); exact z_) | (apply n_; exact z_) | (apply GC_f; exact z_) | (apply GX_block_on; exact z_) | refine GC_drawA (id := 4) [0, 1, 2, 3, 4, 5, 6, 7, 8] [] (by kernel_rfl) ?_ | refine GC_drawA (id := 5) [0, 1, 2, 3, 4, 5, 6, 7, 8, 9] [] (by kernel_rfl) ?_ | ((first | apply GD_at | apply GL_at | apply GD_no | apply GL_no); exact rfl) | apply DFin_0 | (apply q1_; exact z_) | (apply q0_; exact z_) | (apply q2_; exact z_))
        exact GX_ex rfl rfl mem_ (dT hL)
      · repeat' (first | apply s_ | ((first | apply JO_ob | apply GD_ex | apply GL_ex); exact rfl; first | exact ob1) | ((first | apply b_ | apply a_ | apply i_); exact z_; intro _) | ((first | apply p_ | apply JO_yes | apply GC_t); exact z_) | (apply n_; exact z_) | (apply GC_f; exact z_) | (apply GX_block_on; exact z_) | refine GC_drawA (id := 4) [0, 1, 2, 3, 4, 5, 6, 7, 8] [] (by kernel_rfl) ?_ | refine GC_drawA (id := 5) [0, 1, 2, 3, 4, 5, 6, 7, 8, 9] [] (by kernel_rfl) ?_ | ((first | apply GD_at | apply GL_at | apply GD_no | apply GL_no); exact rfl) | apply DFin_0 | (apply q1_; exact z_) | (apply q0_; exact z_) | (apply q2_; exact z_))
        exact GX_ex rfl rfl mem_ (dF hL)
  · have e : xs = ys := nth_ext hl fun j hj => hno j (by omega)
    repeat' (first | apply s_ | ((first | apply JO_ob | apply GD_ex | apply GL_ex); exact rfl; first | exact ob1) | ((first | apply b_ | apply a_ | apply i_); exact z_; intro _) | ((first | apply p_ | apply JO_yes | apply GC_t); exact z_) | (apply n_; exact z_) | (apply GC_f; exact z_) | (apply GX_block_on; exact z_) | refine GC_drawA (id := 4) [0, 1, 2, 3, 4, 5, 6, 7, 8] [] (by kernel_rfl) ?_ | refine GC_drawA (id := 5) [0, 1, 2, 3, 4, 5, 6, 7, 8, 9] [] (by kernel_rfl) ?_ | ((first | apply GD_at | apply GL_at | apply GD_no | apply GL_no); exact rfl) | apply DFin_0 | (apply q1_; exact z_) | (apply q0_; exact z_) | (apply q2_; exact z_))
    refine GX_ex rfl rfl mem_ ?_
    rw [e, bef_irr]
end Go.Proofs.YtkbaaikidhbfmaaGreat
/- Contracts: the document's examples are answered as the document says. No statement is proved here. -/
set_option linter.unusedVariables false
set_option linter.unusedSimpArgs false
namespace Go.Proofs.YtkbaaikidhbfmaaGreat
open Go.RowKit
theorem ax1 : fault9 (kEx 2 2 4) = 0 := by kernel_rfl
theorem ax2 : fault9 (kEx 1 2 4) = 0 := by kernel_rfl
theorem ax3 : mudsV (kEx 2 2 4) (fun m => m) = [(8, 22), (8, 14)] := by kernel_rfl
theorem ax4 : mudsV (kEx 2 2 4) (fun m => (hoursR (kEx 2 2 4).force m : Int)) = [(3, 5), (3, 4)] := by kernel_rfl
theorem ax5 : mudsV (kEx 2 2 4) (fun m => m / (kEx 2 2 4).cake) = [(1, 4), (1, 2)] := by kernel_rfl
theorem ax6 : planP (kEx 2 2 4) [0, 0] = true := by kernel_rfl
theorem ax7 : timesV (kEx 2 2 4) [0, 0] = [(3, 5), (6, 9)] := by kernel_rfl
theorem ax8 : lateR (kEx 2 2 4) [0, 0] = (1, 0) := by kernel_rfl
theorem ax9 : bestV (kEx 1 2 4) = ([0, 0], 9) := by kernel_rfl
theorem ax10 : moreV (kEx 1 2 4) = (4, 0) := by kernel_rfl
theorem ax11 : wiseV (kEx 2 2 4) = [4, 3] := by kernel_rfl
theorem c68T (w : World) (v : Value) (a b : Rg) (hA : Arr All w 2 encR v [a, b]) : Ex 68 [v, .agg #[.int .i64 a.1, .int .i64 a.2], .agg #[.int .i64 b.1, .int .i64 b.2]] w (.bool true) := by
  have := c68 w v _ a b hA; rwa [decide_eq_true rfl] at this
theorem c40T (w : World) (va vb : Value) (xs : List Int) (ha : Arr All w 1 encI va xs) (hb : Arr All w 1 encI vb xs) : Ex 40 [va, vb] w (.bool true) := by
  have := c40 w va vb xs xs ha hb; rwa [decide_eq_true rfl] at this
theorem c68L (w : World) (v : Value) (a b c d : Int) (hA : Arr All w 2 encR v [(a, b), (c, d)]) : Ex 68 [v, .agg #[.int .i64 a, .int .i64 b], .agg #[.int .i64 c, .int .i64 d]] w (.bool true) := c68T w v (a, b) (c, d) hA
def TwoW (k : Wk) (w : World) (v : Value) (w' : World) : Prop := ∃ a b c hs d e f, v = wkV a b c d e f k ∧ WkA (New w) w' a b c hs d e f k
theorem up {α : Type} {b0 : World} {R : Rgs} {H : Hp} {w w1 : World} {G : Nat → Prop} {sz : Nat} {enc : α → List Value} {v : Value} {xs : List α} (hw : SH b0 R H w) (hr : (G, w1) ∈ R) (h : Arr G w1 sz enc v xs) : Arr All w sz enc v xs := (hw.arr hr h).weaken fun _ _ _ => trivial
theorem up2 {α : Type} {b0 : World} {R : Rgs} {H : Hp} {w w1 : World} {G : Nat → Prop} {sz : Nat} {enc : α → List Value} {v : Value} {xs : List α} (hw : SH b0 R H w) (h : Arr G w1 sz enc v xs) (hr : (G, w1) ∈ R) : Arr All w sz enc v xs := up hw hr h
theorem upk {b0 : World} {R : Rgs} {H : Hp} {w w1 : World} {G : Nat → Prop} {a b c d e f : Value} {hs : List Value} {k : Wk} (hw : SH b0 R H w) (hr : (G, w1) ∈ R) (h : WkA G w1 a b c hs d e f k) : WkA All w a b c hs d e f k := (hw.wk hr h).weaken fun _ _ _ => trivial
/-- Of three or more regions the second one is forgotten. -/
theorem drop2 {α : Type} {a b : α} {l : List α} : ∀ r ∈ a :: l, r ∈ a :: b :: l := fun r h => by
  rcases List.mem_cons.1 h with rfl | h
  · exact .head _
  · exact .tail _ (.tail _ h)
theorem drop12 {α : Type} {a b : α} {l : List α} : ∀ r ∈ l, r ∈ a :: b :: l := fun r h => .tail _ (.tail _ h)
section
variable {n : Nat} {full : List Oper} {b0 : World} {R : Rgs} {H : Hp} {fr : Slots}
instance {o : Oper} {l l2 : List Oper} {Fin : Kt} : S1 (J n full b0 Fin (List.append (o :: l) l2) R H fr) (JO n full b0 R H o fr (J n full b0 Fin (List.append l l2))) := ⟨J_op⟩
instance {l2 : List Oper} {Fin : Kt} : S1 (J n full b0 Fin (List.append [] l2) R H fr) (J n full b0 Fin l2 R H fr) := ⟨fun h => h⟩
end
abbrev VG := Value × (Nat → Prop) × World
set_option maxRecDepth 100000 in
set_option maxHeartbeats 4000000 in
theorem c21 (w : World) : Ex 21 [] w (.bool true) := by
  refine Rt_of Tryz.func21 rfl Tryz.ntmps21 rfl ?_
  apply GC_seq
  refine GC_mid (α := Unit) (fun s => []) (fun s => [((fun _ => True), w)]) (fun s => []) (fun s => True) ?_ ?_
  · repeat' (first | apply s_ | (apply JO_ob; exact rfl; first | exact ob1) | ((first | apply b_ | apply a_ | apply i_); exact z_; intro _) | ((first | apply p_ | apply JO_yes | apply GC_t); exact z_) | (apply n_; exact z_) | (apply GC_f; exact z_) | (apply GX_block_on; exact z_))
    exact GX_loop () trivial Nat.zero_lt_one trivial (fun w hw => hw)
  intro _ _
  apply GC_seq
  refine GC_mid (α := VG) (fun s => [(1, s.1), (2, .int .i64 0)]) (fun s => [(s.2.1, s.2.2), ((fun _ => True), w)]) (fun s => []) (fun s => Arr s.2.1 s.2.2 2 encR s.1 [(8, 22), (8, 14)]) ?_ ?_
  · repeat' (first | apply s_ | (apply JO_ob; exact rfl; first | exact ob1) | ((first | apply b_ | apply a_ | apply i_); exact z_; intro _) | ((first | apply p_ | apply JO_yes | apply GC_t); exact z_) | (apply n_; exact z_) | (apply GC_f; exact z_) | (apply GX_block_on; exact z_))
    refine JO_call (S := TwoW (kEx 2 2 4)) rfl rfl (fun w5 hw5 => c67 w5 2 2 4) ?_
    rintro _ ua ub ha hb hk ⟨a0, b0, c0, hs0, d0, e0, f0, rfl, hW⟩
    have iw0 := hW.yard.fields.v1
    have iw1 := hW.yard.vats.arr.v1
    have iw2 := hW.yard.smps.v1
    have iw3 := hW.beat.vats.v1
    have iw4 := hW.beat.smps.v1
    have iw5 := hW.ends.v1
    repeat' (first | apply s_ | (apply JO_ob; exact rfl; first | exact ob1) | ((first | apply b_ | apply a_ | apply i_); exact z_; intro _) | ((first | apply p_ | apply JO_yes | apply GC_t); exact z_) | (apply n_; exact z_) | (apply GC_f; exact z_) | (apply GX_block_on; exact z_))
    refine JO_call (S := fun w0 v w1 => ∃ u, v = .tuple #[u, .int .i64 0] ∧ Arr (New w0) w1 2 encR u [(8, 22), (8, 14)]) rfl rfl (fun w5 hw5 => (c22 (upk hw5 (.head _) hW)).mono fun v w6 ⟨kp, h⟩ => ⟨kp, ?_⟩) ?_
    · rcases h with h | h
      · exact absurd ax1 h.1
      · rw [ax3] at h; exact h.2
    rintro _ uc ud hc hd hl ⟨u0, rfl, hu0⟩
    have iu0 := hu0.v1
    repeat' (first | apply s_ | (apply JO_ob; exact rfl; first | exact ob1) | ((first | apply b_ | apply a_ | apply i_); exact z_; intro _) | ((first | apply p_ | apply JO_yes | apply GC_t); exact z_) | (apply n_; exact z_) | (apply GC_f; exact z_) | (apply GX_block_on; exact z_))
    exact GX_loop (u0, (fun b => uc.heap.size ≤ b), ud) ⟨rfl, rfl, trivial⟩ Nat.zero_lt_one hu0 (fun w hw => hw.weak drop2 (List.nil_sublist _))
  rintro ⟨um, Gm, wm⟩ hum
  simp only at hum ⊢
  have ium := hum.v1
  apply GC_seq
  refine GC_mid (α := VG) (fun s => [(3, s.1), (4, .int .i64 0), (1, um), (2, .int .i64 0)]) (fun s => [(s.2.1, s.2.2), (Gm, wm), ((fun _ => True), w)]) (fun s => []) (fun s => Arr s.2.1 s.2.2 2 encR s.1 [(3, 5), (3, 4)]) ?_ ?_
  · repeat' (first | apply s_ | (apply JO_ob; exact rfl; first | exact ob1) | ((first | apply b_ | apply a_ | apply i_); exact z_; intro _) | ((first | apply p_ | apply JO_yes | apply GC_t); exact z_) | (apply n_; exact z_) | (apply GC_f; exact z_) | (apply GX_block_on; exact z_))
    refine JO_call (S := TwoW (kEx 2 2 4)) rfl rfl (fun w5 hw5 => c67 w5 2 2 4) ?_
    rintro _ ua ub ha hb hk ⟨a0, b0, c0, hs0, d0, e0, f0, rfl, hW⟩
    have iw0 := hW.yard.fields.v1
    have iw1 := hW.yard.vats.arr.v1
    have iw2 := hW.yard.smps.v1
    have iw3 := hW.beat.vats.v1
    have iw4 := hW.beat.smps.v1
    have iw5 := hW.ends.v1
    repeat' (first | apply s_ | (apply JO_ob; exact rfl; first | exact ob1) | ((first | apply b_ | apply a_ | apply i_); exact z_; intro _) | ((first | apply p_ | apply JO_yes | apply GC_t); exact z_) | (apply n_; exact z_) | (apply GC_f; exact z_) | (apply GX_block_on; exact z_))
    refine JO_call (S := fun w0 v w1 => ∃ u, v = .tuple #[u, .int .i64 0] ∧ Arr (New w0) w1 2 encR u [(3, 5), (3, 4)]) rfl rfl (fun w5 hw5 => (c29 (upk hw5 (.head _) hW)).mono fun v w6 ⟨kp, h⟩ => ⟨kp, ?_⟩) ?_
    · rcases h with h | h
      · exact absurd ax1 h.1
      · rw [ax4] at h; exact h.2
    rintro _ uc ud hc hd hl ⟨u0, rfl, hu0⟩
    have iu0 := hu0.v1
    repeat' (first | apply s_ | (apply JO_ob; exact rfl; first | exact ob1) | ((first | apply b_ | apply a_ | apply i_); exact z_; intro _) | ((first | apply p_ | apply JO_yes | apply GC_t); exact z_) | (apply n_; exact z_) | (apply GC_f; exact z_) | (apply GX_block_on; exact z_))
    exact GX_loop (u0, (fun b => uc.heap.size ≤ b), ud) ⟨rfl, rfl, rfl, rfl, trivial⟩ Nat.zero_lt_one hu0 (fun w hw => hw.weak drop2 (List.nil_sublist _))
  rintro ⟨uh, Gh, wh⟩ huh
  simp only at huh ⊢
  have iuh := huh.v1
  apply GC_seq
  refine GC_mid (α := VG) (fun s => [(5, s.1), (6, .int .i64 0), (3, uh), (4, .int .i64 0), (1, um), (2, .int .i64 0)]) (fun s => [(s.2.1, s.2.2), (Gh, wh), (Gm, wm), ((fun _ => True), w)]) (fun s => []) (fun s => Arr s.2.1 s.2.2 2 encR s.1 [(1, 4), (1, 2)]) ?_ ?_
  · repeat' (first | apply s_ | (apply JO_ob; exact rfl; first | exact ob1) | ((first | apply b_ | apply a_ | apply i_); exact z_; intro _) | ((first | apply p_ | apply JO_yes | apply GC_t); exact z_) | (apply n_; exact z_) | (apply GC_f; exact z_) | (apply GX_block_on; exact z_))
    refine JO_call (S := TwoW (kEx 2 2 4)) rfl rfl (fun w5 hw5 => c67 w5 2 2 4) ?_
    rintro _ ua ub ha hb hk ⟨a0, b0, c0, hs0, d0, e0, f0, rfl, hW⟩
    have iw0 := hW.yard.fields.v1
    have iw1 := hW.yard.vats.arr.v1
    have iw2 := hW.yard.smps.v1
    have iw3 := hW.beat.vats.v1
    have iw4 := hW.beat.smps.v1
    have iw5 := hW.ends.v1
    repeat' (first | apply s_ | (apply JO_ob; exact rfl; first | exact ob1) | ((first | apply b_ | apply a_ | apply i_); exact z_; intro _) | ((first | apply p_ | apply JO_yes | apply GC_t); exact z_) | (apply n_; exact z_) | (apply GC_f; exact z_) | (apply GX_block_on; exact z_))
    refine JO_call (S := fun w0 v w1 => ∃ u, v = .tuple #[u, .int .i64 0] ∧ Arr (New w0) w1 2 encR u [(1, 4), (1, 2)]) rfl rfl (fun w5 hw5 => (c30 (upk hw5 (.head _) hW)).mono fun v w6 ⟨kp, h⟩ => ⟨kp, ?_⟩) ?_
    · rcases h with h | h
      · exact absurd ax1 h.1
      · rw [ax5] at h; exact h.2
    rintro _ uc ud hc hd hl ⟨u0, rfl, hu0⟩
    have iu0 := hu0.v1
    repeat' (first | apply s_ | (apply JO_ob; exact rfl; first | exact ob1) | ((first | apply b_ | apply a_ | apply i_); exact z_; intro _) | ((first | apply p_ | apply JO_yes | apply GC_t); exact z_) | (apply n_; exact z_) | (apply GC_f; exact z_) | (apply GX_block_on; exact z_))
    exact GX_loop (u0, (fun b => uc.heap.size ≤ b), ud) ⟨rfl, rfl, rfl, rfl, rfl, rfl, trivial⟩ Nat.zero_lt_one hu0 (fun w hw => hw.weak drop2 (List.nil_sublist _))
  rintro ⟨uc, Gc, wc⟩ huc
  simp only at huc ⊢
  have iuc := huc.v1
  apply GC_seq
  refine GC_mid (α := VG) (fun s => [(7, s.1), (8, .int .i64 0), (5, uc), (6, .int .i64 0), (3, uh), (4, .int .i64 0), (1, um), (2, .int .i64 0)]) (fun s => [(s.2.1, s.2.2), (Gc, wc), (Gh, wh), (Gm, wm), ((fun _ => True), w)]) (fun s => []) (fun s => Arr s.2.1 s.2.2 2 encR s.1 [(3, 5), (6, 9)]) ?_ ?_
  · repeat' (first | apply s_ | (apply JO_ob; exact rfl; first | exact ob1) | ((first | apply b_ | apply a_ | apply i_); exact z_; intro _) | ((first | apply p_ | apply JO_yes | apply GC_t); exact z_) | (apply n_; exact z_) | (apply GC_f; exact z_) | (apply GX_block_on; exact z_))
    refine JO_call (S := TwoW (kEx 2 2 4)) rfl rfl (fun w5 hw5 => c67 w5 2 2 4) ?_
    rintro _ ua ub ha hb hk ⟨a0, b0, c0, hs0, d0, e0, f0, rfl, hW⟩
    have iw0 := hW.yard.fields.v1
    have iw1 := hW.yard.vats.arr.v1
    have iw2 := hW.yard.smps.v1
    have iw3 := hW.beat.vats.v1
    have iw4 := hW.beat.smps.v1
    have iw5 := hW.ends.v1
    repeat' (first | apply s_ | (apply JO_ob; exact rfl; first | exact ob1) | ((first | apply b_ | apply a_ | apply i_); exact z_; intro _) | ((first | apply p_ | apply JO_yes | apply GC_t); exact z_) | (apply n_; exact z_) | (apply GC_f; exact z_) | (apply GX_block_on; exact z_))
    refine JO_call (S := fun w0 v w1 => ∃ u, v = .tuple #[u, .int .i64 0] ∧ Arr (New w0) w1 2 encR u [(3, 5), (6, 9)]) rfl rfl (fun w5 hw5 => (c33 (upk hw5 (.head _) hW) (hw5.litArr (enc := encI) (sz := 1) [0, 0] (fun _ => rfl) (.head _) rfl rfl rfl rfl)).mono fun v w6 ⟨kp, h⟩ => ⟨kp, ?_⟩) ?_
    · rcases h with h | h | h
      · exact absurd ax1 h.1
      · rw [ax6] at h; exact absurd h.2.1 (by decide)
      · rw [ax7] at h; exact h.2.2
    rintro _ uc ud hc hd hl ⟨u0, rfl, hu0⟩
    have iu0 := hu0.v1
    repeat' (first | apply s_ | (apply JO_ob; exact rfl; first | exact ob1) | ((first | apply b_ | apply a_ | apply i_); exact z_; intro _) | ((first | apply p_ | apply JO_yes | apply GC_t); exact z_) | (apply n_; exact z_) | (apply GC_f; exact z_) | (apply GX_block_on; exact z_))
    exact GX_loop (u0, (fun b => uc.heap.size ≤ b), ud) ⟨rfl, rfl, rfl, rfl, rfl, rfl, rfl, rfl, trivial⟩ Nat.zero_lt_one hu0 (fun w hw => hw.weak drop2 (List.nil_sublist _))
  rintro ⟨uz, Gz, wz⟩ huz
  simp only at huz ⊢
  have iuz := huz.v1
  apply GC_seq
  refine GC_mid (α := Unit) (fun s => [(9, .int .i64 1), (10, .int .i64 0), (7, uz), (8, .int .i64 0), (5, uc), (6, .int .i64 0), (3, uh), (4, .int .i64 0), (1, um), (2, .int .i64 0)]) (fun s => [(Gz, wz), (Gc, wc), (Gh, wh), (Gm, wm), ((fun _ => True), w)]) (fun s => []) (fun s => True) ?_ ?_
  · repeat' (first | apply s_ | (apply JO_ob; exact rfl; first | exact ob1) | ((first | apply b_ | apply a_ | apply i_); exact z_; intro _) | ((first | apply p_ | apply JO_yes | apply GC_t); exact z_) | (apply n_; exact z_) | (apply GC_f; exact z_) | (apply GX_block_on; exact z_))
    refine JO_call (S := TwoW (kEx 2 2 4)) rfl rfl (fun w5 hw5 => c67 w5 2 2 4) ?_
    rintro _ ua ub ha hb hk ⟨a0, b0, c0, hs0, d0, e0, f0, rfl, hW⟩
    have iw0 := hW.yard.fields.v1
    have iw1 := hW.yard.vats.arr.v1
    have iw2 := hW.yard.smps.v1
    have iw3 := hW.beat.vats.v1
    have iw4 := hW.beat.smps.v1
    have iw5 := hW.ends.v1
    repeat' (first | apply s_ | (apply JO_ob; exact rfl; first | exact ob1) | ((first | apply b_ | apply a_ | apply i_); exact z_; intro _) | ((first | apply p_ | apply JO_yes | apply GC_t); exact z_) | (apply n_; exact z_) | (apply GC_f; exact z_) | (apply GX_block_on; exact z_))
    refine JO_call (S := fun w0 v w1 => v = .tuple #[.int .i64 1, .int .i64 0]) rfl rfl (fun w5 hw5 => (c35 (upk hw5 (.head _) hW) (hw5.litArr (enc := encI) (sz := 1) [0, 0] (fun _ => rfl) (.head _) rfl rfl rfl rfl)).mono fun v w6 ⟨kp, h⟩ => ⟨kp, ?_⟩) ?_
    · rw [ax1, ax6, ax8] at h; exact h
    rintro _ uc ud hc hd hl rfl
    repeat' (first | apply s_ | (apply JO_ob; exact rfl; first | exact ob1) | ((first | apply b_ | apply a_ | apply i_); exact z_; intro _) | ((first | apply p_ | apply JO_yes | apply GC_t); exact z_) | (apply n_; exact z_) | (apply GC_f; exact z_) | (apply GX_block_on; exact z_))
    exact GX_loop () ⟨rfl, rfl, rfl, rfl, rfl, rfl, rfl, rfl, rfl, rfl, trivial⟩ Nat.zero_lt_one trivial (fun w hw => hw.weak drop12 (List.nil_sublist _))
  intro _ _
  apply GC_seq
  refine GC_mid (α := VG) (fun s => [(11, s.1), (12, .int .i64 9), (13, .int .i64 0), (9, .int .i64 1), (10, .int .i64 0), (7, uz), (8, .int .i64 0), (5, uc), (6, .int .i64 0), (3, uh), (4, .int .i64 0), (1, um), (2, .int .i64 0)]) (fun s => [(s.2.1, s.2.2), (Gz, wz), (Gc, wc), (Gh, wh), (Gm, wm), ((fun _ => True), w)]) (fun s => []) (fun s => Arr s.2.1 s.2.2 1 encI s.1 [0, 0]) ?_ ?_
  · repeat' (first | apply s_ | (apply JO_ob; exact rfl; first | exact ob1) | ((first | apply b_ | apply a_ | apply i_); exact z_; intro _) | ((first | apply p_ | apply JO_yes | apply GC_t); exact z_) | (apply n_; exact z_) | (apply GC_f; exact z_) | (apply GX_block_on; exact z_))
    refine JO_call (S := TwoW (kEx 1 2 4)) rfl rfl (fun w5 hw5 => c67 w5 1 2 4) ?_
    rintro _ ua ub ha hb hk ⟨a0, b0, c0, hs0, d0, e0, f0, rfl, hW⟩
    have iw0 := hW.yard.fields.v1
    have iw1 := hW.yard.vats.arr.v1
    have iw2 := hW.yard.smps.v1
    have iw3 := hW.beat.vats.v1
    have iw4 := hW.beat.smps.v1
    have iw5 := hW.ends.v1
    repeat' (first | apply s_ | (apply JO_ob; exact rfl; first | exact ob1) | ((first | apply b_ | apply a_ | apply i_); exact z_; intro _) | ((first | apply p_ | apply JO_yes | apply GC_t); exact z_) | (apply n_; exact z_) | (apply GC_f; exact z_) | (apply GX_block_on; exact z_))
    refine JO_call (S := fun w0 v w1 => ∃ u, v = .tuple #[u, .int .i64 9, .int .i64 0] ∧ Arr (New w0) w1 1 encI u [0, 0]) rfl rfl (fun w5 hw5 => (c54 (upk hw5 (.head _) hW)).mono fun v w6 ⟨kp, h⟩ => ⟨kp, ?_⟩) ?_
    · rw [ax2, ax9] at h; exact h
    rintro _ uc ud hc hd hl ⟨u0, rfl, hu0⟩
    have iu0 := hu0.v1
    repeat' (first | apply s_ | (apply JO_ob; exact rfl; first | exact ob1) | ((first | apply b_ | apply a_ | apply i_); exact z_; intro _) | ((first | apply p_ | apply JO_yes | apply GC_t); exact z_) | (apply n_; exact z_) | (apply GC_f; exact z_) | (apply GX_block_on; exact z_))
    exact GX_loop (u0, (fun b => uc.heap.size ≤ b), ud) ⟨rfl, rfl, rfl, rfl, rfl, rfl, rfl, rfl, rfl, rfl, rfl, rfl, rfl, trivial⟩ Nat.zero_lt_one hu0 (fun w hw => hw.weak drop2 (List.nil_sublist _))
  rintro ⟨ul, Gl, wl⟩ hul
  simp only at hul ⊢
  have iul := hul.v1
  apply GC_seq
  refine GC_mid (α := Unit) (fun s => [(14, .int .i64 4), (15, .int .i64 0), (11, ul), (12, .int .i64 9), (13, .int .i64 0), (9, .int .i64 1), (10, .int .i64 0), (7, uz), (8, .int .i64 0), (5, uc), (6, .int .i64 0), (3, uh), (4, .int .i64 0), (1, um), (2, .int .i64 0)]) (fun s => [(Gl, wl), (Gz, wz), (Gc, wc), (Gh, wh), (Gm, wm), ((fun _ => True), w)]) (fun s => []) (fun s => True) ?_ ?_
  · repeat' (first | apply s_ | (apply JO_ob; exact rfl; first | exact ob1) | ((first | apply b_ | apply a_ | apply i_); exact z_; intro _) | ((first | apply p_ | apply JO_yes | apply GC_t); exact z_) | (apply n_; exact z_) | (apply GC_f; exact z_) | (apply GX_block_on; exact z_))
    refine JO_call (S := TwoW (kEx 1 2 4)) rfl rfl (fun w5 hw5 => c67 w5 1 2 4) ?_
    rintro _ ua ub ha hb hk ⟨a0, b0, c0, hs0, d0, e0, f0, rfl, hW⟩
    have iw0 := hW.yard.fields.v1
    have iw1 := hW.yard.vats.arr.v1
    have iw2 := hW.yard.smps.v1
    have iw3 := hW.beat.vats.v1
    have iw4 := hW.beat.smps.v1
    have iw5 := hW.ends.v1
    repeat' (first | apply s_ | (apply JO_ob; exact rfl; first | exact ob1) | ((first | apply b_ | apply a_ | apply i_); exact z_; intro _) | ((first | apply p_ | apply JO_yes | apply GC_t); exact z_) | (apply n_; exact z_) | (apply GC_f; exact z_) | (apply GX_block_on; exact z_))
    refine JO_call (S := fun w0 v w1 => v = .tuple #[.int .i64 4, .int .i64 0]) rfl rfl (fun w5 hw5 => (c55 (upk hw5 (.head _) hW)).mono fun v w6 ⟨h, kp⟩ => ⟨kp, ?_⟩) ?_
    · rw [ax10] at h; exact h
    rintro _ uc ud hc hd hl rfl
    repeat' (first | apply s_ | (apply JO_ob; exact rfl; first | exact ob1) | ((first | apply b_ | apply a_ | apply i_); exact z_; intro _) | ((first | apply p_ | apply JO_yes | apply GC_t); exact z_) | (apply n_; exact z_) | (apply GC_f; exact z_) | (apply GX_block_on; exact z_))
    exact GX_loop () ⟨rfl, rfl, rfl, rfl, rfl, rfl, rfl, rfl, rfl, rfl, rfl, rfl, rfl, rfl, rfl, trivial⟩ Nat.zero_lt_one trivial (fun w hw => hw.weak drop12 (List.nil_sublist _))
  intro _ _
  apply GC_seq
  refine GC_mid (α := VG) (fun s => [(16, s.1), (17, .int .i64 0), (14, .int .i64 4), (15, .int .i64 0), (11, ul), (12, .int .i64 9), (13, .int .i64 0), (9, .int .i64 1), (10, .int .i64 0), (7, uz), (8, .int .i64 0), (5, uc), (6, .int .i64 0), (3, uh), (4, .int .i64 0), (1, um), (2, .int .i64 0)]) (fun s => [(s.2.1, s.2.2), (Gl, wl), (Gz, wz), (Gc, wc), (Gh, wh), (Gm, wm), ((fun _ => True), w)]) (fun s => []) (fun s => Arr s.2.1 s.2.2 1 encI s.1 [4, 3]) ?_ ?_
  · repeat' (first | apply s_ | (apply JO_ob; exact rfl; first | exact ob1) | ((first | apply b_ | apply a_ | apply i_); exact z_; intro _) | ((first | apply p_ | apply JO_yes | apply GC_t); exact z_) | (apply n_; exact z_) | (apply GC_f; exact z_) | (apply GX_block_on; exact z_))
    refine JO_call (S := TwoW (kEx 2 2 4)) rfl rfl (fun w5 hw5 => c67 w5 2 2 4) ?_
    rintro _ ua ub ha hb hk ⟨a0, b0, c0, hs0, d0, e0, f0, rfl, hW⟩
    have iw0 := hW.yard.fields.v1
    have iw1 := hW.yard.vats.arr.v1
    have iw2 := hW.yard.smps.v1
    have iw3 := hW.beat.vats.v1
    have iw4 := hW.beat.smps.v1
    have iw5 := hW.ends.v1
    repeat' (first | apply s_ | (apply JO_ob; exact rfl; first | exact ob1) | ((first | apply b_ | apply a_ | apply i_); exact z_; intro _) | ((first | apply p_ | apply JO_yes | apply GC_t); exact z_) | (apply n_; exact z_) | (apply GC_f; exact z_) | (apply GX_block_on; exact z_))
    refine JO_call (S := fun w0 v w1 => ∃ u, v = .tuple #[u, .int .i64 0] ∧ Arr (New w0) w1 1 encI u [4, 3]) rfl rfl (fun w5 hw5 => (c39 (upk hw5 (.head _) hW)).mono fun v w6 ⟨kp, h⟩ => ⟨kp, ?_⟩) ?_
    · rw [ax1, ax11] at h; exact h
    rintro _ uc ud hc hd hl ⟨u0, rfl, hu0⟩
    have iu0 := hu0.v1
    repeat' (first | apply s_ | (apply JO_ob; exact rfl; first | exact ob1) | ((first | apply b_ | apply a_ | apply i_); exact z_; intro _) | ((first | apply p_ | apply JO_yes | apply GC_t); exact z_) | (apply n_; exact z_) | (apply GC_f; exact z_) | (apply GX_block_on; exact z_))
    exact GX_loop (u0, (fun b => uc.heap.size ≤ b), ud) ⟨rfl, rfl, rfl, rfl, rfl, rfl, rfl, rfl, rfl, rfl, rfl, rfl, rfl, rfl, rfl, rfl, rfl, trivial⟩ Nat.zero_lt_one hu0 (fun w hw => hw.weak drop2 (List.nil_sublist _))
  rintro ⟨uq, Gq, wq⟩ huq
  simp only at huq ⊢
  have iuq := huq.v1
  repeat' (first | apply s_ | (apply JO_ob; exact rfl; first | exact ob1 | exact Ob_call rfl (fun w5 _ => c52 _ _ w5) | exact Ob_call rfl (fun w5 hw5 => c68L w5 _ _ _ _ _ (up2 hw5 (by assumption) mem_)) | exact Ob_call rfl (fun w5 hw5 => c40T w5 _ _ _ (up2 hw5 (by assumption) mem_) (hw5.litArr (enc := encI) (sz := 1) _ (fun _ => rfl) mem_ rfl rfl rfl rfl))) | ((first | apply b_ | apply a_ | apply i_); exact z_; intro _) | ((first | apply p_ | apply JO_yes | apply GC_t); exact z_) | (apply n_; exact z_) | (apply GC_f; exact z_) | (apply GX_block_on; exact z_))
  exact GX_ex rfl rfl mem_ rfl
end Go.Proofs.YtkbaaikidhbfmaaGreat
/- What the laws ask of the program and of the reference, under the names that they use. No statement is proved here. -/
set_option linter.unusedVariables false
set_option linter.unusedSimpArgs false
namespace Go.Proofs.YtkbaaikidhbfmaaGreat
open Go.RowKit
section
variable {b0 : World} {R : Rgs} {H : Hp} {fr : Slots} {dst : Option Nat} {g : Option (Nat × Bool)} {ty : TypeId} {ps : String} {af : Array Edge} {x y : Operand} {yt : TypeId} {a b c d : Int}
/-- Two ranges that are the same do not differ. -/
theorem Ob_neR (hx : ev fr x = some (.agg #[.int .i64 a, .int .i64 b])) (hy : ev fr y = some (.agg #[.int .i64 c, .int .i64 d])) (h1 : a = c) (h2 : b = d) : Ob b0 R H ⟨dst, .binOp .neq 59 x y yt, ty, ps, af, g⟩ fr (.bool false) := by
  subst h1; subst h2
  have := Ob_neA (b0 := b0) (R := R) (H := H) (dst := dst) (g := g) (ty := ty) (ps := ps) (af := af) (yt := yt) (t := 59) (m := 2) (k := [a, b]) (l := [a, b]) hx hy rfl rfl
  simpa using this
theorem Ob_eqR (hx : ev fr x = some (.agg #[.int .i64 a, .int .i64 b])) (hy : ev fr y = some (.agg #[.int .i64 c, .int .i64 d])) (h1 : a = c) (h2 : b = d) : Ob b0 R H ⟨dst, .binOp .eql 59 x y yt, ty, ps, af, g⟩ fr (.bool true) := by
  subst h1; subst h2
  have := Ob_eqA (b0 := b0) (R := R) (H := H) (dst := dst) (g := g) (ty := ty) (ps := ps) (af := af) (yt := yt) (t := 59) (m := 2) (k := [a, b]) (l := [a, b]) hx hy rfl rfl
  simpa using this
end
section
variable {w : World} {a b c d e f v : Value} {hs : List Value} {k : Wk} {es : List (Value × Int × Value)}
theorem c20T (h : WkA All w a b c hs d e f k) (ht : thinW k = true) : Ex 20 [wkV a b c d e f k] w (.bool true) := by have := c20 w a b c hs d e f k h; rwa [ht] at this
theorem c20F (h : WkA All w a b c hs d e f k) (ht : thinW k = false) : Ex 20 [wkV a b c d e f k] w (.bool false) := by have := c20 w a b c hs d e f k h; rwa [ht] at this
theorem c48T (h : WkA All w a b c hs d e f k) (ht : readyW k = true) : Ex 48 [wkV a b c d e f k] w (.bool true) := by have := c48 w a b c hs d e f k h; rwa [ht] at this
theorem c48F (h : WkA All w a b c hs d e f k) (ht : readyW k = false) : Ex 48 [wkV a b c d e f k] w (.bool false) := by have := c48 w a b c hs d e f k h; rwa [ht] at this
theorem ready_iff {k : Wk} : readyW k = true ↔ thinW k = true ∧ fault9 k = 0 := by simp [readyW]
theorem c25F (h : WkA All w a b c hs d e f k) (hf : fault9 k = 0) : Ex 25 [wkV a b c d e f k] w (.int .i64 0) := by have := c25 h; rwa [hf] at this
theorem c26W (h : WkA All w a b c hs d e f k) : Ex 26 [wkV a b c d e f k] w (.int .i64 (k.yard.vats.length : Int)) := by
  have i1 := h.yard.fields.v1
  have i2 := h.yard.vats.arr.v1
  have i3 := h.yard.smps.v1
  have i4 := h.beat.vats.v1
  have i5 := h.beat.smps.v1
  have i6 := h.ends.v1
  rw [← h.yard.vats.len]
  exact c26 w a b c _ _ d _ e f _ _ _ _ h.yard.vats.arr
theorem c28V (h : WkA All w a b c hs d e f k) (hK : OkK k) (hP : PNest All w v es (pairs k)) {i : Nat} (hi : i < k.yard.vats.length) : Ex 28 [wkV a b c d e f k, v, .int .i64 (i : Int)] w (.agg #[.int .i64 (nth (mudsV k fun m => m) i).1, .int .i64 (nth (mudsV k fun m => m) i).2]) := by
  rw [mudsV, bnds_nth hi]; exact c28 h hK.w hP (psOk_pairs hK) i hi
theorem c31V (h : WkA All w a b c hs d e f k) (hK : OkK k) (hP : PNest All w v es (pairs k)) {i : Nat} (hi : i < k.yard.vats.length) : Ex 31 [wkV a b c d e f k, v, .int .i64 (i : Int)] w (.agg #[.int .i64 (nth (mudsV k fun m => (hoursR k.force m : Int)) i).1, .int .i64 (nth (mudsV k fun m => (hoursR k.force m : Int)) i).2]) := by
  rw [mudsV, bnds_nth hi]; exact c31 h hK.w hK.force hP (psOk_pairs hK) i hi
theorem c32V (h : WkA All w a b c hs d e f k) (hK : OkK k) (hP : PNest All w v es (pairs k)) {i : Nat} (hi : i < k.yard.vats.length) : Ex 32 [wkV a b c d e f k, v, .int .i64 (i : Int)] w (.agg #[.int .i64 (nth (mudsV k fun m => m / k.cake) i).1, .int .i64 (nth (mudsV k fun m => m / k.cake) i).2]) := by
  rw [mudsV, bnds_nth hi]; exact c32 h hK.w hK.cake hP (psOk_pairs hK) i hi
theorem c37V (h : WkA All w a b c hs d e f k) (hK : OkK k) (hP : PNest All w v es (pairs k)) {lv : Value} {l : List Int} (hq : Arr All w 1 encI lv l) (hll : l.length = k.yard.vats.length) {i : Nat} (hi : i < k.yard.vats.length) :
    Ex 37 [wkV a b c d e f k, v, lv, .int .i64 (i : Int)] w (.agg #[.int .i64 (nth (timesV k l) i).1, .int .i64 (nth (timesV k l) i).2]) := by
  rw [timesV, bnds_nth hi]; exact c37 h hK.w hK.force hK.v3 hq hll hP (psOk_pairs hK) i hi
theorem c23W (h : WkA All w a b c hs d e f k) (ht : thinW k = true) : Rt 23 [wkV a b c d e f k] w fun v w' => Keep w w' ∧ TwoW k w v w' := c23 w a b c hs d e f k h ht
def RgsW (rs : List Rg) (w : World) (v : Value) (w' : World) : Prop := ∃ u, v = .tuple #[u, .int .i64 0] ∧ Arr (New w) w' 2 encR u rs
theorem ans_F {rs : List Rg} {w' : World} (hf : fault9 k = 0) (h : AnsW w k rs v w') : RgsW rs w v w' := by
  rcases h with h | h
  · exact absurd hf h.1
  · exact h.2
theorem c22F (h : WkA All w a b c hs d e f k) (hf : fault9 k = 0) : Rt 22 [wkV a b c d e f k] w fun v w' => Keep w w' ∧ RgsW (mudsV k fun m => m) w v w' := (c22 h).mono fun v w' ⟨kp, g⟩ => ⟨kp, ans_F hf g⟩
theorem c29F (h : WkA All w a b c hs d e f k) (hf : fault9 k = 0) : Rt 29 [wkV a b c d e f k] w fun v w' => Keep w w' ∧ RgsW (mudsV k fun m => (hoursR k.force m : Int)) w v w' := (c29 h).mono fun v w' ⟨kp, g⟩ => ⟨kp, ans_F hf g⟩
theorem c30F (h : WkA All w a b c hs d e f k) (hf : fault9 k = 0) : Rt 30 [wkV a b c d e f k] w fun v w' => Keep w w' ∧ RgsW (mudsV k fun m => m / k.cake) w v w' := (c30 h).mono fun v w' ⟨kp, g⟩ => ⟨kp, ans_F hf g⟩
theorem c33F (h : WkA All w a b c hs d e f k) (hf : fault9 k = 0) {pv : Value} {l : List Int} (hl : Arr All w 1 encI pv l) (hp : planP k l = true) : Rt 33 [wkV a b c d e f k, pv] w fun v w' => Keep w w' ∧ RgsW (timesV k l) w v w' := (c33 h hl).mono fun v w' ⟨kp, g⟩ => ⟨kp, by
  rcases g with g | g | g
  · exact absurd hf g.1
  · rw [hp] at g; exact absurd g.2.1 (by decide)
  · exact g.2.2⟩
theorem c35F (h : WkA All w a b c hs d e f k) (hf : fault9 k = 0) {pv : Value} {l : List Int} (hl : Arr All w 1 encI pv l) (hp : planP k l = true) : Ex 35 [wkV a b c d e f k, pv] w (.tuple #[.int .i64 (lateR k l).1, .int .i64 (lateR k l).2]) := (c35 h hl).mono fun v w' ⟨kp, g⟩ => ⟨by
  rw [hp, hf] at g
  simpa using g, kp⟩
def BestW (l : List Int) (x : Int) (w : World) (v : Value) (w' : World) : Prop := ∃ u, v = .tuple #[u, .int .i64 x, .int .i64 0] ∧ Arr (New w) w' 1 encI u l
theorem c54F (h : WkA All w a b c hs d e f k) (hf : fault9 k = 0) : Rt 54 [wkV a b c d e f k] w fun v w' => Keep w w' ∧ BestW (bestL k k.boxes).1 (bestL k k.boxes).2 w v w' := (c54 h).mono fun v w' ⟨kp, g⟩ => ⟨kp, by
  have e : bestV k = bestL k k.boxes := by rw [bestV, if_neg fun h => h hf]
  rw [hf, e] at g; exact g⟩
def IntsW (l : List Int) (w : World) (v : Value) (w' : World) : Prop := ∃ u, v = .tuple #[u, .int .i64 0] ∧ Arr (New w) w' 1 encI u l
theorem c39F (h : WkA All w a b c hs d e f k) (hf : fault9 k = 0) : Rt 39 [wkV a b c d e f k] w fun v w' => Keep w w' ∧ IntsW (wiseV k) w v w' := (c39 h).mono fun v w' ⟨kp, g⟩ => ⟨kp, by
  rw [hf] at g; exact g⟩
theorem c55F (h : WkA All w a b c hs d e f k) (hf : fault9 k = 0) (hb : k.boxes < 3) : Ex 55 [wkV a b c d e f k] w (.tuple #[.int .i64 ((bestL k k.boxes).2 - (bestL k (k.boxes + 1)).2), .int .i64 0]) := by
  have := c55 h
  rwa [moreV, if_neg (fun h => h hf), if_pos hb] at this
theorem c55G (h : WkA All w a b c hs d e f k) (hf : fault9 k = 0) (hb : ¬ k.boxes < 3) : Ex 55 [wkV a b c d e f k] w (.tuple #[.int .i64 0, .int .i64 2]) := by
  have := c55 h
  rwa [moreV, if_neg (fun h => h hf), if_neg hb] at this
theorem c61F (h : WkA All w a b c hs d e f k) (hf : fault9 k = 0) {pv : Value} {l : List Int} (hl : Arr All w 1 encI pv l) (x : Int) (hp : planP k l = true) : Ex 61 [wkV a b c d e f k, pv, .int .i64 x] w (.bool (decide (endV k l ≤ x))) := by
  have := c61 h hl x
  rwa [hf, hp, decide_eq_true rfl, Bool.true_and, Bool.true_and] at this
theorem planP_best {k : Wk} (h : OkK k) : planP k (bestL k k.boxes).1 = true := by
  rw [planP_eq h.boxes, isPlan_iff]; exact (bestL_ok h h.boxes.1).mem
end
end Go.Proofs.YtkbaaikidhbfmaaGreat
/- What the laws ask, second part. No statement is proved here. -/
set_option linter.unusedVariables false
set_option linter.unusedSimpArgs false
namespace Go.Proofs.YtkbaaikidhbfmaaGreat
open Go.RowKit
theorem SH.cut {b0 : World} {R R' : Rgs} {H H' : Hp} {w : World} (hw : SH b0 R H w) (hR : R'.Sublist R := by repeat (first | exact List.nil_sublist _ | exact List.Sublist.refl _ | apply List.Sublist.cons_cons | apply List.Sublist.cons)) (hH : H'.Sublist H := by repeat (first | exact List.nil_sublist _ | exact List.Sublist.refl _ | apply List.Sublist.cons_cons | apply List.Sublist.cons)) : SH b0 R' H' w := hw.weak (fun r h => hR.subset h) hH
section
variable {w : World} {a b c d e f pv : Value} {hs : List Value} {k : Wk} {l : List Int}
theorem pn_up {G : Nat → Prop} {b0 : World} {R : Rgs} {H : Hp} {w w1 : World} {v : Value} {es : List (Value × Int × Value)} {ps : List (List Int × Crs)} (hw : SH b0 R H w) (hr : (G, w1) ∈ R) (h : PNest G w1 v es ps) : PNest All w v es ps :=
  ⟨h.len, up hw hr h.arr, fun i hi => ⟨up hw hr (h.row i hi).1, (h.row i hi).2.1, up hw hr (h.row i hi).2.2⟩⟩
theorem sub3 {α : Type} {x y z : α} {l : List α} (hx : x ∈ l) (hy : y ∈ l) (hz : z ∈ l) : ∀ r ∈ [x, y, z], r ∈ l := fun r h => by
  simp only [List.mem_cons, List.not_mem_nil, or_false] at h; rcases h with rfl | rfl | rfl <;> assumption
theorem sub4 {α : Type} {x y z u : α} {l : List α} (hx : x ∈ l) (hy : y ∈ l) (hz : z ∈ l) (hu : u ∈ l) : ∀ r ∈ [x, y, z, u], r ∈ l := fun r h => by
  simp only [List.mem_cons, List.not_mem_nil, or_false] at h; rcases h with rfl | rfl | rfl | rfl <;> assumption
theorem late_yes {k : Wk} {l : List Int} (h : 0 ≤ lateI k l) : lateR k l = (lateI k l, 0) := by
  unfold lateI at h ⊢; unfold lateR
  cases hq : (timesV k l).findIdx? (fun r => decide (k.last < r.2)) with
  | none => rw [hq] at h; simp at h
  | some i => rfl
theorem late_no {k : Wk} {l : List Int} (h : ¬ 0 ≤ lateI k l) : lateR k l = (0, 7) := by
  unfold lateI at h; unfold lateR
  cases hq : (timesV k l).findIdx? (fun r => decide (k.last < r.2)) with
  | none => rfl
  | some i => rw [hq] at h; simp only at h; omega
theorem c36P (h : WkA All w a b c hs d e f k) (hv : Arr All w 1 encI pv l) : Ex 36 [wkV a b c d e f k, pv] w (.bool (planP k l)) := by
  have i1 := h.yard.fields.v1
  have i2 := h.yard.vats.arr.v1
  have i3 := h.yard.smps.v1
  have i4 := h.beat.vats.v1
  have i5 := h.beat.smps.v1
  have i6 := h.ends.v1
  have i7 := hv.v1
  have hl := h.yard.vats.len
  have b1 := hv.bound
  refine Rt_of Tryz.func36 rfl Tryz.ntmps36 rfl ?_
  repeat' (first | apply s_ | ((first | apply JO_ob | apply GD_ex | apply GL_ex); exact rfl; first | exact ob1) | ((first | apply b_ | apply a_ | apply i_); exact z_; intro _) | ((first | apply p_ | apply JO_yes | apply GC_t); exact z_) | (apply n_; exact z_) | (apply GC_f; exact z_) | (apply GX_block_on; exact z_) | refine GC_drawA (id := 4) [0, 1, 2, 3, 4, 5, 6, 7, 8] [] (by kernel_rfl) ?_ | ((first | apply GD_at | apply GL_at | apply GD_no | apply GL_no); exact rfl) | apply DFin_0 | (apply q1_; exact z_) | (apply q0_; exact z_) | (apply q2_; exact z_) | (apply c_; exact z_; all_goals intro _) | (apply g_; exact z_; all_goals intro _))
  rename_i p
  refine GC_loop0 (fun q => l.length - q) (fun q => [(2, .pointer (some ⟨p, 0, none⟩)), (1, pv), (5, .int .i64 (q : Int))]) (fun q => q ≤ l.length ∧ ∀ j, j < q → decide (0 ≤ nth l j ∧ nth l j ≤ boxW k) = true) 0 ⟨rfl, rfl, rfl, trivial⟩ ⟨by omega, fun j hj => absurd hj (Nat.not_lt_zero j)⟩ ?_
  rintro q ⟨hk, hno⟩
  by_cases hlt : q < l.length
  · repeat' (first | apply s_ | ((first | apply JO_ob | apply GD_ex | apply GL_ex); exact rfl; first | exact ob1 | exact Ob_subw rfl rfl | exact Ob_call rfl (fun w hw => c47 _ 0 (boxW k) w)) | ((first | apply b_ | apply a_ | apply i_); exact z_; intro _) | ((first | apply p_ | apply JO_yes | apply GC_t); exact z_) | (apply n_; exact z_) | (apply GC_f; exact z_) | (apply GX_block_on; exact z_) | refine GC_drawA (id := 4) [0, 1, 2, 3, 4, 5, 6, 7, 8] [] (by kernel_rfl) ?_ | ((first | apply GD_at | apply GL_at | apply GD_no | apply GL_no); exact rfl) | apply DFin_0 | (apply q1_; exact z_) | (apply q0_; exact z_) | (apply q2_; exact z_) | (apply c_; exact z_; all_goals intro _) | (apply g_; exact z_; all_goals intro _))
    cases hf : decide (0 ≤ nth l q ∧ nth l q ≤ boxW k)
    · repeat' (first | apply s_ | ((first | apply JO_ob | apply GD_ex | apply GL_ex); exact rfl; first | exact ob1) | ((first | apply b_ | apply a_ | apply i_); exact z_; intro _) | ((first | apply p_ | apply JO_yes | apply GC_t); exact z_) | (apply n_; exact z_) | (apply GC_f; exact z_) | (apply GX_block_on; exact z_) | refine GC_drawA (id := 4) [0, 1, 2, 3, 4, 5, 6, 7, 8] [] (by kernel_rfl) ?_ | ((first | apply GD_at | apply GL_at | apply GD_no | apply GL_no); exact rfl) | apply DFin_0 | (apply q1_; exact z_) | (apply q0_; exact z_) | (apply q2_; exact z_) | (apply c_; exact z_; all_goals intro _) | (apply g_; exact z_; all_goals intro _))
      refine GX_ex rfl rfl mem_ ?_
      simp only [planP]
      rw [all_not hlt hf, Bool.false_and]
    · repeat' (first | apply s_ | ((first | apply JO_ob | apply GD_ex | apply GL_ex); exact rfl; first | exact ob1) | ((first | apply b_ | apply a_ | apply i_); exact z_; intro _) | ((first | apply p_ | apply JO_yes | apply GC_t); exact z_) | (apply n_; exact z_) | (apply GC_f; exact z_) | (apply GX_block_on; exact z_) | refine GC_drawA (id := 4) [0, 1, 2, 3, 4, 5, 6, 7, 8] [] (by kernel_rfl) ?_ | ((first | apply GD_at | apply GL_at | apply GD_no | apply GL_no); exact rfl) | apply DFin_0 | (apply q1_; exact z_) | (apply q0_; exact z_) | (apply q2_; exact z_) | (apply c_; exact z_; all_goals intro _) | (apply g_; exact z_; all_goals intro _))
      refine GX_loop0 (q + 1) ⟨rfl, rfl, rfl, trivial⟩ (by omega) ⟨by omega, fun j hj => ?_⟩
      rcases Nat.lt_or_ge j q with h | h
      · exact hno j h
      · rw [show j = q by omega]; exact hf
  · have hA : (l.all fun x => decide (0 ≤ x ∧ x ≤ boxW k)) = true := all_nth.2 fun j hj => hno j (by omega)
    repeat' (first | apply s_ | ((first | apply JO_ob | apply GD_ex | apply GL_ex); exact rfl; first | exact ob1 | exact Ob_call rfl (fun w hw => c26 w a b c _ _ d _ e f _ _ _ _ (hw.arr mem_ h.yard.vats.arr))) | ((first | apply b_ | apply a_ | apply i_); exact z_; intro _) | ((first | apply p_ | apply JO_yes | apply GC_t); exact z_) | (apply n_; exact z_) | (apply GC_f; exact z_) | (apply GX_block_on; exact z_) | refine GC_drawA (id := 4) [0, 1, 2, 3, 4, 5, 6, 7, 8] [] (by kernel_rfl) ?_ | ((first | apply GD_at | apply GL_at | apply GD_no | apply GL_no); exact rfl) | apply DFin_0 | (apply q1_; exact z_) | (apply q0_; exact z_) | (apply q2_; exact z_) | (apply c_; exact z_; all_goals intro _) | (apply g_; exact z_; all_goals intro _))
    all_goals
      refine GX_ex rfl rfl mem_ ?_
      simp only [planP, hA, Bool.true_and]
      first
      | exact dT (by omega)
      | exact dF (by omega)
theorem c36T (h : WkA All w a b c hs d e f k) (hv : Arr All w 1 encI pv l) (hp : planP k l = true) : Ex 36 [wkV a b c d e f k, pv] w (.bool true) := by have := c36P h hv; rwa [hp] at this
theorem c36F (h : WkA All w a b c hs d e f k) (hv : Arr All w 1 encI pv l) (hp : planP k l = false) : Ex 36 [wkV a b c d e f k, pv] w (.bool false) := by have := c36P h hv; rwa [hp] at this
theorem planP_len {k : Wk} {l : List Int} (hp : planP k l = true) : l.length = k.yard.vats.length := by
  simp only [planP, Bool.and_eq_true, decide_eq_true_eq] at hp; exact hp.2
def ListW (l : List Int) (w : World) (v : Value) (w' : World) : Prop := Arr (New w) w' 1 encI v l
end
end Go.Proofs.YtkbaaikidhbfmaaGreat
/- Plain mathematics: the wise endings; the reference's best plan. No statement is proved here. -/
set_option linter.unusedVariables false
set_option linter.unusedSimpArgs false
namespace Go.Proofs.YtkbaaikidhbfmaaGreat
open Go.RowKit
theorem okK_ended {k : Wk} (h : OkK k) {i : Nat} {x : Int} (hx : 0 ≤ x ∧ x ≤ k.beat.last) : OkK (endedK k i x) :=
  ⟨h.f1, h.f3, h.y, h.b, h.m1, h.m3, h.len, (endedK_okW h hx).ends, h.t1, h.t3, h.boxes, h.force, h.last, h.cake⟩
/-- The sure mud of a vat with an ending. -/
def sureE (k : Wk) (i : Nat) (x : Int) : Int := max 0 (leastB k.yard i - worstC k.beat i x)
theorem loE_eq {k : Wk} (h : OkK k) {i : Nat} (hi : i < k.yard.vats.length) {x : Int} (hx : 0 ≤ x ∧ x ≤ k.beat.last) : loE k i x = sureE k i x := by
  have hl := h.b.l
  have he := h.endsL
  have e : nth (endedK k i x).ends i = x := by
    simp only [endedK]; rw [nth_set (by omega)]; simp
  have h1 := muds_lo (okK_ended h hx) (i := i) hi (by rw [e]; omega)
  rw [mudsV_id (k := endedK k i x) hi, e] at h1
  exact h1
theorem foldl_max_0 {l : List Int} (h0 : l ≠ []) (hb : ∀ x ∈ l, 0 ≤ x) : l.foldl max 0 = l.foldl max (-1) := by
  obtain ⟨a1, a2, a3⟩ := foldl_max_le l 0
  obtain ⟨b1, b2, b3⟩ := foldl_max_le l (-1)
  obtain ⟨x, hx⟩ := List.exists_mem_of_ne_nil l h0
  have h1 := hb x hx
  have h2 := b2 x hx
  rcases a3 with a3 | a3
  · rcases b3 with b3 | b3
    · omega
    · have := hb _ b3; have := a2 _ b3; omega
  · have := b2 _ a3
    rcases b3 with b3 | b3
    · omega
    · have := a2 _ b3; omega
theorem worstAt_eq (rows : List (List Int)) (i : Nat) : worstAt rows i = (rows.map fun t => nth t i).foldl max 0 := by
  simp only [worstAt, List.foldl_map]
theorem overI_eq {k : Wk} (h : OkK k) {i : Nat} (hi : i < k.yard.vats.length) {m : Nat} (hm : (m : Int) ≤ k.beat.last) : overI k m i = sureE k i (m : Int) := by
  have hl := h.b.l
  have hlen := h.len
  have e1 : ((lossM k m).map fun t => nth t i) = (truthsW k.beat).map fun l => lostC k.beat (toC l) (i : Int) (m : Int) := by
    simp only [lossM, List.map_map]
    refine List.map_congr_left fun l hl' => ?_
    have hc := InC_of (mem_lex.1 (List.mem_filter.1 hl').1)
    have hi' : i < k.beat.vats.length := by omega
    have hn : i < (toC l).needs.length := by rw [hc.len]; exact hi'
    simp only [Function.comp_apply, lossRow]
    have e2 : nth ((List.range k.beat.vats.length).map fun i => lostV (nth k.beat.vats i) (nth (doneL (toC l)) i) (nth (List.replicate k.yard.vats.length (m : Int)) i)) i = lostV (nth k.beat.vats i) (nth (doneL (toC l)) i) (nth (List.replicate k.yard.vats.length (m : Int)) i) := by simp [nth, hi']
    have e3 : nth (List.replicate k.yard.vats.length (m : Int)) i = (m : Int) := by simp [nth, hi]
    rw [e2, e3, doneL_nth hn, lostV_eq]
  simp only [overI, sureE]
  rw [bnds_nth hi, worstAt_eq, e1, foldl_max_0 (by simp [h.t3]) (fun x hx => by
    obtain ⟨l, hl', rfl⟩ := List.mem_map.1 hx
    exact (lost_bd h hl' hi (by omega)).1)]
  rfl
theorem wise_same {k : Wk} (h : OkK k) {i : Nat} (hi : i < k.yard.vats.length) : ∀ n : Nat, ((n + 1 : Nat) : Int) ≤ k.beat.last + 1 → wiseU k i (n + 1) = refW k i (n + 1)
  | 0, hn => by
    rw [wiseU_succ, refW_succ, overI_eq h hi (by omega), loE_eq h hi (by omega)]
    have h0 : (refW k i 0).2 = -1 := rfl
    have h1 : 0 ≤ sureE k i ((0 : Nat) : Int) := by simp only [sureE]; omega
    rw [if_pos (.inl rfl), if_pos (by omega)]
  | n + 1, hn => by
    rw [wiseU_succ, refW_succ, overI_eq h hi (by omega), loE_eq h hi (by omega), wise_same h hi n (by omega)]
    by_cases hc : (refW k i (n + 1)).2 < sureE k i ((n + 1 : Nat) : Int)
    · rw [if_pos (.inr hc), if_pos hc]
    · rw [if_neg hc, if_neg]
      rintro (h | h)
      · omega
      · exact hc h
theorem wise_eq {k : Wk} (h : OkK k) : wiseV k = wiseR k := by
  have hl := h.b.l
  simp only [wiseV, wiseR, List.map_inj_left, List.mem_range]
  intro i hi
  obtain ⟨n, hn⟩ : ∃ n, (k.beat.last + 1).toNat = n + 1 := ⟨k.beat.last.toNat, by omega⟩
  rw [hn, wise_same h hi n (by omega)]

/-! ### Plans in lexicographic order -/
theorem rangeL_to (b : Int) : rangeL 0 (b - 1) = (List.range b.toNat).map fun (j : Nat) => (j : Int) := by
  have e : (b - 1 - 0 + 1).toNat = b.toNat := by omega
  simp only [rangeL, e]
  refine List.map_congr_left fun j _ => by omega
theorem lex_snoc (r : Rg) : ∀ rs : List Rg, lex (rs ++ [r]) = (lex rs).flatMap fun l => (rangeL r.1 r.2).map fun x => l ++ [x]
  | [] => by
    simp only [List.nil_append, lex, List.flatMap_singleton, List.map_singleton]
    induction rangeL r.1 r.2 with
    | nil => rfl
    | cons x xs ih => simp [ih]
  | q :: rs => by
    simp only [List.cons_append, lex, lex_snoc r rs, List.map_flatMap, List.map_map, List.flatMap_assoc, List.flatMap_map]
    rfl
theorem plans_eq (b : Int) : ∀ n, plansR b n = lex (List.replicate n (0, b - 1))
  | 0 => rfl
  | n + 1 => by
    rw [List.replicate_succ', lex_snoc, plansR, plans_eq b n]
    simp only [longer, rangeL_to, List.map_map]
    rfl
theorem best_same {k : Wk} (h : OkK k) : ∀ (xs : List (List Int)) (s : List Int × Int), 0 ≤ s.2 → xs.foldl (bestStep k) s = xs.foldl (fun s l => if endV k l < s.2 then (l, endV k l) else s) s
  | [], s, _ => rfl
  | x :: xs, s, hs => by
    have hx := (endV_bd h x).1
    have e : bestStep k s x = if endV k x < s.2 then (x, endV k x) else s := by
      simp only [bestStep]
      by_cases hc : endV k x < s.2
      · rw [if_pos (.inr hc), if_pos hc]
      · rw [if_neg hc, if_neg]
        rintro (h | h)
        · omega
        · exact hc h
    simp only [List.foldl_cons, e]
    refine best_same h xs _ ?_
    split
    · exact hx
    · exact hs
theorem best_eq {k : Wk} (h : OkK k) {b : Int} (hb : 1 ≤ b) : bestL k b = bestRF k (plansR b k.yard.vats.length) := by
  rw [plans_eq]
  have hne := plans_ne (n := k.yard.vats.length) hb
  simp only [bestL, bestF, bestRF]
  generalize lex (List.replicate k.yard.vats.length (0, b - 1)) = ls at hne ⊢
  match ls, hne with
  | x :: xs, _ =>
    have hx := endV_bd h x
    have e1 : bestStep k ([], -1) x = (x, endV k x) := by simp [bestStep]
    simp only [List.foldl_cons, e1]
    rw [if_pos (by omega)]
    exact best_same h xs _ hx.1
end Go.Proofs.YtkbaaikidhbfmaaGreat
/- The laws' arguments, as they lie in memory. No statement is proved here. -/
set_option linter.unusedVariables false
set_option linter.unusedSimpArgs false
namespace Go.Proofs.YtkbaaikidhbfmaaGreat
open Go.RowKit Go.ChangeShapes Go.WideShapes
section
variable {H : Type} {ec : TypeId × Value → H} {W : World}
/-- What is read of some cells. -/
abbrev Tr (ec : TypeId × Value → H) (W : World) (n : Nat) (t : TypeId) (cs : List Value) (x : DataW H × List MemPlace) : Prop := DataW.trod ec P W 0 (fun _ => true) true n t cs = some x
theorem opn_int {k : IntKind} {t n : Nat} {cs : List Value} {x : DataW H × List MemPlace} (ht : P.underlying t = some (.int k)) (h : Tr ec W n t cs x) : ∃ a : Int, cs = [.int k a] ∧ (Lit.int k a).wf = true := by
  obtain ⟨a, h1, _, hw⟩ := DataW.trod_int ht h
  exact ⟨a, h1, hw⟩
theorem opn_bool {t n : Nat} {cs : List Value} {x : DataW H × List MemPlace} (ht : P.underlying t = some .bool) (h : Tr ec W n t cs x) : ∃ a : Bool, cs = [.bool a] := by
  obtain ⟨a, h1, _⟩ := DataW.trod_bool ht h
  exact ⟨a, h1⟩
theorem opn_fld {t n : Nat} {fs : Array Field} {cs : List Value} {x : DataW H × List MemPlace} (ht : P.underlying t = some (.struct fs)) (h : Tr ec W n t cs x) : cs.length = P.cellsOf t ∧ ∀ (i u o : Nat), (fs[i]?).map (fun f => (f.type, f.offset)) = some (u, o) → ∃ m y, Tr ec W m u ((cs.drop o).take (P.cellsOf u)) y := by
  obtain ⟨xs, m, _, _, hl, hlen, hf⟩ := DataW.trod_struct ht h
  refine ⟨hl, fun i u o hi => ?_⟩
  obtain ⟨f, hf0, e⟩ := Option.map_eq_some_iff.1 hi
  cases e
  have h1 := hf i f hf0
  have hlt : i < xs.length := by rw [hlen]; exact (Array.getElem?_eq_some_iff.1 hf0).1
  rw [List.getElem?_eq_getElem hlt] at h1
  exact ⟨m, _, h1⟩
theorem opn_arr {α : Type} [Inhabited α] {t e sz : Nat} (enc : α → List Value) (Q : α → Prop) (he : ∀ x, (enc x).length = sz) (h0 : 0 < sz) (ht : P.underlying t = some (.slice e)) (hc : P.cellsOf e = sz)
    (hd : ∀ n cs x, cs.length = sz → Tr ec W n e cs x → ∃ a, cs = enc a ∧ Q a) {n : Nat} {cs : List Value} {x : DataW H × List MemPlace} (h : Tr ec W n t cs x) : ∃ v xs, cs = [v] ∧ Arr All W sz enc v xs ∧ ∀ i, i < xs.length → Q (nth xs i) := by
  rcases DataW.trod_slice ht h with ⟨rfl, _⟩ | ⟨a, len, cap, elems, rest, m, _, rfl, _, _, hl, hcap, hlen, hel, _⟩
  · exact ⟨_, [], rfl, ⟨he, none, 0, rfl, Nat.le_refl _, by decide, .inl rfl⟩, fun i hi => absurd hi (Nat.not_lt_zero i)⟩
  · have h1 : ∀ i, ∃ y : α, i < len → W.cells? 0 (a.add (i * sz)) sz = some (enc y) ∧ Q y := by
      intro i
      by_cases hi : i < len
      · have h2 := hel i hi
        have hlt : i < elems.length := by omega
        rw [List.getElem?_eq_getElem hlt] at h2
        obtain ⟨c1, hc1, hy1⟩ := Option.bind_eq_some_iff.1 h2
        rw [hc] at hc1
        obtain ⟨y, rfl, hQ⟩ := hd m c1 _ (World.cells?_some hc1).2.1 hy1
        exact ⟨y, fun _ => ⟨hc1, hQ⟩⟩
      · exact ⟨default, fun h => absurd h hi⟩
    obtain ⟨f, hf⟩ := Classical.axiomOfChoice h1
    have hxl : ((List.range len).map f).length = len := by simp
    have hn : ∀ i, i < len → nth ((List.range len).map f) i = f i := fun i hi => by simp [nth, hi]
    refine ⟨_, (List.range len).map f, rfl, ⟨he, some a, cap, by rw [hxl], by rw [hxl]; exact hl, Nat.le_trans hcap (by decide), ?_⟩, fun i hi => ?_⟩
    · rcases Nat.eq_zero_or_pos len with e0 | e0
      · subst e0; exact .inl rfl
      · have hsp : a.spot = none := by
          have h2 := (World.cells?_some (hf 0 e0).1).2.2 0 h0
          have e1 : (a.add (0 * sz)).add 0 = a := by simp [Addr.add]
          rw [e1] at h2
          have h3 : (enc (f 0))[0]? ≠ none := by rw [List.getElem?_eq_getElem (by rw [he]; exact h0)]; simp
          cases hs : a.spot with
          | none => rfl
          | some s =>
            rw [← h2] at h3
            exfalso; apply h3
            unfold World.cell?
            split
            · simp [hs]
            · rfl
        obtain ⟨b, off, sp⟩ := a
        simp only at hsp; subst hsp
        refine .inr ⟨b, off, rfl, trivial, fun j hj => ?_⟩
        have hjl : j < len * sz := by rw [flatMap_len he, hxl] at hj; exact hj
        have hq : j / sz < len := Nat.div_lt_of_lt_mul (by rw [Nat.mul_comm]; exact hjl)
        have hr : j % sz < sz := Nat.mod_lt _ h0
        have ej : j = j / sz * sz + j % sz := by rw [Nat.mul_comm]; exact (Nat.div_add_mod _ _).symm
        have h2 := (World.cells?_some (hf _ hq).1).2.2 _ hr
        rw [add_none, add_none] at h2
        have h4 := flatMap_at he ((List.range len).map f) (j / sz) (j % sz) (f (j / sz)) (by simp [hq]) hr
        rw [← ej] at h4
        rw [h4, ← h2, Nat.add_assoc, ← ej]
    · rw [hxl] at hi
      rw [hn i hi]; exact (hf i hi).2
theorem vlen2 {cs : List Value} (h : cs.length = 2) : ∃ a b, cs = [a, b] := by
  match cs, h with
  | [a, b], _ => exact ⟨a, b, rfl⟩
theorem vlen3 {cs : List Value} (h : cs.length = 3) : ∃ a b c, cs = [a, b, c] := by
  match cs, h with
  | [a, b, c], _ => exact ⟨a, b, c, rfl⟩
theorem vlen4 {cs : List Value} (h : cs.length = 4) : ∃ a b c d, cs = [a, b, c, d] := by
  match cs, h with
  | [a, b, c, d], _ => exact ⟨a, b, c, d, rfl⟩
theorem vlen5 {cs : List Value} (h : cs.length = 5) : ∃ a b c d e, cs = [a, b, c, d, e] := by
  match cs, h with
  | [a, b, c, d, e], _ => exact ⟨a, b, c, d, e, rfl⟩
theorem vlen13 {cs : List Value} (h : cs.length = 13) : ∃ a b c d e f g i j k l m n, cs = [a, b, c, d, e, f, g, i, j, k, l, m, n] := by
  match cs, h with
  | [a, b, c, d, e, f, g, i, j, k, l, m, n], _ => exact ⟨a, b, c, d, e, f, g, i, j, k, l, m, n, rfl⟩
theorem sz3 : P.cellsOf 3 = 1 := by kernel_rfl
theorem sz4 : P.cellsOf 4 = 1 := by kernel_rfl
theorem sz33 : P.cellsOf 33 = 1 := by kernel_rfl
theorem sz22 : P.cellsOf 22 = 1 := by kernel_rfl
theorem sz23 : P.cellsOf 23 = 1 := by kernel_rfl
theorem sz24 : P.cellsOf 24 = 1 := by kernel_rfl
theorem sz29 : P.cellsOf 29 = 1 := by kernel_rfl
theorem sz30 : P.cellsOf 30 = 1 := by kernel_rfl
theorem sz61 : P.cellsOf 61 = 2 := by kernel_rfl
theorem sz28 : P.cellsOf 28 = 2 := by kernel_rfl
theorem sz102 : P.cellsOf 102 = 3 := by kernel_rfl
theorem sz104 : P.cellsOf 104 = 3 := by kernel_rfl
theorem sz108 : P.cellsOf 108 = 4 := by kernel_rfl
theorem sz26 : P.cellsOf 26 = 3 := by kernel_rfl
theorem sz32 : P.cellsOf 32 = 5 := by kernel_rfl
theorem sz35 : P.cellsOf 35 = 13 := by kernel_rfl
theorem opn3 {n : Nat} {cs : List Value} {x : DataW H × List MemPlace} (h : Tr ec W n 3 cs x) : ∃ a : Int, cs = [.int .i64 a] := by
  obtain ⟨a, h, _⟩ := opn_int Tryz.underlying3 h
  exact ⟨a, h⟩
theorem opn61 {n : Nat} {cs : List Value} {x : DataW H × List MemPlace} (h : Tr ec W n 61 cs x) : ∃ r : Rg, cs = encR r ∧ True := by
  obtain ⟨hl, hf⟩ := opn_fld Tryz.underlying61 h
  rw [sz61] at hl
  obtain ⟨a, b, rfl⟩ := vlen2 hl
  obtain ⟨_, _, h0⟩ := hf 0 3 0 rfl
  obtain ⟨_, _, h1⟩ := hf 1 3 1 rfl
  simp only [sz3] at h0 h1
  obtain ⟨u, e0⟩ := opn3 h0
  obtain ⟨v, e1⟩ := opn3 h1
  simp at e0 e1
  exact ⟨(u, v), by rw [e0, e1]; rfl, trivial⟩
theorem opn28 {n : Nat} {cs : List Value} {x : DataW H × List MemPlace} (h : Tr ec W n 28 cs x) : ∃ r : Rg, cs = encR r ∧ True := by
  obtain ⟨hl, hf⟩ := opn_fld Tryz.underlying28 h
  rw [sz28] at hl
  obtain ⟨a, b, rfl⟩ := vlen2 hl
  obtain ⟨_, _, h0⟩ := hf 0 3 0 rfl
  obtain ⟨_, _, h1⟩ := hf 1 3 1 rfl
  simp only [sz3] at h0 h1
  obtain ⟨u, e0⟩ := opn3 h0
  obtain ⟨v, e1⟩ := opn3 h1
  simp at e0 e1
  exact ⟨(u, v), by rw [e0, e1]; rfl, trivial⟩
theorem opn102 {n : Nat} {cs : List Value} {x : DataW H × List MemPlace} (h : Tr ec W n 102 cs x) : ∃ s : Smp, cs = encS s ∧ True := by
  obtain ⟨hl, hf⟩ := opn_fld Tryz.underlying102 h
  rw [sz102] at hl
  obtain ⟨a, b, c, rfl⟩ := vlen3 hl
  obtain ⟨_, _, h0⟩ := hf 0 3 0 rfl
  obtain ⟨_, _, h1⟩ := hf 1 61 1 rfl
  simp only [sz3, sz61] at h0 h1
  obtain ⟨u, e0⟩ := opn3 h0
  obtain ⟨r, e1, _⟩ := opn61 h1
  simp [encR] at e0 e1
  exact ⟨⟨u, r.1, r.2⟩, by rw [e0, e1.1, e1.2]; rfl, trivial⟩
theorem opn104 {n : Nat} {cs : List Value} {x : DataW H × List MemPlace} (h : Tr ec W n 104 cs x) : ∃ s : BS, cs = encB s ∧ True := by
  obtain ⟨hl, hf⟩ := opn_fld Tryz.underlying104 h
  rw [sz104] at hl
  obtain ⟨a, b, c, rfl⟩ := vlen3 hl
  obtain ⟨_, _, h0⟩ := hf 0 3 0 rfl
  obtain ⟨_, _, h1⟩ := hf 1 3 1 rfl
  obtain ⟨_, _, h2⟩ := hf 2 4 2 rfl
  simp only [sz3, sz4] at h0 h1 h2
  obtain ⟨u, e0⟩ := opn3 h0
  obtain ⟨v, e1⟩ := opn3 h1
  obtain ⟨d, e2⟩ := opn_bool Tryz.underlying4 h2
  simp at e0 e1 e2
  exact ⟨⟨u, v, d⟩, by rw [e0, e1, e2]; rfl, trivial⟩
theorem opn108 {n : Nat} {cs : List Value} {x : DataW H × List MemPlace} (h : Tr ec W n 108 cs x) : ∃ s : BV, cs = encV s ∧ True := by
  obtain ⟨hl, hf⟩ := opn_fld Tryz.underlying108 h
  rw [sz108] at hl
  obtain ⟨a, b, c, d, rfl⟩ := vlen4 hl
  obtain ⟨_, _, h0⟩ := hf 0 28 0 rfl
  obtain ⟨_, _, h1⟩ := hf 1 3 2 rfl
  obtain ⟨_, _, h2⟩ := hf 2 3 3 rfl
  simp only [sz3, sz28] at h0 h1 h2
  obtain ⟨r, e0, _⟩ := opn28 h0
  obtain ⟨u, e1⟩ := opn3 h1
  obtain ⟨v, e2⟩ := opn3 h2
  simp [encR] at e0 e1 e2
  exact ⟨⟨r.1, r.2, u, v⟩, by rw [e0.1, e0.2, e1, e2]; rfl, trivial⟩
theorem opn33 {n : Nat} {cs : List Value} {x : DataW H × List MemPlace} (h : Tr ec W n 33 cs x) : ∃ v xs, cs = [v] ∧ Arr All W 1 encI v xs := by
  obtain ⟨v, xs, h1, h2, _⟩ := opn_arr encI (fun _ => True) (fun _ => rfl) (by decide) Tryz.underlying33 sz3 (fun n cs x hl h => by
    obtain ⟨a, rfl⟩ := opn3 h; exact ⟨a, rfl, trivial⟩) h
  exact ⟨v, xs, h1, h2⟩
theorem opn26 {n : Nat} {cs : List Value} {x : DataW H × List MemPlace} (h : Tr ec W n 26 cs x) : ∃ a b c hs y, cs = [a, b, c] ∧ YdA All W a b c hs y := by
  obtain ⟨hl, hf⟩ := opn_fld Tryz.underlying26 h
  rw [sz26] at hl
  obtain ⟨a, b, c, rfl⟩ := vlen3 hl
  obtain ⟨_, _, h0⟩ := hf 0 22 0 rfl
  obtain ⟨_, _, h1⟩ := hf 1 23 1 rfl
  obtain ⟨_, _, h2⟩ := hf 2 24 2 rfl
  simp only [sz22, sz23, sz24] at h0 h1 h2
  obtain ⟨v0, fs, e0, g0, _⟩ := opn_arr encR (fun _ => True) (fun _ => rfl) (by decide) Tryz.underlying22 sz61 (fun n cs x hl h => opn61 h) h0
  obtain ⟨v1, hs, e1, g1, g3⟩ := opn_arr encO (fun v => ∃ xs, Arr All W 1 encI v xs) (fun _ => rfl) (by decide) Tryz.underlying23 sz33 (fun n cs x hl h => by
    obtain ⟨v, xs, rfl, h'⟩ := opn33 h; exact ⟨v, rfl, xs, h'⟩) h1
  obtain ⟨v2, ss, e2, g2, _⟩ := opn_arr encS (fun _ => True) (fun _ => rfl) (by decide) Tryz.underlying24 sz102 (fun n cs x hl h => opn102 h) h2
  simp at e0 e1 e2
  subst e0; subst e1; subst e2
  have h3 : ∀ i, ∃ xs, i < hs.length → Arr All W 1 encI (nth hs i) xs := fun i => by
    by_cases hi : i < hs.length
    · obtain ⟨xs, h⟩ := g3 i hi; exact ⟨xs, fun _ => h⟩
    · exact ⟨[], fun h => absurd h hi⟩
  obtain ⟨f, hf⟩ := Classical.axiomOfChoice h3
  have hxl : ((List.range hs.length).map f).length = hs.length := by simp
  refine ⟨a, b, c, hs, ⟨fs, (List.range hs.length).map f, ss⟩, rfl, g0, ⟨by rw [hxl], g1, fun i hi => ?_⟩, g2⟩
  rw [hxl] at hi
  have e : nth ((List.range hs.length).map f) i = f i := by simp [nth, hi]
  rw [e]; exact hf i hi
theorem opn32 {n : Nat} {cs : List Value} {x : DataW H × List MemPlace} (h : Tr ec W n 32 cs x) : ∃ d e y, cs = [.int .i64 y.sun.1, .int .i64 y.sun.2, d, .int .i64 y.last, e] ∧ BtA All W d e y := by
  obtain ⟨hl, hf⟩ := opn_fld Tryz.underlying32 h
  rw [sz32] at hl
  obtain ⟨s1, s2, a, b, c, rfl⟩ := vlen5 hl
  obtain ⟨_, _, h0⟩ := hf 0 28 0 rfl
  obtain ⟨_, _, h1⟩ := hf 1 29 2 rfl
  obtain ⟨_, _, h2⟩ := hf 2 3 3 rfl
  obtain ⟨_, _, h3⟩ := hf 3 30 4 rfl
  simp only [sz28, sz29, sz3, sz30] at h0 h1 h2 h3
  obtain ⟨r, e0, _⟩ := opn28 h0
  obtain ⟨v1, vs, e1, g1, _⟩ := opn_arr encV (fun _ => True) (fun _ => rfl) (by decide) Tryz.underlying29 sz108 (fun n cs x hl h => opn108 h) h1
  obtain ⟨u, e2⟩ := opn3 h2
  obtain ⟨v3, ss, e3, g3, _⟩ := opn_arr encB (fun _ => True) (fun _ => rfl) (by decide) Tryz.underlying30 sz104 (fun n cs x hl h => opn104 h) h3
  simp [encR] at e0 e1 e2 e3
  obtain ⟨rfl, rfl⟩ := e0
  subst e1; subst e2; subst e3
  exact ⟨a, c, ⟨r, vs, u, ss⟩, rfl, g1, g3⟩
theorem opn35 {n : Nat} {cs : List Value} {x : DataW H × List MemPlace} (h : Tr ec W n 35 cs x) : ∃ a b c hs d e f k, cs = [a, b, c, .int .i64 k.beat.sun.1, .int .i64 k.beat.sun.2, d, .int .i64 k.beat.last, e, f, .int .i64 k.boxes, .int .i64 k.force, .int .i64 k.last, .int .i64 k.cake] ∧ WkA All W a b c hs d e f k := by
  obtain ⟨hl, hf⟩ := opn_fld Tryz.underlying35 h
  rw [sz35] at hl
  obtain ⟨a, b, c, s1, s2, d, la, e, f, bo, fo, ls, ca, rfl⟩ := vlen13 hl
  obtain ⟨_, _, h0⟩ := hf 0 26 0 rfl
  obtain ⟨_, _, h1⟩ := hf 1 32 3 rfl
  obtain ⟨_, _, h2⟩ := hf 2 33 8 rfl
  obtain ⟨_, _, h3⟩ := hf 3 3 9 rfl
  obtain ⟨_, _, h4⟩ := hf 4 3 10 rfl
  obtain ⟨_, _, h5⟩ := hf 5 3 11 rfl
  obtain ⟨_, _, h6⟩ := hf 6 3 12 rfl
  simp only [sz26, sz32, sz33, sz3] at h0 h1 h2 h3 h4 h5 h6
  obtain ⟨a', b', c', hs, y, e0, g0⟩ := opn26 h0
  obtain ⟨d', e', bt, e1, g1⟩ := opn32 h1
  obtain ⟨f', en, e2, g2⟩ := opn33 h2
  obtain ⟨u3, e3⟩ := opn3 h3
  obtain ⟨u4, e4⟩ := opn3 h4
  obtain ⟨u5, e5⟩ := opn3 h5
  obtain ⟨u6, e6⟩ := opn3 h6
  simp at e0 e1 e2 e3 e4 e5 e6
  obtain ⟨rfl, rfl, rfl⟩ := e0
  obtain ⟨rfl, rfl, rfl, rfl, rfl⟩ := e1
  subst e2; subst e3; subst e4; subst e5; subst e6
  exact ⟨a, b, c, hs, d, e, f, ⟨y, bt, en, u3, u4, u5, u6⟩, rfl, g0, g1, g2⟩
theorem okWide_struct {Pr : Program} {r : Reach} {base t : Nat} {fs : Array Field} {v : Value} (ht : Pr.underlying t = some (.struct fs)) (h : Value.okWide Pr W r base t v) : ∃ cs, v = .agg cs := by
  unfold Value.okWide at h
  rw [ht] at h
  obtain ⟨cs, e, _⟩ := h
  exact ⟨cs, e⟩
set_option maxRecDepth 100000 in
/-- Works that are handed in. -/
theorem open_works {r : Reach} {base : Nat} {v : Value} {dd : DataW H} {ps : List MemPlace} (hv : Value.okWide P W r base 35 v) (h : DataW.Trod ec P W 0 (fun _ => true) true 35 v dd ps) : ∃ a b c hs d e f k, v = wkV a b c d e f k ∧ WkA All W a b c hs d e f k := by
  have hx := okWide_struct (W := W) (r := r) (base := base) (v := v) (show P.underlying 35 = _ from Tryz.underlying35)
  have hy := hx (by assumption)
  obtain ⟨cs, rfl⟩ := hy
  obtain ⟨n, h⟩ := h
  obtain ⟨a, b, c, hs, d, e, f, k, e1, g⟩ := opn35 h
  have e2 : cs = [a, b, c, .int .i64 k.beat.sun.1, .int .i64 k.beat.sun.2, d, .int .i64 k.beat.last, e, f, .int .i64 k.boxes, .int .i64 k.force, .int .i64 k.last, .int .i64 k.cake].toArray := by
    rw [← e1]; simp [Value.cells]
  exact ⟨a, b, c, hs, d, e, f, k, by rw [e2], g⟩
end
end Go.Proofs.YtkbaaikidhbfmaaGreat
/- The laws' arguments, second part: lists, words, samples, numbers. No statement is proved here. -/
set_option linter.unusedVariables false
set_option linter.unusedSimpArgs false
namespace Go.Proofs.YtkbaaikidhbfmaaGreat
open Go.RowKit Go.ChangeShapes Go.WideShapes
theorem wf_u8 {a : Int} (h : (Lit.int .u8 a).wf = true) : 0 ≤ a ∧ a ≤ 255 := by
  simp only [Lit.wf, Bool.and_eq_true, decide_eq_true_eq] at h; exact h
theorem wf_u16 {a : Int} (h : (Lit.int .u16 a).wf = true) : 0 ≤ a ∧ a ≤ 65535 := by
  simp only [Lit.wf, Bool.and_eq_true, decide_eq_true_eq] at h; exact h
theorem wf_i64 {a : Int} (h : (Lit.int .i64 a).wf = true) : -9223372036854775808 ≤ a ∧ a ≤ 9223372036854775807 := by
  simp only [Lit.wf, Bool.and_eq_true, decide_eq_true_eq] at h; exact h
section
variable {H : Type} {ec : TypeId × Value → H} {W : World}
theorem sz90 : P.cellsOf 90 = 1 := by kernel_rfl
theorem opn95 {n : Nat} {cs : List Value} {x : DataW H × List MemPlace} (h : Tr ec W n 95 cs x) : ∃ v xs, cs = [v] ∧ Arr All W 1 encU v xs ∧ Words xs :=
  opn_arr encU (fun a => 0 ≤ a ∧ a ≤ 65535) (fun _ => rfl) (by decide) Tryz.underlying95 sz90 (fun n cs x hl h => by
    obtain ⟨a, rfl, hw⟩ := opn_int Tryz.underlying90 h; exact ⟨a, rfl, wf_u16 hw⟩) h
theorem okWide_sl {Pr : Program} {r : Reach} {base t e : Nat} {v : Value} (ht : Pr.underlying t = some (.slice e)) (h : Value.okWide Pr W r base t v) : ∃ a n c, v = .slice a n c := okWide_slice ht h
set_option maxRecDepth 100000 in
theorem open_slice33 {r : Reach} {base : Nat} {v : Value} {dd : DataW H} {ps : List MemPlace} (hv : Value.okWide P W r base 33 v) (h : DataW.Trod ec P W 0 (fun _ => true) true 33 v dd ps) : ∃ xs, Arr All W 1 encI v xs := by
  have hx := okWide_sl (W := W) (r := r) (base := base) (v := v) (show P.underlying 33 = _ from Tryz.underlying33)
  have hy := hx (by assumption)
  obtain ⟨A, n, c, rfl⟩ := hy
  obtain ⟨m, h⟩ := h
  obtain ⟨v, xs, e, g⟩ := opn33 h
  simp [Value.cells] at e
  subst e
  exact ⟨xs, g⟩
set_option maxRecDepth 100000 in
theorem open_slice95 {r : Reach} {base : Nat} {v : Value} {dd : DataW H} {ps : List MemPlace} (hv : Value.okWide P W r base 95 v) (h : DataW.Trod ec P W 0 (fun _ => true) true 95 v dd ps) : ∃ xs, Arr All W 1 encU v xs ∧ Words xs := by
  have hx := okWide_sl (W := W) (r := r) (base := base) (v := v) (show P.underlying 95 = _ from Tryz.underlying95)
  have hy := hx (by assumption)
  obtain ⟨A, n, c, rfl⟩ := hy
  obtain ⟨m, h⟩ := h
  obtain ⟨v, xs, e, g⟩ := opn95 h
  simp [Value.cells] at e
  subst e
  exact ⟨xs, g⟩
set_option maxRecDepth 100000 in
theorem open_smp {r : Reach} {base : Nat} {v : Value} {dd : DataW H} {ps : List MemPlace} (hv : Value.okWide P W r base 102 v) (h : DataW.Trod ec P W 0 (fun _ => true) true 102 v dd ps) : ∃ s : Smp, v = .agg (encS s).toArray := by
  have hx := okWide_struct (W := W) (r := r) (base := base) (v := v) (show P.underlying 102 = _ from Tryz.underlying102)
  have hy := hx (by assumption)
  obtain ⟨cs, rfl⟩ := hy
  obtain ⟨m, h⟩ := h
  obtain ⟨s, e, _⟩ := opn102 h
  exact ⟨s, by rw [← e]; simp [Value.cells]⟩
set_option maxRecDepth 100000 in
theorem open_bs {r : Reach} {base : Nat} {v : Value} {dd : DataW H} {ps : List MemPlace} (hv : Value.okWide P W r base 104 v) (h : DataW.Trod ec P W 0 (fun _ => true) true 104 v dd ps) : ∃ s : BS, v = .agg (encB s).toArray := by
  have hx := okWide_struct (W := W) (r := r) (base := base) (v := v) (show P.underlying 104 = _ from Tryz.underlying104)
  have hy := hx (by assumption)
  obtain ⟨cs, rfl⟩ := hy
  obtain ⟨m, h⟩ := h
  obtain ⟨s, e, _⟩ := opn104 h
  exact ⟨s, by rw [← e]; simp [Value.cells]⟩
end
end Go.Proofs.YtkbaaikidhbfmaaGreat
