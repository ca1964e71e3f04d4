/- The walks of the functions that the laws of the chapter 09 reach, and what they compute, part 2. No statement is proved here; no condition. -/
import Derived.WideKeyRuns
import Derived.Laws.StructEq
import Derived.Laws.Bits64
import Derived.Test.YtkbaaikidhbfmaaGreatB1
/- Loops that gather: what is known is laid anew at each round's end. No statement is proved here. -/
set_option linter.unusedVariables false
set_option linter.unusedSimpArgs false
namespace Go.Proofs.YtkbaaikidhbfmaaGreat
open Go.RowKit
/-- New since b0, and not one's own. -/
def OffN (b0 : World) (H : Hp) : Nat → Prop := fun b => b0.heap.size ≤ b ∧ ∀ p ∈ H, p.1 ≠ b
section
variable {β : Type} {n : Nat} {D : List Deferred} {Q : Post} {b0 : World} {R : Rgs} {H : Hp} {fr : Slots} {ρ : Option Nat} {G : Nat → Prop} {w w1 : World} {sz : Nat} {enc : β → List Value} {v : Value} {xs : List β}
theorem SH.offN (h : SH b0 R H w) : SH b0 ((OffN b0 H, w) :: R) H w := h.add _ fun p hp ho => ho.2 p hp rfl
theorem SH.b0le (h : SH b0 R H w) : b0.heap.size ≤ w.heap.size := h.bas.size
/-- What is known of a region is known of all that is new and not one's own. -/
theorem SH.toOff (hw : SH b0 R H w) (hr : (G, w1) ∈ R) (hG : ∀ b, G b → b0.heap.size ≤ b) (h : Arr G w1 sz enc v xs) : Arr (OffN b0 H) w sz enc v xs := by
  have h1 : Arr (fun b => G b ∧ OffN b0 H b) w1 sz enc v xs := h.weaken fun b hb hlt => ⟨hb, hG b hb, fun p hp e => by
    subst e
    have := hw.apt p hp _ hr hb
    simp only at this; omega⟩
  have h2 : Arr (fun b => G b ∧ OffN b0 H b) w sz enc v xs := h1.move fun b hb hlt => (hw.rng _ hr).2 b hb.1 hlt
  exact h2.weaken fun b hb _ => hb.2
theorem SH.toOffNest {hs : List Value} {xss : List (List Int)} (hw : SH b0 R H w) (hr : (G, w1) ∈ R) (hG : ∀ b, G b → b0.heap.size ≤ b) (h : Nest G w1 v hs xss) : Nest (OffN b0 H) w v hs xss :=
  ⟨h.len, hw.toOff hr hG h.arr, fun i hi => hw.toOff hr hG (h.row i hi)⟩
theorem GC_loopw {c : Code} {α : Type} (m : α → Nat) (F : α → Slots) (Rf : α → Rgs) (Hf : α → Hp) (I : α → Prop) (h0 : ∀ w, SH b0 R H w → ∃ a, Sub (F a) fr ∧ I a ∧ SH b0 (Rf a) (Hf a) w)
    (hstep : ∀ a, I a → GC ρ n D (Exit.then (Lp n D b0 m F Rf Hf I (m a)) Q) b0 (Rf a) (Hf a) c (F a)) : GC ρ n D Q b0 R H (.loop c) fr :=
  GC.mk fun w hw => by
    obtain ⟨a, h1, h2, h3⟩ := h0 w hw
    exact C_loop m F (fun a w => I a ∧ SH b0 (Rf a) (Hf a) w) a h1 ⟨h2, h3⟩ fun a w h => (hstep a h.1).use w h.2
theorem GX_loopw {α : Type} {m : α → Nat} {F : α → Slots} {Rf : α → Rgs} {Hf : α → Hp} {I : α → Prop} {k : Nat} (h : ∀ w, SH b0 R H w → ∃ a', Sub (F a') fr ∧ m a' < k ∧ I a' ∧ SH b0 (Rf a') (Hf a') w) :
    GX n D (Exit.then (Lp n D b0 m F Rf Hf I k) Q) b0 R H .normal fr := GX.mk fun w hw A hA => by
  obtain ⟨a', h1, h2, h3, h4⟩ := h w hw
  exact ⟨a', h2, ⟨hA.sub h1, rfl⟩, h3, h4⟩
/-- The known heap is changed between two pieces of code. -/
theorem GC_re {R' : Rgs} {H' : Hp} {c : Code} (hs : ∀ w, SH b0 R H w → SH b0 R' H' w) (h : GC ρ n D Q b0 R' H' c fr) : GC ρ n D Q b0 R H c fr := GC.mk fun w hw => h.use w (hs w hw)
theorem GC_at {c : Code} (h : ∀ w, SH b0 R H w → GC ρ n D Q b0 ((fun _ => False, w) :: R) H c fr) : GC ρ n D Q b0 R H c fr :=
  GC.mk fun w hw => (h w hw).use w (hw.add _ fun _ _ h => h)
end
theorem take_snoc {β : Type} [Inhabited β] {xs : List β} {k : Nat} (h : k < xs.length) : xs.take (k + 1) = xs.take k ++ [nth xs k] := by
  rw [List.take_add_one]; simp [nth, h]
theorem nth_app_l {β : Type} [Inhabited β] {xs ys : List β} {i : Nat} (h : i < xs.length) : nth (xs ++ ys) i = nth xs i := by simp [nth, List.getElem?_append_left h]
theorem nth_app_last {β : Type} [Inhabited β] {xs : List β} {y : β} {i : Nat} (h : i = xs.length) : nth (xs ++ [y]) i = y := by subst h; simp [nth]
end Go.Proofs.YtkbaaikidhbfmaaGreat
/- A range over a function: the statement, its rounds, the iterator's word, the way out. No statement is proved here. -/
set_option linter.unusedVariables false
set_option linter.unusedSimpArgs false
namespace Go.Proofs.YtkbaaikidhbfmaaGreat
open Go.RowKit

/-- A call of a loop's yield. -/
def Yc (Yv : Value) (us : List Value) (w : World) (K : Value → World → Prop) : Prop :=
  ∃ l fn tmps asg body, Yv = .func (.yield l) #[] #[] ∧ (Instr.yield l us.toArray).run P w = .ok (.round l fn tmps asg body) w ∧ Rnd l fn tmps asg body w K
theorem Yc.mono {Yv : Value} {us : List Value} {w : World} {K K' : Value → World → Prop} (h : Yc Yv us w K) (hk : ∀ v w', K v w' → K' v w') : Yc Yv us w K' := by
  obtain ⟨l, fn, tmps, asg, body, e, hy, hr⟩ := h
  exact ⟨l, fn, tmps, asg, body, e, hy, hr.mono hk⟩
theorem Yc.v1 {Yv : Value} {us : List Value} {w : World} {K : Value → World → Prop} (h : Yc Yv us w K) : V1 Yv := by
  obtain ⟨l, fn, tmps, asg, body, rfl, hy, hr⟩ := h
  exact inferInstance
section
variable {ρ : Option Nat} {n : Nat} {D : List Deferred} {Q : Post} {full : List Oper} {b0 : World} {R : Rgs} {H : Hp} {fr : Slots} {K : Kt} {dst : Option Nat} {g : Option (Nat × Bool)} {ty : TypeId} {ps : String} {af : Array Edge}
theorem St_yield {x : Operand} {ar : List Operand} {us : List Value} {ts : Array TypeId} {w : World} {K : Value → World → Prop} {Yv : Value} (hf0 : ev fr x = some Yv) (hx : evs fr ar = some us)
    (hc : Yc Yv us w K) : St ⟨dst, .call ⟨.value x, ar.toArray, ts⟩, ty, ps, af, g⟩ fr w K := fun ρf hf => by
  obtain ⟨l, fn, tmps, asg, body, rfl, hy, hr⟩ := hc
  have e := evs_map hf hx
  have e0 := hf _ _ hf0
  have e1 : Array.map ρf ar.toArray = us.toArray := by rw [← e]; simp
  simp only [execOp, resolve, e0, Deferred.ofValue, e1]
  simp [invoke, hy, Result.andThen, Upon]
  exact hr
/-- One item is yielded; the caller's round turns what it turns. -/
theorem JO_yieldS {β : Type} {d : Nat} {x : Operand} {ar : List Operand} {us : List Value} {ts : Array TypeId} {Yv c : Value} {S : β → Prop} {R' : β → Rgs} {H' : β → Hp} (hd : Nat.blt d n = true) (hx : ev fr x = some Yv) (hy : evs fr ar = some us)
    (hc : ∀ w, SH b0 R H w → Yc Yv us w fun v w' => v = c ∧ ∃ s, S s ∧ (∀ r ∈ R, r ∈ R' s) ∧ SH b0 (R' s) (H' s) w')
    (h : ∀ s, S s → K (R' s) (H' s) ((d, c) :: fr)) : JO n full b0 R H ⟨some d, .call ⟨.value x, ar.toArray, ts⟩, ty, ps, af, none⟩ fr K :=
  JO.mk (by rw [Bool.and_eq_true]; exact ⟨hd, rfl⟩) fun w hw => by
    refine St_yield hx hy ((hc w hw).mono ?_)
    rintro v w' ⟨rfl, s, hs, hr, hw'⟩
    exact ⟨R' s, H' s, hw', hr, h s hs⟩
/-- A call of a function value whose word is about the heap as it is known. -/
theorem JO_callvS {β : Type} {d : Nat} {f : FuncId} {x : Operand} {ar : List Operand} {vs cap : List Value} {ts : Array TypeId} {c : Value} {S : β → Prop} {R' : β → Rgs} {H' : β → Hp} [hE : Ent f] (hd : Nat.blt d n = true)
    (hf0 : ev fr x = some (.func (.func f) #[] cap.toArray)) (hx : evs fr ar = some vs)
    (hc : ∀ w, SH b0 R H w → Rt f (vs ++ cap) w fun v w' => v = c ∧ ∃ s, S s ∧ (∀ r ∈ R, r ∈ R' s) ∧ SH b0 (R' s) (H' s) w')
    (h : ∀ s, S s → K (R' s) (H' s) ((d, c) :: fr)) : JO n full b0 R H ⟨some d, .call ⟨.value x, ar.toArray, ts⟩, ty, ps, af, none⟩ fr K :=
  JO.mk (by rw [Bool.and_eq_true]; exact ⟨hd, rfl⟩) fun w hw => by
    refine St_callv hf0 hx ((hc w hw).mono ?_)
    rintro v w' ⟨rfl, s, hs, hr, hw'⟩
    exact ⟨R' s, H' s, hw', hr, h s hs⟩
theorem Rt_ofS {f n : Nat} {fn : Func} {c : Code} {vs : List Value} {w : World} {S : Value → World → Prop} (hf : P.funcs[f]? = some fn) (hb : fn.body = some c) (hnt : fn.ntmps = n) (hn : Nat.ble vs.length n = true)
    (hw : SH b0 R H w) (h : GC none n [] (RetQ fn S) b0 R H c (argS 0 vs)) : Rt f vs w S := by
  refine callsIn_of_wp hf hb trivial ?_ rfl
  rw [hnt]
  exact h.use w hw _ (Rep_args hn)

/-! ### The way out of a function that holds such a loop -/
abbrev mark (dd : Nat) : Deferred := { target := .collected dd, args := #[] }
abbrev dOpen (dd : Nat) : Nat × Obj := (dd, .deferred (some []))
def RetM (fn : Func) (S : Value → World → Prop) : Post := bodyPostM (FW none) 0 P fn fun e w' => ∃ v, e = .returned v ∧ S v w'
theorem Rt_ofM {f n : Nat} {fn : Func} {c : Code} {vs : List Value} {w : World} {S : Value → World → Prop} (hf : P.funcs[f]? = some fn) (hb : fn.body = some c) (hnt : fn.ntmps = n) (hn : Nat.ble vs.length n = true)
    (h : GC none n [] (RetM fn S) w [((fun _ => True), w)] [] c (argS 0 vs)) : Rt f vs w S := by
  refine callsIn_of_wp_marks hf hb trivial ?_ rfl
  rw [hnt]
  exact h.use w (SH.start w) _ (Rep_args hn)
theorem GX_retM0 {fn : Func} {S : Value → World → Prop} (h : GX n [] (RetQ fn S) b0 R H .ret fr) : GX n [] (RetM fn S) b0 R H .ret fr :=
  GX.mk fun w hw A hA => (h.use w hw A hA).2
theorem SH.put {w : World} (hw : SH b0 R H w) {i b : Nat} {o o' : Obj} (hi : H[i]? = some (b, o)) : SH b0 R (setH H i o') (w.putObj b o') :=
  hw.upd hi rfl rfl rfl (by simp) (fun k _ hk => World.putObj_heap_other hk) (World.putObj_heap_same (hw.lt (List.mem_of_getElem? hi)))
theorem GX_retM1 {fn : Func} {S : Value → World → Prop} {dd : Nat} (i : Nat) (hi : H[i]? = some (dOpen dd)) (h : GX n [] (RetQ fn S) b0 R (setH H i (.deferred none)) .ret fr) : GX n [mark dd] (RetM fn S) b0 R H .ret fr :=
  GX.mk fun w hw A hA => by
    have hd := hw.own _ (List.mem_of_getElem? hi)
    have h1 := hw.put (o' := .deferred none) hi
    exact ⟨by simp, .inl ⟨dd, _, rfl, run_takeDeferred hd, (h.use _ h1 A hA).2⟩⟩

/-! ### The rounds -/
/-- What is asked of a round's body. -/
def RdP (l : Nat) (K : World → Prop) : Post := roundPost P l fun e w' => ∃ v, e = .returned v ∧ (v = .bool true ∧ K w')
def BgP (l : Nat) (body : Code) (K : World → Prop) : Post := Exit.then (fun a w => ∃ w₂, (Instr.beginRound l).run P w = .ok () w₂ ∧ body.wpIn (FW (some l)) 0 P (RdP l K) a w₂) (fun _ _ _ => False)
theorem GX_begin {l : Nat} {r : Loop} {body : Code} {K : World → Prop} {H' : Hp} (hr : r.state = .ready) (hp : ∀ w, SH b0 R H w → SH b0 R ((l, .loop r) :: H') w)
    (h : GC (some l) n [] (RdP l K) b0 R ((l, .loop { r with state := .busy }) :: H') body fr) : GX n [] (BgP l body K) b0 R H .normal fr :=
  GX.mk fun w hw A hA => by
    have hw' := hp w hw
    have hl := hw'.own (l, .loop r) (.head _)
    exact ⟨_, run_beginRound hl hr, h.use _ (hw'.put (i := 0) (o' := .loop { r with state := .busy }) rfl) A hA⟩
/-- A round comes to its end. -/
theorem GX_round {l : Nat} {r : Loop} {K : World → Prop} {R' : Rgs} {H' : Hp} (hr : r.state = .ready) (hpe : r.pending = none) (hp : ∀ w, SH b0 R H w → SH b0 R' ((l, .loop { r with state := .busy }) :: H') w)
    (h : ∀ w, SH b0 R' ((l, .loop r) :: H') w → K w) : GX n [] (RdP l K) b0 R H .normal fr :=
  GX.mk fun w hw A hA => by
    have hw' := hp w hw
    have hl := hw'.own (l, .loop { r with state := .busy }) (.head _)
    have e := run_endRound (P := P) none hl
    obtain ⟨st, pe, fn, tm, pa, as_, bo, de⟩ := r
    simp only at hpe hr; subst hpe; subst hr
    exact ⟨_, _, e, _, rfl, rfl, h _ (hw'.put (i := 0) rfl)⟩

/-- What an iterator does: it yields xs, one after the other; Ar: how an item is handed over. -/
def Iter (gf : FuncId) (cap : List Value) {X : Type} (Ar : X → List Value → Hp → Prop) (xs : List X) (b0 : World) (Rb : Rgs) : Prop :=
  ∀ (Yv : Value) (α : Type) (Rf : α → Rgs) (Hf : α → Hp) (I : List X → α → Prop) (a0 : α), V1 Yv → (∀ a, ∀ r ∈ Rb, r ∈ Rf a) →
    (∀ pre x a us Hi, I pre a → (∃ post, xs = pre ++ x :: post) → Ar x us Hi → ∀ w, SH b0 (Rf a) (Hf a ++ Hi) w →
      Yc Yv us w fun v w' => v = .bool true ∧ ∃ a', I (pre ++ [x]) a' ∧ (∀ r ∈ Rf a, r ∈ Rf a') ∧ SH b0 (Rf a') (Hf a' ++ Hi) w') →
    I [] a0 → ∀ w, SH b0 (Rf a0) (Hf a0) w → Rt gf (Yv :: cap) w fun v w' => ∃ a', I xs a' ∧ SH b0 (Rf a') (Hf a') w'
/-- The parameters of a round. -/
def putPs : List Tmp → List Value → Slots → Slots
  | p :: ps, u :: us, fr => putPs ps us ((p, u) :: fr)
  | _, _, fr => fr
theorem Rep.putPs {n : Nat} : ∀ {ps : List Tmp} {us : List Value} {fr : Slots} {A : Array Value}, (ps.all fun p => Nat.blt p n) = true → Rep n fr A →
    Rep n (putPs ps us fr) ((ps.zip us).foldl (fun t (x : Tmp × Value) => t.setIfInBounds x.1 x.2) A)
  | [], us, fr, A, _, h => by simpa [Go.Proofs.YtkbaaikidhbfmaaGreat.putPs] using h
  | p :: ps, [], fr, A, _, h => by simpa [Go.Proofs.YtkbaaikidhbfmaaGreat.putPs] using h
  | p :: ps, u :: us, fr, A, hp, h => by
    simp only [List.all_cons, Bool.and_eq_true] at hp
    have := Rep.putPs (ps := ps) (us := us) hp.2 (h.put u hp.1)
    simpa [Go.Proofs.YtkbaaikidhbfmaaGreat.putPs] using this
theorem GC_range {X α : Type} {x : Operand} {prs : List Tmp} {asg body : Code} {gf : FuncId} {cap : List Value} {Ar : X → List Value → Hp → Prop} {xs : List X} {Rb : Rgs} [hE : Ent gf] (hg : ev fr x = some (.func (.func gf) #[] cap.toArray))
    (hit : Iter gf cap Ar xs b0 Rb) (Rf : α → Rgs) (Hf : α → Hp) (I : List X → α → Prop) (a0 : α) (hps : (prs.all fun p => Nat.blt p n) = true) (hsub : ∀ a, ∀ r ∈ Rb, r ∈ Rf a) (h0 : I [] a0) (hin : ∀ w, SH b0 R H w → SH b0 (Rf a0) (Hf a0) w)
    (hus : ∀ x us Hi, Ar x us Hi → us.length = prs.length)
    (hbody : ∀ l dd r pre x a us Hi, r.state = .ready → r.pending = none → I pre a → (∃ post, xs = pre ++ x :: post) → Ar x us Hi →
      GC (some l) n [] (BgP l body fun w' => ∃ a', I (pre ++ [x]) a' ∧ (∀ r ∈ Rf a, r ∈ Rf a') ∧ SH b0 (Rf a') ((l, .loop r) :: dOpen dd :: (Hf a' ++ Hi)) w') b0 (Rf a) ((l, .loop r) :: dOpen dd :: (Hf a ++ Hi)) asg (putPs prs us fr))
    (hdone : ∀ dd a', I xs a' → GX n (mark dd :: D) Q b0 (Rf a') (dOpen dd :: Hf a') .normal fr) :
    GC none n D Q b0 R H (.rangeFunc x prs.toArray asg body) fr := GC.mk fun w hw A hA => by
  refine wpIn_rangeFunc ?_
  intro fn hfn
  obtain ⟨rec, hrec⟩ : ∃ rec : Loop, rec = { state := .ready, pending := none, fn, tmps := A, params := prs.toArray, assign := asg, body, defers := w.heap.size } := ⟨_, rfl⟩
  have hw0 := hin w hw
  have hw1 := (hw0.new (.deferred (some []))).new (.loop rec)
  have hsz : ({ w with heap := w.heap.push (.deferred (some [])) } : World).heap.size = w.heap.size + 1 := by simp
  rw [hsz] at hw1
  have hgA : (({ tmps := A, defers := D } : Act).eval x) = .func (.func gf) #[] cap.toArray := hA.ev hg
  refine ⟨w.heap.size + 1, [mark w.heap.size], (w.alloc (.deferred (some []))).alloc (.loop rec), { target := .fn (.func gf) cap.toArray, args := #[.func (.yield (w.heap.size + 1)) #[] #[]] }, (w.alloc (.deferred (some []))).alloc (.loop rec), gf,
    #[.func (.yield (w.heap.size + 1)) #[] #[]] ++ cap.toArray, (w.alloc (.deferred (some []))).alloc (.loop rec), ?_, ?_, fun _ _ => trivial, ?_, FW_depth none, ?_⟩
  · rw [hrec]; exact run_enterLoop_outer _ _ _ _ _
  · simp only [resolve, hgA]
    simp [go_sem]
  · simp [invoke, go_sem, hE.h]
  · have hc := hit (.func (.yield (w.heap.size + 1)) #[] #[]) α Rf (fun a => (w.heap.size + 1, .loop rec) :: dOpen w.heap.size :: Hf a) I a0 inferInstance hsub ?_ h0 _ hw1
    · have e1 : (Value.func (.yield (w.heap.size + 1)) #[] #[] :: cap).toArray = #[.func (.yield (w.heap.size + 1)) #[] #[]] ++ cap.toArray := by simp
      unfold Rt at hc
      rw [e1] at hc
      refine CallsIn.mono hc ?_
      rintro e w' ⟨v, rfl, a', hI, hw'⟩
      have hl := hw'.own (w.heap.size + 1, .loop rec) (.head _)
      refine ⟨none, _, by have := run_endLoop (P := P) hl (by rw [hrec]; simp); rw [this, hrec], ?_⟩
      exact (hdone w.heap.size a' hI).use _ ((hw'.put (i := 0) rfl).weak (fun r h => h) (List.Sublist.cons _ (List.Sublist.refl _))) A hA
    · intro pre y a us Hi hI hpost hAr W hW
      have hl := hW.own (w.heap.size + 1, .loop rec) (.head _)
      have hy := run_yield (P := P) (args := us.toArray) hl (by rw [hrec]; simpa using hus y us Hi hAr)
      rw [hrec] at hy
      refine ⟨_, _, _, _, _, rfl, hy, ?_⟩
      have hb := hbody (w.heap.size + 1) w.heap.size rec pre y a us Hi (by rw [hrec]) (by rw [hrec]) hI hpost hAr
      refine roundIn_of_wpIn trivial ?_
      have hz : (prs.toArray.zip us.toArray).foldl (fun tmps (x : Tmp × Value) => tmps.setIfInBounds x.1 x.2) A = (prs.zip us).foldl (fun t (x : Tmp × Value) => t.setIfInBounds x.1 x.2) A := by
        rw [List.zip_toArray, List.foldl_toArray]
      have := hb.use W hW _ (Rep.putPs (us := us) hps hA)
      rw [← hz] at this
      exact this
end
end Go.Proofs.YtkbaaikidhbfmaaGreat
/- Operations on arrays, maps, and parts of slices. No statement is proved here. -/
set_option linter.unusedVariables false
set_option linter.unusedSimpArgs false
namespace Go.Proofs.YtkbaaikidhbfmaaGreat
open Go.RowKit
/-- The cells of an array of n ints: the list, then zeros. -/
def encA (n : Nat) (x : List Int) : List Value := (List.range n).map fun i => .int .i64 (nth x i)
theorem encA_len (n : Nat) (x : List Int) : (encA n x).length = n := by simp [encA]
theorem encA_at {n i : Nat} {x : List Int} (h : i < n) : (encA n x)[i]? = some (.int .i64 (nth x i)) := by simp [encA, h]
theorem encA_one (n : Nat) (x : List Int) : (encA n x).all oneCell = true := by simp [encA, oneCell]
instance {n : Nat} {x : List Int} : VA (encA n x) := ⟨encA_one n x⟩
theorem nth_set {x : List Int} {i j : Nat} {v : Int} (h : i < x.length) : nth (x.set i v) j = if j = i then v else nth x j := by
  simp only [nth, List.getD_eq_getElem?_getD, List.getElem?_set]
  by_cases e : i = j
  · subst e; simp [h]
  · simp [e, show ¬ j = i from fun h => e h.symm]
theorem encA_set {n i : Nat} {x : List Int} {v : Int} (h : i < x.length) : (encA n x).set i (.int .i64 v) = encA n (x.set i v) := by
  refine List.ext_getElem (by simp [encA]) fun j h1 h2 => ?_
  simp only [encA, List.getElem_set, List.getElem_map, List.getElem_range, nth_set h]
  by_cases e : i = j
  · simp [e]
  · simp [e, show ¬ j = i from fun h => e h.symm]
theorem encA_ext {n : Nat} {x y : List Int} (h : ∀ i, i < n → nth x i = nth y i) : encA n x = encA n y := by
  simp only [encA, List.map_inj_left, List.mem_range]
  intro i hi; rw [h i hi]
section
variable {n d : Nat} {D : List Deferred} {Q : Post} {full : List Oper} {b0 : World} {R : Rgs} {H : Hp} {fr : Slots} {K : Kt} {dst : Option Nat} {g : Option (Nat × Bool)} {ty : TypeId} {ps : String} {af : Array Edge} {G : Nat → Prop} {w1 : World} {v u : Value} {w : World}
theorem Ob_indexa {t len e b : Nat} {x y : Operand} {k : IntKind} {i : Nat} [h : TyArr t len e 1] (hx : ev fr x = some (.pointer (some ⟨b, 0, none⟩))) (hy : ev fr y = some (.int k (i : Int))) (hi : i < len) :
    Ob b0 R H ⟨dst, .indexAddr t x y, ty, ps, af, g⟩ fr (.pointer (some ⟨b, oo (ix 1 i) 0, none⟩)) := .pure fun w f hf => by
  simp only [execOp, hf x _ hx, hf y _ hy]
  have h3 : 0 ≤ (i : Int) ∧ (i : Int) < (len : Int) := by omega
  simp [Instr.indexAt, Instr.sureAddr, asIntOf, run_underlying h.h, h.s, h3, hi, Result.andThen, add_none, oo, ix]
theorem Ob_load_a {t b i m : Nat} {x : Operand} {xs : List Int} {T : TypeId} {fz : Nat × Nat} [TyOne t] (hx : ev fr x = some (.pointer (some ⟨b, oo (ix 1 i) 0, none⟩))) (hH : (b, Obj.cells (encA m xs).toArray T fz) ∈ H) (hi : i < m) :
    Ob b0 R H ⟨dst, .load t x, ty, ps, af, g⟩ fr (.int .i64 (nth xs i)) :=
  Ob_load hx fun w hw => .one (by rw [cell_blk (hw.own _ hH)]; simp only [oo, ix, Nat.mul_one, Nat.add_zero]; exact encA_at hi)
theorem JO_store_a {t : Nat} {x y : Operand} {b i j m : Nat} {a : Int} {xs : List Int} {T : TypeId} [hsz : TySz t 1] (hx : ev fr x = some (.pointer (some ⟨b, oo (ix 1 i) 0, none⟩))) (hy : ev fr y = some (.int .i64 a)) (hj : H[j]? = some (b, .cells (encA m xs).toArray T))
    (hi : i < m) (hl : i < xs.length) (h : K R (setH H j (.cells (encA m (xs.set i a)).toArray T)) fr) : JO n full b0 R H ⟨none, .store t x y, ty, ps, af, none⟩ fr K := by
  refine JO_store (m := 1) (vs := [.int .i64 a]) (cs := encA m xs) hx hy hj inferInstance rfl ?_ ?_ h
  · simp only [oo, ix, Nat.mul_one, Nat.add_zero, encA_len]; exact Nat.ble_eq_true_of_le (by omega)
  · simp only [splice, oo, ix, Nat.mul_one, Nat.add_zero]; exact encA_set hl
/-- A whole array out of a slice of arrays. -/
theorem Ob_load_A {t i m sz k : Nat} {x : Operand} {xs : List (List Int)} [TyAgg t sz] (hx : ev fr x = some (.pointer (some ⟨vb v, oo (vo v + k) 0, none⟩))) (hA : Arr G w1 sz (encA sz) v xs) (hr : (G, w1) ∈ R) (hk : k = ix sz i) (hi : i < xs.length) :
    Ob b0 R H ⟨dst, .load t x, ty, ps, af, g⟩ fr (.agg (encA sz (nth xs i)).toArray) :=
  Ob_loads_arr hx hA hr hk (nth_some hi) (by omega) (by rw [List.drop_zero, List.take_of_length_le (by rw [encA_len]; exact Nat.le_refl _)]) (encA_len _ _)

/-! ### Maps -/
theorem run_getMap {r : Nat} {es : Array MapEntry} {clk : Nat} (h : w.heap[r]? = some (.map es clk)) : (getObj r).run P w = .ok (.map es clk) w := by simp [getObj, Sem.run, h]
theorem run_setMap {r : Nat} {es : Array MapEntry} {clk : Nat} (o : Obj) (h : w.heap[r]? = some (.map es clk)) : (setObj r o).run P w = .ok () (w.putObj r o) := by simp [setObj, Sem.run, h, World.putObj]
abbrev kA (m : Nat) (k : List Int) : Value := .agg (encA m k).toArray
/-- A type of keys: m ints. -/
class TyKey (t m : Nat) : Prop where
  fk : ∀ (x : Value) (es : List MapEntry) (w : World), (Instr.findKey t x es).run P w = (Instr.findAsking t x es).run P w
  ck : ∀ (em : Bool) (k : List Int) (w : World), (Instr.checkKey em 10000 t (kA m k)).run P w = .ok () w
  eq : ∀ (k l : List Int) (w : World), k.length = m → l.length = m → (Op.equal t (kA m k) (kA m l)).run P w = .ok (decide (k = l)) w
def entL (m : Nat) (D : List (List Int × Value × Nat)) : List MapEntry := D.map fun p => ⟨kA m p.1, p.2.1, p.2.2⟩
def fnd (k : List Int) : List (List Int × Value × Nat) → Nat → Option (Nat × Value)
  | [], _ => none
  | p :: D, i => if p.1 = k then some (i, p.2.1) else fnd k D (i + 1)
def updL (k : List Int) (v : Value) : List (List Int × Value × Nat) → List (List Int × Value × Nat)
  | [] => []
  | p :: D => if p.1 = k then (k, v, p.2.2) :: D else p :: updL k v D
theorem run_findA {t m : Nat} [h : TyKey t m] {k : List Int} (hk : k.length = m) : ∀ (D : List (List Int × Value × Nat)) (i : Nat), (∀ p ∈ D, p.1.length = m) → (Instr.findAsking t (kA m k) (entL m D) i).run P w = .ok (fnd k D i) w
  | [], i, _ => rfl
  | p :: D, i, hD => by
    have h1 := h.eq k p.1 w hk (hD p (List.mem_cons_self ..))
    have h2 := run_findA (h := h) hk D (i + 1) fun q hq => hD q (List.mem_cons_of_mem _ hq)
    simp only [entL, List.map_cons, Instr.findAsking, Sem.run_bind, h1, Result.andThen, fnd]
    by_cases e : p.1 = k
    · simp [e]
    · have e' : ¬ k = p.1 := fun h => e h.symm
      simp only [e, e', decide_false, Bool.false_eq_true, if_false]
      exact h2
theorem run_findK {t m : Nat} [h : TyKey t m] {k : List Int} (hk : k.length = m) (D : List (List Int × Value × Nat)) (hD : ∀ p ∈ D, p.1.length = m) : (Instr.findKey t (kA m k) (entL m D)).run P w = .ok (fnd k D 0) w := by
  rw [h.fk]; exact run_findA hk D 0 hD
theorem fnd_at {k : List Int} : ∀ {D : List (List Int × Value × Nat)} {i j : Nat} {v : Value}, fnd k D i = some (j, v) → ∃ q b, j = i + q ∧ D[q]? = some (k, v, b)
  | [], _, _, _, h => by simp [fnd] at h
  | p :: D, i, j, v, h => by
    simp only [fnd] at h
    split at h
    · rename_i e; cases h; exact ⟨0, p.2.2, rfl, by simp [← e]⟩
    · obtain ⟨q, b, h1, h2⟩ := fnd_at h
      exact ⟨q + 1, b, by omega, by simpa using h2⟩
theorem fnd_mod {m : Nat} {k : List Int} {v' : Value} : ∀ {D : List (List Int × Value × Nat)} {i q : Nat} {v : Value}, fnd k D i = some (i + q, v) → (entL m D).modify q (fun e => { e with key := kA m k, val := v' }) = entL m (updL k v' D)
  | [], _, _, _, h => by simp [fnd] at h
  | p :: D, i, q, v, h => by
    simp only [fnd] at h
    split at h
    · rename_i e
      have : q = 0 := by simp at h; omega
      subst this
      simp [entL, updL, e]
    · rename_i e
      obtain ⟨q', b, h1, h2⟩ := fnd_at h
      obtain ⟨q, rfl⟩ : ∃ z, q = z + 1 := ⟨q - 1, by omega⟩
      have := fnd_mod (m := m) (v' := v') (i := i + 1) (q := q) (v := v) (D := D) (by rw [h]; congr 2; omega)
      simp only [entL, List.map_cons, updL, e, if_false, List.modify_succ_cons] at this ⊢
      rw [this]
theorem sameBits_ints (j : Nat) (xs : List Int) : Instr.sameBits (j + 1) (.agg (xs.map fun x => Value.int .i64 x).toArray) (.agg (xs.map fun x => Value.int .i64 x).toArray) = true := by
  simp only [Instr.sameBits, beq_self_eq_true, Bool.true_and]
  induction xs with
  | nil => rfl
  | cons x xs ih =>
    simp only [List.map_cons, List.zip_cons_cons, List.all_cons, ih, Bool.and_true]
    cases j <;> simp [Instr.sameBits]
theorem sameBits_kA (m : Nat) (k : List Int) : Instr.sameBits 10000 (kA m k) (kA m k) = true := by
  have := sameBits_ints 9999 ((List.range m).map fun i => nth k i)
  simpa [kA, encA, Function.comp_def] using this
theorem run_stays (m : Nat) (k : List Int) : (Instr.keyThatStays (kA m k) (kA m k)).run P w = .ok (kA m k) w := by
  simp [Instr.keyThatStays, sameBits_kA]
/-- A map in memory: what each key has. -/
def MapF (m : Nat) (f : List Int → Option Value) (o : Obj) : Prop :=
  ∃ D clk, o = .map (entL m D).toArray clk ∧ (∀ p ∈ D, p.1.length = m) ∧ ∀ k, k.length = m → f k = (fnd k D 0).map (·.2)
theorem MapF.empty (m : Nat) : MapF m (fun _ => none) (.map #[] 0) := ⟨[], 0, rfl, (fun _ h => by cases h), fun _ _ => rfl⟩
theorem fnd_shift (k : List Int) : ∀ (D : List (List Int × Value × Nat)) (i j : Nat), (fnd k D i).map (·.2) = (fnd k D j).map (·.2)
  | [], _, _ => rfl
  | p :: D, i, j => by
    simp only [fnd]; split
    · rfl
    · exact fnd_shift k D _ _
theorem fnd_upd (k k' : List Int) (v : Value) : ∀ (D : List (List Int × Value × Nat)) (i : Nat), (fnd k D i).isSome → (fnd k' (updL k v D) i).map (·.2) = if k' = k then some v else (fnd k' D i).map (·.2)
  | [], _, h => by simp [fnd] at h
  | p :: D, i, h => by
    simp only [fnd, updL] at h ⊢
    by_cases e : p.1 = k
    · simp only [e, if_true, fnd]
      by_cases e2 : k' = k
      · subst e2; simp
      · have : ¬ k = k' := fun h => e2 h.symm
        simp [this, e2]
    · simp only [e, if_false] at h ⊢
      simp only [fnd]
      by_cases e2 : p.1 = k'
      · have : ¬ k' = k := fun h => e (e2.trans h)
        simp [e2, this]
      · simp only [e2, if_false]
        exact fnd_upd k k' v D (i + 1) h
theorem updL_len (m : Nat) (k : List Int) (v : Value) (hk : k.length = m) : ∀ (D : List (List Int × Value × Nat)), (∀ p ∈ D, p.1.length = m) → ∀ p ∈ updL k v D, p.1.length = m
  | [], h, p, hp => by simp [updL] at hp
  | q :: D, h, p, hp => by
    simp only [updL] at hp
    split at hp
    · rcases List.mem_cons.1 hp with rfl | hp
      · exact hk
      · exact h p (List.mem_cons_of_mem _ hp)
    · rcases List.mem_cons.1 hp with rfl | hp
      · exact h _ (List.mem_cons_self ..)
      · exact updL_len m k v hk D (fun p hp => h p (List.mem_cons_of_mem _ hp)) p hp
theorem fnd_push (k k' : List Int) (v : Value) (b : Nat) : ∀ (D : List (List Int × Value × Nat)) (i : Nat), fnd k D i = none → (fnd k' (D ++ [(k, v, b)]) i).map (·.2) = if k' = k then some v else (fnd k' D i).map (·.2)
  | [], _, h => by
    simp only [List.nil_append, fnd]
    by_cases e : k' = k
    · subst e; simp
    · have : ¬ k = k' := fun h => e h.symm
      simp [e, this]
  | p :: D, i, h => by
    simp only [fnd] at h
    split at h
    · cases h
    · rename_i e
      simp only [List.cons_append, fnd]
      by_cases e2 : p.1 = k'
      · have : ¬ k' = k := fun h => e (e2.trans h)
        simp [e2, this]
      · simp only [e2, if_false]
        exact fnd_push k k' v b D (i + 1) h
theorem run_lookup {t kt et r m : Nat} {z : Value} {k : List Int} {f : List Int → Option Value} {o : Obj} (c : Bool) [h : TyMap t kt et] [hK : TyKey kt m] [hz : TyZ et z] (ho : w.heap[r]? = some o) (hm : MapF m f o) (hk : k.length = m) :
    (Instr.lookup t (.map (some r)) (kA m k) c).run P w = .ok (if c then .tuple #[(f k).getD z, .bool (f k).isSome] else (f k).getD z) w := by
  obtain ⟨D, clk, rfl, hD, hf⟩ := hm
  have h1 := run_findK (w := w) (h := hK) hk D hD
  have h2 := hf k hk
  simp only [Instr.lookup, Sem.run_bind, run_underlying h.h, Result.andThen, run_getMap ho, Sem.run_pure, hK.ck, h1]
  cases hq : fnd k D 0 with
  | none => rw [hq] at h2; simp only [Option.map_none] at h2; rw [h2]; simp [hz.h, Result.andThen]
  | some p => obtain ⟨j, v⟩ := p; rw [hq] at h2; simp only [Option.map_some] at h2; rw [h2]; simp
theorem Ob_lookup {t kt et r m : Nat} {x y : Operand} {z : Value} {k : List Int} {f : List Int → Option Value} {o : Obj} [h : TyMap t kt et] [hK : TyKey kt m] [hz : TyZ et z] (hx : ev fr x = some (.map (some r))) (hy : ev fr y = some (kA m k)) (ho : (r, o) ∈ H) (hm : MapF m f o) (hk : k.length = m) :
    Ob b0 R H ⟨dst, .lookup t x y false, ty, ps, af, g⟩ fr ((f k).getD z) := .val fun w hw φ hf => by
  simp [execOp, hf x _ hx, hf y _ hy, run_lookup (h := h) (hK := hK) (hz := hz) false (hw.own _ ho) hm hk, Result.andThen]
theorem Ob_lookup2 {t kt et r m : Nat} {x y : Operand} {z : Value} {k : List Int} {f : List Int → Option Value} {o : Obj} [h : TyMap t kt et] [hK : TyKey kt m] [hz : TyZ et z] (hx : ev fr x = some (.map (some r))) (hy : ev fr y = some (kA m k)) (ho : (r, o) ∈ H) (hm : MapF m f o) (hk : k.length = m) :
    Ob b0 R H ⟨dst, .lookup t x y true, ty, ps, af, g⟩ fr (.tuple #[(f k).getD z, .bool (f k).isSome]) := .val fun w hw φ hf => by
  simp [execOp, hf x _ hx, hf y _ hy, run_lookup (h := h) (hK := hK) (hz := hz) true (hw.own _ ho) hm hk, Result.andThen]
theorem JO_makeMap {t : Nat} (hd : Nat.blt d n = true) (h : ∀ r, K R ((r, .map #[] 0) :: H) ((d, .map (some r)) :: fr)) : JO n full b0 R H ⟨some d, .makeMap t none, ty, ps, af, none⟩ fr K :=
  JO.mk (by rw [Bool.and_eq_true]; exact ⟨hd, rfl⟩) fun w hw => by
    intro f hf
    have e1 : (execOp f { dst := some d, op := Op.makeMap t none, type := ty, pos := ps, after := af, guard := none }).run P w = .ok (.value (.map (some w.heap.size))) { w with heap := w.heap.push (.map #[] 0) } := by
      simp [execOp, Instr.makeMap, newObj, Sem.run, Result.andThen]
    rw [e1]
    exact ⟨R, _, hw.new _, fun r h => h, h w.heap.size⟩
theorem run_update {t kt et r m : Nat} {k : List Int} {f : List Int → Option Value} {o : Obj} (v : Value) [h : TyMap t kt et] [hK : TyKey kt m] (ho : w.heap[r]? = some o) (hm : MapF m f o) (hk : k.length = m) :
    ∃ o', (Instr.mapUpdate t (.map (some r)) (kA m k) v).run P w = .ok () (w.putObj r o') ∧ MapF m (fun k' => if k' = k then some v else f k') o' := by
  obtain ⟨D, clk, rfl, hD, hf⟩ := hm
  have h1 := run_findK (w := w) (h := hK) hk D hD
  cases hq : fnd k D 0 with
  | none =>
    refine ⟨.map ((entL m D).toArray.push ⟨kA m k, v, clk⟩) (clk + 1), ?_, D ++ [(k, v, clk)], clk + 1, ?_, ?_, ?_⟩
    · simp only [Instr.mapUpdate, Sem.run_bind, run_underlying h.h, Result.andThen, run_getMap ho, Sem.run_pure, hK.ck, h1, hq]
      exact run_setMap _ ho
    · simp [entL]
    · intro p hp
      rcases List.mem_append.1 hp with hp | hp
      · exact hD p hp
      · simp at hp; rw [hp]; exact hk
    · intro k' hk'
      simp only []
      rw [fnd_push k k' v clk D 0 hq, hf k' hk']
  | some p =>
    obtain ⟨j, v0⟩ := p
    obtain ⟨q, b, e1, e2⟩ := fnd_at hq
    rw [Nat.zero_add] at e1; subst e1
    have hmod := fnd_mod (m := m) (v' := v) (i := 0) (q := j) (D := D) (by rw [Nat.zero_add]; exact hq)
    refine ⟨.map (entL m (updL k v D)).toArray clk, ?_, updL k v D, clk, rfl, updL_len m k v hk D hD, ?_⟩
    · have e3 : ((entL m D).toArray[j]?.map (·.key)).getD (kA m k) = kA m k := by simp [entL, e2]
      simp only [Instr.mapUpdate, Sem.run_bind, run_underlying h.h, Result.andThen, run_getMap ho, Sem.run_pure, hK.ck, h1, hq, e3, run_stays]
      have := run_setMap (.map (entL m (updL k v D)).toArray clk) ho
      rw [← this, ← hmod]
      simp
    · intro k' hk'
      simp only []
      rw [fnd_upd k k' v D 0 (by rw [hq]; rfl), hf k' hk']
theorem JO_mapUpdate {t kt et r m j : Nat} {x y z : Operand} {k : List Int} {f : List Int → Option Value} {o : Obj} {v : Value} [h : TyMap t kt et] [hK : TyKey kt m] (hx : ev fr x = some (.map (some r))) (hy : ev fr y = some (kA m k)) (hz : ev fr z = some v) (hj : H[j]? = some (r, o)) (hm : MapF m f o) (hk : k.length = m)
    (hc : ∀ o', MapF m (fun k' => if k' = k then some v else f k') o' → K R (setH H j o') fr) : JO n full b0 R H ⟨none, .mapUpdate t x y z, ty, ps, af, none⟩ fr K :=
  JO.mk rfl fun w hw => by
    have ho := hw.own _ (List.mem_of_getElem? hj)
    obtain ⟨o', h1, h2⟩ := run_update (w := w) (h := h) (hK := hK) v ho hm hk
    intro φ hf
    have e1 : (execOp φ { dst := none, op := Op.mapUpdate t x y z, type := ty, pos := ps, after := af, guard := none }).run P w = .ok .skip (w.putObj r o') := by
      simp [execOp, hf x _ hx, hf y _ hy, hf z _ hz, h1, Result.andThen]
    rw [e1]
    exact ⟨R, _, hw.put hj, fun r h => h, hc o' h2⟩

/-! ### A map that nobody asks -/
/-- A map whose keys are m ints, and whose values are ints. -/
def MapW (m : Nat) (o : Obj) : Prop := ∃ D clk, o = .map (entL m D).toArray clk ∧ (∀ p ∈ D, p.1.length = m) ∧ ∀ p ∈ D, ∃ z, p.2.1 = .int .i64 z
def HasB (o : Obj) (s : Int) : Prop := ∃ es clk e, o = .map es clk ∧ e ∈ es.toList ∧ (e.born : Int) = s
theorem MapW.empty (m : Nat) : MapW m (.map #[] 0) := ⟨[], 0, rfl, (fun _ h => by cases h), fun _ h => by cases h⟩
theorem JO_lookupW {t kt et r m : Nat} {x y : Operand} {k : List Int} {o : Obj} [h : TyMap t kt et] [hK : TyKey kt m] [hz : TyZ et (.int .i64 0)] (hd : Nat.blt d n = true) (hx : ev fr x = some (.map (some r))) (hy : ev fr y = some (kA m k)) (ho : (r, o) ∈ H) (hm : MapW m o) (hk : k.length = m)
    (hc : ∀ z, K R H ((d, .int .i64 z) :: fr)) : JO n full b0 R H ⟨some d, .lookup t x y false, ty, ps, af, none⟩ fr K :=
  JO.mk (by rw [Bool.and_eq_true]; exact ⟨hd, rfl⟩) fun w hw => by
    obtain ⟨D, clk, rfl, hD, hv⟩ := hm
    have h1 := run_lookup (w := w) (h := h) (hK := hK) (hz := hz) (k := k) (f := fun k => (fnd k D 0).map (·.2)) false (hw.own _ ho) ⟨D, clk, rfl, hD, fun _ _ => rfl⟩ hk
    obtain ⟨z, hz'⟩ : ∃ z, (((fnd k D 0).map (·.2)).getD (.int .i64 0)) = .int .i64 z := by
      cases hq : fnd k D 0 with
      | none => exact ⟨0, rfl⟩
      | some p =>
        obtain ⟨q, b, _, e2⟩ := fnd_at (j := p.1) (v := p.2) (by rw [hq])
        obtain ⟨z, e⟩ := hv _ (List.mem_of_getElem? e2)
        exact ⟨z, e⟩
    intro φ hf
    have e1 : (execOp φ { dst := some d, op := Op.lookup t x y false, type := ty, pos := ps, after := af, guard := none }).run P w = .ok (.value (.int .i64 z)) w := by
      simp only [Bool.false_eq_true, if_false] at h1
      rw [hz'] at h1
      simp [execOp, hf x _ hx, hf y _ hy, h1, Result.andThen]
    rw [e1]
    exact ⟨R, H, hw, fun r h => h, hc z⟩
theorem JO_mapEntryW {t kt et r m j : Nat} {x y : Operand} {k : List Int} {o : Obj} [h : TyMap t kt et] [hK : TyKey kt m] [hz : TyZ et (.int .i64 0)] (hd : Nat.blt d n = true) (hx : ev fr x = some (.map (some r))) (hy : ev fr y = some (kA m k)) (hj : H[j]? = some (r, o)) (hm : MapW m o) (hk : k.length = m)
    (hc : ∀ o' z s, MapW m o' → HasB o' s → K R (setH H j o') ((d, .tuple #[.int .i64 z, .int .i64 s]) :: fr)) : JO n full b0 R H ⟨some d, .mapEntry t x y, ty, ps, af, none⟩ fr K :=
  JO.mk (by rw [Bool.and_eq_true]; exact ⟨hd, rfl⟩) fun w hw => by
    have ho := hw.own _ (List.mem_of_getElem? hj)
    obtain ⟨D, clk, rfl, hD, hv⟩ := hm
    have h1 := run_findK (w := w) (h := hK) hk D hD
    cases hq : fnd k D 0 with
    | none =>
      intro φ hf
      have e1 : (execOp φ { dst := some d, op := Op.mapEntry t x y, type := ty, pos := ps, after := af, guard := none }).run P w = .ok (.value (.tuple #[.int .i64 0, .int .i64 (clk : Int)])) (w.putObj r (.map ((entL m D).toArray.push ⟨kA m k, .int .i64 0, clk⟩) (clk + 1))) := by
        simp only [execOp, hf x _ hx, hf y _ hy, Instr.mapEntry, Sem.run_bind, run_underlying h.h, Result.andThen, run_getMap ho, Sem.run_pure, hK.ck, h1, hq, hz.h, run_setMap _ ho]
        rfl
      rw [e1]
      refine ⟨R, _, hw.put hj, fun r h => h, hc _ 0 clk ?_ ?_⟩
      · refine ⟨D ++ [(k, .int .i64 0, clk)], clk + 1, by simp [entL], fun p hp => ?_, fun p hp => ?_⟩
        · rcases List.mem_append.1 hp with hp | hp
          · exact hD p hp
          · simp at hp; rw [hp]; exact hk
        · rcases List.mem_append.1 hp with hp | hp
          · exact hv p hp
          · simp at hp; rw [hp]; exact ⟨0, rfl⟩
      · exact ⟨_, _, ⟨kA m k, .int .i64 0, clk⟩, rfl, by simp, rfl⟩
    | some p =>
      obtain ⟨j', v0⟩ := p
      obtain ⟨q, b, e1, e2⟩ := fnd_at hq
      rw [Nat.zero_add] at e1; subst e1
      obtain ⟨z, hz'⟩ := hv _ (List.mem_of_getElem? e2)
      simp only at hz'
      have hmod : (entL m D).modify j' (fun e => { e with key := kA m k }) = entL m D := by
        refine List.ext_getElem? fun i => ?_
        rw [List.getElem?_modify]
        by_cases e : j' = i
        · subst e; simp [entL, e2]
        · simp [e]
      have e3 : ((entL m D).toArray[j']?.map (·.key)).getD (kA m k) = kA m k := by simp [entL, e2]
      have e4 : ((entL m D).toArray[j']?.map (·.born)).getD 0 = b := by simp [entL, e2]
      intro φ hf
      have e1 : (execOp φ { dst := some d, op := Op.mapEntry t x y, type := ty, pos := ps, after := af, guard := none }).run P w = .ok (.value (.tuple #[.int .i64 z, .int .i64 (b : Int)])) (w.putObj r (.map (entL m D).toArray clk)) := by
        have h5 := run_setMap (.map (entL m D).toArray clk) ho
        simp only [execOp, hf x _ hx, hf y _ hy, Instr.mapEntry, Sem.run_bind, run_underlying h.h, Result.andThen, run_getMap ho, Sem.run_pure, hK.ck, h1, hq, e3, e4, run_stays]
        have e6 : (entL m D).toArray.modify j' (fun e => { e with key := kA m k }) = (entL m D).toArray := by
          conv => rhs; rw [← hmod]
          simp
        rw [e6, h5]
        have e7 : ((entL m D).toArray[j']?.map (fun x => (x.born : Int))).getD 0 = (b : Int) := by simp [entL, e2]
        simp only [hz', goInt, Option.map_map, Function.comp_def, e7]
      rw [e1]
      refine ⟨R, _, hw.put hj, fun r h => h, hc _ z b ⟨D, clk, rfl, hD, hv⟩ ?_⟩
      · exact ⟨_, _, ⟨kA m k, v0, b⟩, rfl, by
          have := List.mem_of_getElem? e2
          simp only [entL, List.mem_map]
          exact ⟨_, this, rfl⟩, rfl⟩
theorem JO_entryStoreW {t r m j : Nat} {x y z : Operand} {s a : Int} {o : Obj} (hx : ev fr x = some (.map (some r))) (hy : ev fr y = some (.int .i64 s)) (hz : ev fr z = some (.int .i64 a)) (hj : H[j]? = some (r, o)) (hm : MapW m o) (hb : HasB o s)
    (hc : ∀ o', MapW m o' → K R (setH H j o') fr) : JO n full b0 R H ⟨none, .entryStore t x y z, ty, ps, af, none⟩ fr K :=
  JO.mk rfl fun w hw => by
    have ho := hw.own _ (List.mem_of_getElem? hj)
    obtain ⟨D, clk, rfl, hD, hv⟩ := hm
    obtain ⟨es, clk', e, he, hmem, hborn⟩ := hb
    cases he
    obtain ⟨i, hi⟩ : ∃ i, (entL m D).toArray.findIdx? (fun e => (e.born : Int) == s) = some i := by
      cases hq : (entL m D).toArray.findIdx? (fun e => (e.born : Int) == s) with
      | some i => exact ⟨i, rfl⟩
      | none =>
        exfalso
        rw [Array.findIdx?_eq_none_iff] at hq
        have := hq e (by simpa using hmem)
        simp [hborn] at this
    intro φ hf
    have e1 : (execOp φ { dst := none, op := Op.entryStore t x y z, type := ty, pos := ps, after := af, guard := none }).run P w = .ok .skip (w.putObj r (.map ((entL m D).toArray.modify i fun e => { e with val := .int .i64 a }) clk)) := by
      simp only [execOp, hf x _ hx, hf y _ hy, hf z _ hz, Instr.entryStore, Sem.run_bind, run_getMap ho, asInt, asIntOf, Sem.run_pure, Result.andThen, hi, run_setMap _ ho]
    rw [e1]
    refine ⟨R, _, hw.put hj, fun r h => h, hc _ ?_⟩
    · refine ⟨D.modify i (fun p => (p.1, .int .i64 a, p.2.2)), clk, ?_, ?_, ?_⟩
      · congr 1
        simp only [entL]
        apply Array.ext'
        simp only [Array.toList_modify]
        refine List.ext_getElem? fun q => ?_
        simp only [List.getElem?_modify, List.getElem?_map]
        by_cases e : i = q
        · subst e; cases D[i]? <;> simp
        · simp [e]
      · intro p hp
        obtain ⟨q, hq⟩ := List.getElem?_of_mem hp
        rw [List.getElem?_modify] at hq
        cases hD' : D[q]? with
        | none => rw [hD'] at hq; simp at hq
        | some p0 =>
          rw [hD'] at hq
          have := hD p0 (List.mem_of_getElem? hD')
          by_cases e : i = q
          · simp [e] at hq; rw [← hq]; exact this
          · simp [e] at hq; rw [← hq]; exact this
      · intro p hp
        obtain ⟨q, hq⟩ := List.getElem?_of_mem hp
        rw [List.getElem?_modify] at hq
        cases hD' : D[q]? with
        | none => rw [hD'] at hq; simp at hq
        | some p0 =>
          rw [hD'] at hq
          by_cases e : i = q
          · simp [e] at hq; rw [← hq]; exact ⟨a, rfl⟩
          · simp [e] at hq; rw [← hq]; exact hv p0 (List.mem_of_getElem? hD')
theorem Ob_addw {t yt : TypeId} {x y : Operand} {a b : Int} (hx : ev fr x = some (.int .i64 a)) (hy : ev fr y = some (.int .i64 b)) :
    Ob b0 R H ⟨dst, .binOp .add t x y yt, ty, ps, af, g⟩ fr (.int .i64 (IntKind.i64.wrap (a + b))) := .pure fun w f hf => by
  rw [run_bin_int (hf x _ hx) (hf y _ hy)]; simp [binOp, Op.intArith, Result.andThen]
end
end Go.Proofs.YtkbaaikidhbfmaaGreat
/- Keys, equality of structs and arrays of ints. No statement is proved here. -/
set_option linter.unusedVariables false
set_option linter.unusedSimpArgs false
namespace Go.Proofs.YtkbaaikidhbfmaaGreat
open Go.RowKit
theorem len2 {k : List Int} (h : k.length = 2) : ∃ a b, k = [a, b] := by
  match k, h with
  | [a, b], _ => exact ⟨a, b, rfl⟩
theorem len3 {k : List Int} (h : k.length = 3) : ∃ a b c, k = [a, b, c] := by
  match k, h with
  | [a, b, c], _ => exact ⟨a, b, c, rfl⟩
/-- Equality at a type: m ints. -/
class TyEq (t m : Nat) : Prop where
  eq : ∀ (k l : List Int) (w : World), k.length = m → l.length = m → (Op.equal t (kA m k) (kA m l)).run P w = .ok (decide (k = l)) w
  gd : P.eqGuardType P.depth t = false
theorem run_eqF2 (w : World) (d : Nat) (xs ys : Array Value) (f0 f1 : Field) (a b c e : Int) (n0 : f0.name ≠ "_") (n1 : f1.name ≠ "_") (p0 : (part f0.type xs f0.offset).run P w = .ok (.int .i64 a) w) (p1 : (part f1.type xs f1.offset).run P w = .ok (.int .i64 b) w)
    (q0 : (part f0.type ys f0.offset).run P w = .ok (.int .i64 c) w) (q1 : (part f1.type ys f1.offset).run P w = .ok (.int .i64 e) w) (h0 : P.underlying f0.type = some (.int .i64)) (h1 : P.underlying f1.type = some (.int .i64)) :
    (Op.eqFields (d + 1) xs ys [f0, f1]).run P w = .ok (decide ([a, b] = [c, e])) w := by
  by_cases x : a = c <;> by_cases y : b = e <;> simp [Op.eqFields, n0, n1, p0, p1, q0, q1, run_equalIn_int w d _ .i64 .i64 _ _ h0, run_equalIn_int w d _ .i64 .i64 _ _ h1, Result.andThen_ok, x, y]
theorem run_eqI3 (w : World) (d e n : Nat) (xs ys : Array Value) (a b c a' b' c' : Int) (p0 : (part e xs (0 * n)).run P w = .ok (.int .i64 a) w) (p1 : (part e xs (1 * n)).run P w = .ok (.int .i64 b) w) (p2 : (part e xs (2 * n)).run P w = .ok (.int .i64 c) w)
    (q0 : (part e ys (0 * n)).run P w = .ok (.int .i64 a') w) (q1 : (part e ys (1 * n)).run P w = .ok (.int .i64 b') w) (q2 : (part e ys (2 * n)).run P w = .ok (.int .i64 c') w) (h : P.underlying e = some (.int .i64)) :
    (Op.eqItems (d + 1) e n xs ys [0, 1, 2]).run P w = .ok (decide ([a, b, c] = [a', b', c'])) w := by
  have hh := fun x y => run_equalIn_int w d e .i64 .i64 x y h
  simp only [Nat.zero_mul, Nat.one_mul] at p0 p1 q0 q1
  by_cases x : a = a' <;> by_cases y : b = b' <;> by_cases z : c = c' <;> simp [Op.eqItems, p0, p1, p2, q0, q1, q2, hh, Result.andThen_ok, x, y, z]
theorem fld_of {t : Nat} {fs : Array Field} (h : P.underlying t = some (.struct fs)) : P.fieldsOf t = fs := by simp [Program.fieldsOf, h]
instance : TyEq 59 2 := ⟨fun k l w hk hl => by
  obtain ⟨a, b, rfl⟩ := len2 hk
  obtain ⟨c, d, rfl⟩ := len2 hl
  refine (run_equalIn_struct w 9999 59 _ _ (by rw [fld_of Tryz.underlying59]; exact Tryz.underlying59) (by kernel_rfl)).trans ?_
  rw [fld_of Tryz.underlying59]
  exact run_eqF2 w 9998 _ _ _ _ a b c d (by decide) (by decide) (by kernel_rfl) (by kernel_rfl) (by kernel_rfl) (by kernel_rfl) Tryz.underlying3 Tryz.underlying3, by kernel_rfl⟩
instance : TyEq 190 2 := ⟨fun k l w hk hl => by
  obtain ⟨a, b, rfl⟩ := len2 hk
  obtain ⟨c, d, rfl⟩ := len2 hl
  refine (run_equalIn_struct w 9999 190 _ _ (by rw [fld_of Tryz.underlying190]; exact Tryz.underlying190) (by kernel_rfl)).trans ?_
  rw [fld_of Tryz.underlying190]
  exact run_eqF2 w 9998 _ _ _ _ a b c d (by decide) (by decide) (by kernel_rfl) (by kernel_rfl) (by kernel_rfl) (by kernel_rfl) Tryz.underlying3 Tryz.underlying3, by kernel_rfl⟩
instance : TyEq 233 2 := ⟨fun k l w hk hl => by
  obtain ⟨a, b, rfl⟩ := len2 hk
  obtain ⟨c, d, rfl⟩ := len2 hl
  refine (run_equalIn_struct w 9999 233 _ _ (by rw [fld_of Tryz.underlying233]; exact Tryz.underlying233) (by kernel_rfl)).trans ?_
  rw [fld_of Tryz.underlying233]
  exact run_eqF2 w 9998 _ _ _ _ a b c d (by decide) (by decide) (by kernel_rfl) (by kernel_rfl) (by kernel_rfl) (by kernel_rfl) Tryz.underlying3 Tryz.underlying3, by kernel_rfl⟩
instance : TyEq 195 3 := ⟨fun k l w hk hl => by
  obtain ⟨a, b, c, rfl⟩ := len3 hk
  obtain ⟨d, e, f, rfl⟩ := len3 hl
  have hi : ∃ i, P.info? 3 = some i := by
    cases h : P.info? 3 with
    | some i => exact ⟨i, rfl⟩
    | none => exact absurd (show (P.info? 3).isSome = true from (by kernel_rfl)) (by rw [h]; decide)
  obtain ⟨i, hi⟩ := hi
  refine (run_equalIn_array w 9999 _ _ Tryz.underlying195 hi).trans ?_
  exact run_eqI3 w 9998 3 (P.cellsOf 3) _ _ a b c d e f (by kernel_rfl) (by kernel_rfl) (by kernel_rfl) (by kernel_rfl) (by kernel_rfl) (by kernel_rfl) Tryz.underlying3, by kernel_rfl⟩
instance : TyEq 236 3 := ⟨fun k l w hk hl => by
  obtain ⟨a, b, c, rfl⟩ := len3 hk
  obtain ⟨d, e, f, rfl⟩ := len3 hl
  have hi : ∃ i, P.info? 3 = some i := by
    cases h : P.info? 3 with
    | some i => exact ⟨i, rfl⟩
    | none => exact absurd (show (P.info? 3).isSome = true from (by kernel_rfl)) (by rw [h]; decide)
  obtain ⟨i, hi⟩ := hi
  refine (run_equalIn_array w 9999 _ _ Tryz.underlying236 hi).trans ?_
  exact run_eqI3 w 9998 3 (P.cellsOf 3) _ _ a b c d e f (by kernel_rfl) (by kernel_rfl) (by kernel_rfl) (by kernel_rfl) (by kernel_rfl) (by kernel_rfl) Tryz.underlying3, by kernel_rfl⟩
instance : TyKey 190 2 := ⟨fun x es w => run_findKey_eq w (by rw [Tryz.underlying190]) x es, fun em k w => by
  cases em
  · kernel_rfl
  · kernel_rfl, TyEq.eq⟩
instance : TyKey 233 2 := ⟨fun x es w => run_findKey_eq w (by rw [Tryz.underlying233]) x es, fun em k w => by
  cases em
  · kernel_rfl
  · kernel_rfl, TyEq.eq⟩
instance : TyKey 195 3 := ⟨fun x es w => run_findKey_eq w (by rw [Tryz.underlying195]) x es, fun em k w => by
  cases em
  · kernel_rfl
  · kernel_rfl, TyEq.eq⟩
section
variable {n d : Nat} {b0 : World} {R : Rgs} {H : Hp} {fr : Slots} {dst : Option Nat} {g : Option (Nat × Bool)} {ty : TypeId} {ps : String} {af : Array Edge}
theorem run_bin_agg {op : BinOp} {t m : Nat} {x y : Operand} {yt : TypeId} {k l : List Int} {f : Operand → Value} {w : World} [h : TyEq t m] (hx : f x = kA m k) (hy : f y = kA m l) :
    (execOp f ⟨dst, .binOp op t x y yt, ty, ps, af, g⟩).run P w = ((binOp op t (kA m k) (kA m l)).run P w).andThen fun v w' => .ok (.value v) w' := by
  simp only [execOp, hx, hy]
  simp only [Sem.run_bind, run_eqGuard_agg w op t x y _ _ h.gd, Result.andThen]
  cases (binOp op t (kA m k) (kA m l)).run P w <;> rfl
theorem Ob_eqA {t m : Nat} {x y : Operand} {yt : TypeId} {k l : List Int} [h : TyEq t m] (hx : ev fr x = some (kA m k)) (hy : ev fr y = some (kA m l)) (hk : k.length = m) (hl : l.length = m) :
    Ob b0 R H ⟨dst, .binOp .eql t x y yt, ty, ps, af, g⟩ fr (.bool (decide (k = l))) := .pure fun w f hf => by
  rw [run_bin_agg (hf x _ hx) (hf y _ hy)]
  have e3 : binOp .eql t (kA m k) (kA m l) = (do pure (.bool (← Op.equal t (kA m k) (kA m l)))) := rfl
  rw [e3]
  simp only [Sem.run_bind, Sem.run_pure, Result.andThen, h.eq k l w hk hl]
theorem Ob_neA {t m : Nat} {x y : Operand} {yt : TypeId} {k l : List Int} [h : TyEq t m] (hx : ev fr x = some (kA m k)) (hy : ev fr y = some (kA m l)) (hk : k.length = m) (hl : l.length = m) :
    Ob b0 R H ⟨dst, .binOp .neq t x y yt, ty, ps, af, g⟩ fr (.bool (!decide (k = l))) := .pure fun w f hf => by
  rw [run_bin_agg (hf x _ hx) (hf y _ hy)]
  have e3 : binOp .neq t (kA m k) (kA m l) = (do pure (.bool !(← Op.equal t (kA m k) (kA m l)))) := rfl
  rw [e3]
  simp only [Sem.run_bind, Sem.run_pure, Result.andThen, h.eq k l w hk hl]
end
end Go.Proofs.YtkbaaikidhbfmaaGreat
/- Contracts: the small functions. No statement is proved here. -/
set_option linter.unusedVariables false
namespace Go.Proofs.YtkbaaikidhbfmaaGreat
open Go.RowKit

theorem c47 (a b c : Int) (w : World) : Ex 47 [.int .i64 a, .int .i64 b, .int .i64 c] w (.bool (decide (b ≤ a ∧ a ≤ c))) := by
  refine Rt_of Tryz.func47 rfl Tryz.ntmps47 rfl ?_
  repeat' (first | apply s_ | (apply JO_ob; exact rfl; first | exact ob1) | ((first | apply b_ | apply a_ | apply i_); exact z_; intro _) | ((first | apply p_ | apply JO_yes | apply GC_t); exact z_) | (apply n_; exact z_) | (apply GC_f; exact z_) | (apply GX_block_on; exact z_) | (apply c_; exact z_; all_goals intro _))
  all_goals first | exact GX_ex rfl rfl mem_ (dT (by omega)) | exact GX_ex rfl rfl mem_ (dF (by omega))

theorem c77 (a b c : Int) (w : World) : Ex 77 [.int .i64 a, .int .i64 b, .int .i64 c] w (.bool (decide (b ≤ a ∧ a ≤ c))) := by
  refine Rt_of Tryz.func77 rfl Tryz.ntmps77 rfl ?_
  repeat' (first | apply s_ | (apply JO_ob; exact rfl; first | exact ob1) | ((first | apply b_ | apply a_ | apply i_); exact z_; intro _) | ((first | apply p_ | apply JO_yes | apply GC_t); exact z_) | (apply n_; exact z_) | (apply GC_f; exact z_) | (apply GX_block_on; exact z_) | (apply c_; exact z_; all_goals intro _))
  all_goals first | exact GX_ex rfl rfl mem_ (dT (by omega)) | exact GX_ex rfl rfl mem_ (dF (by omega))

theorem c110 (a b c : Int) (w : World) : Ex 110 [.int .i64 a, .int .i64 b, .int .i64 c] w (.bool (decide (b ≤ a ∧ a ≤ c))) := by
  refine Rt_of Tryz.func110 rfl Tryz.ntmps110 rfl ?_
  repeat' (first | apply s_ | (apply JO_ob; exact rfl; first | exact ob1) | ((first | apply b_ | apply a_ | apply i_); exact z_; intro _) | ((first | apply p_ | apply JO_yes | apply GC_t); exact z_) | (apply n_; exact z_) | (apply GC_f; exact z_) | (apply GX_block_on; exact z_) | (apply c_; exact z_; all_goals intro _))
  all_goals first | exact GX_ex rfl rfl mem_ (dT (by omega)) | exact GX_ex rfl rfl mem_ (dF (by omega))

theorem c193 (a b c : Int) (w : World) : Ex 193 [.int .i64 a, .int .i64 b, .int .i64 c] w (.bool (decide (b ≤ a ∧ a ≤ c))) := by
  refine Rt_of Tryz.func193 rfl Tryz.ntmps193 rfl ?_
  repeat' (first | apply s_ | (apply JO_ob; exact rfl; first | exact ob1) | ((first | apply b_ | apply a_ | apply i_); exact z_; intro _) | ((first | apply p_ | apply JO_yes | apply GC_t); exact z_) | (apply n_; exact z_) | (apply GC_f; exact z_) | (apply GX_block_on; exact z_) | (apply c_; exact z_; all_goals intro _))
  all_goals first | exact GX_ex rfl rfl mem_ (dT (by omega)) | exact GX_ex rfl rfl mem_ (dF (by omega))

theorem c205 (a b c : Int) (w : World) : Ex 205 [.int .i64 a, .int .i64 b, .int .i64 c] w (.bool (decide (b ≤ a ∧ a ≤ c))) := by
  refine Rt_of Tryz.func205 rfl Tryz.ntmps205 rfl ?_
  repeat' (first | apply s_ | (apply JO_ob; exact rfl; first | exact ob1) | ((first | apply b_ | apply a_ | apply i_); exact z_; intro _) | ((first | apply p_ | apply JO_yes | apply GC_t); exact z_) | (apply n_; exact z_) | (apply GC_f; exact z_) | (apply GX_block_on; exact z_) | (apply c_; exact z_; all_goals intro _))
  all_goals first | exact GX_ex rfl rfl mem_ (dT (by omega)) | exact GX_ex rfl rfl mem_ (dF (by omega))

theorem c131 (a b c : Int) (w : World) : Ex 131 [.agg #[.int .i64 a, .int .i64 b], .int .i64 c] w (.bool (decide (0 ≤ a ∧ a ≤ b ∧ b ≤ c))) := by
  refine Rt_of Tryz.func131 rfl Tryz.ntmps131 rfl ?_
  repeat' (first | apply s_ | (apply JO_ob; exact rfl; first | exact ob1) | ((first | apply b_ | apply a_ | apply i_); exact z_; intro _) | ((first | apply p_ | apply JO_yes | apply GC_t); exact z_) | (apply n_; exact z_) | (apply GC_f; exact z_) | (apply GX_block_on; exact z_) | (apply c_; exact z_; all_goals intro _))
  all_goals first | exact GX_ex rfl rfl mem_ (dT (by omega)) | exact GX_ex rfl rfl mem_ (dF (by omega))

theorem c135 (a b c : Int) (w : World) : Ex 135 [.agg #[.int .i64 a, .int .i64 b], .int .i64 c] w (.bool (decide (0 ≤ a ∧ a ≤ b ∧ b ≤ c))) := by
  refine Rt_of Tryz.func135 rfl Tryz.ntmps135 rfl ?_
  repeat' (first | apply s_ | (apply JO_ob; exact rfl; first | exact ob1) | ((first | apply b_ | apply a_ | apply i_); exact z_; intro _) | ((first | apply p_ | apply JO_yes | apply GC_t); exact z_) | (apply n_; exact z_) | (apply GC_f; exact z_) | (apply GX_block_on; exact z_) | (apply c_; exact z_; all_goals intro _))
  all_goals first | exact GX_ex rfl rfl mem_ (dT (by omega)) | exact GX_ex rfl rfl mem_ (dF (by omega))

theorem c166 (a b c : Int) (w : World) : Ex 166 [.agg #[.int .i64 a, .int .i64 b], .int .i64 c] w (.bool (decide (0 ≤ a ∧ a ≤ b ∧ b ≤ c))) := by
  refine Rt_of Tryz.func166 rfl Tryz.ntmps166 rfl ?_
  repeat' (first | apply s_ | (apply JO_ob; exact rfl; first | exact ob1) | ((first | apply b_ | apply a_ | apply i_); exact z_; intro _) | ((first | apply p_ | apply JO_yes | apply GC_t); exact z_) | (apply n_; exact z_) | (apply GC_f; exact z_) | (apply GX_block_on; exact z_) | (apply c_; exact z_; all_goals intro _))
  all_goals first | exact GX_ex rfl rfl mem_ (dT (by omega)) | exact GX_ex rfl rfl mem_ (dF (by omega))

theorem c199 (a b c : Int) (w : World) : Ex 199 [.agg #[.int .i64 a, .int .i64 b], .int .i64 c] w (.bool (decide (0 ≤ a ∧ a ≤ b ∧ b ≤ c))) := by
  refine Rt_of Tryz.func199 rfl Tryz.ntmps199 rfl ?_
  repeat' (first | apply s_ | (apply JO_ob; exact rfl; first | exact ob1) | ((first | apply b_ | apply a_ | apply i_); exact z_; intro _) | ((first | apply p_ | apply JO_yes | apply GC_t); exact z_) | (apply n_; exact z_) | (apply GC_f; exact z_) | (apply GX_block_on; exact z_) | (apply c_; exact z_; all_goals intro _))
  all_goals first | exact GX_ex rfl rfl mem_ (dT (by omega)) | exact GX_ex rfl rfl mem_ (dF (by omega))

theorem c82 (a b : Int) (h : 0 ≤ a) (h1 : a ≤ b) (h2 : b ≤ 1000000) (w : World) : Ex 82 [.agg #[.int .i64 a, .int .i64 b]] w (.int .i64 (b - a + 1)) := by
  refine Rt_of Tryz.func82 rfl Tryz.ntmps82 rfl ?_
  repeat' (first | apply s_ | (apply JO_ob; exact rfl; first | exact ob1) | ((first | apply b_ | apply a_ | apply i_); exact z_; intro _) | ((first | apply p_ | apply JO_yes | apply GC_t); exact z_) | (apply n_; exact z_) | (apply GC_f; exact z_) | (apply GX_block_on; exact z_) | (apply c_; exact z_; all_goals intro _))
  (first | exact GX_ex rfl rfl mem_ rfl | exact GX_exc rfl rfl mem_ rfl mem_ rfl)

theorem c139 (a b : Int) (h : 0 ≤ a) (h1 : a ≤ b) (h2 : b ≤ 1000000) (w : World) : Ex 139 [.agg #[.int .i64 a, .int .i64 b]] w (.int .i64 (b - a + 1)) := by
  refine Rt_of Tryz.func139 rfl Tryz.ntmps139 rfl ?_
  repeat' (first | apply s_ | (apply JO_ob; exact rfl; first | exact ob1) | ((first | apply b_ | apply a_ | apply i_); exact z_; intro _) | ((first | apply p_ | apply JO_yes | apply GC_t); exact z_) | (apply n_; exact z_) | (apply GC_f; exact z_) | (apply GX_block_on; exact z_) | (apply c_; exact z_; all_goals intro _))
  (first | exact GX_ex rfl rfl mem_ rfl | exact GX_exc rfl rfl mem_ rfl mem_ rfl)

theorem c140 (a b : Int) (h : 0 ≤ a) (h1 : a ≤ b) (h2 : b ≤ 1000000) (w : World) : Ex 140 [.agg #[.int .i64 a, .int .i64 b]] w (.int .i64 (b - a + 1)) := by
  refine Rt_of Tryz.func140 rfl Tryz.ntmps140 rfl ?_
  repeat' (first | apply s_ | (apply JO_ob; exact rfl; first | exact ob1) | ((first | apply b_ | apply a_ | apply i_); exact z_; intro _) | ((first | apply p_ | apply JO_yes | apply GC_t); exact z_) | (apply n_; exact z_) | (apply GC_f; exact z_) | (apply GX_block_on; exact z_) | (apply c_; exact z_; all_goals intro _))
  (first | exact GX_ex rfl rfl mem_ rfl | exact GX_exc rfl rfl mem_ rfl mem_ rfl)

theorem c170 (a b : Int) (h : 0 ≤ a) (h1 : a ≤ b) (h2 : b ≤ 1000000) (w : World) : Ex 170 [.agg #[.int .i64 a, .int .i64 b]] w (.int .i64 (b - a + 1)) := by
  refine Rt_of Tryz.func170 rfl Tryz.ntmps170 rfl ?_
  repeat' (first | apply s_ | (apply JO_ob; exact rfl; first | exact ob1) | ((first | apply b_ | apply a_ | apply i_); exact z_; intro _) | ((first | apply p_ | apply JO_yes | apply GC_t); exact z_) | (apply n_; exact z_) | (apply GC_f; exact z_) | (apply GX_block_on; exact z_) | (apply c_; exact z_; all_goals intro _))
  (first | exact GX_ex rfl rfl mem_ rfl | exact GX_exc rfl rfl mem_ rfl mem_ rfl)

theorem c181 (a b : Int) (h : 0 ≤ a) (h1 : a ≤ b) (h2 : b ≤ 1000000) (w : World) : Ex 181 [.agg #[.int .i64 a, .int .i64 b]] w (.int .i64 (b - a + 1)) := by
  refine Rt_of Tryz.func181 rfl Tryz.ntmps181 rfl ?_
  repeat' (first | apply s_ | (apply JO_ob; exact rfl; first | exact ob1) | ((first | apply b_ | apply a_ | apply i_); exact z_; intro _) | ((first | apply p_ | apply JO_yes | apply GC_t); exact z_) | (apply n_; exact z_) | (apply GC_f; exact z_) | (apply GX_block_on; exact z_) | (apply c_; exact z_; all_goals intro _))
  (first | exact GX_ex rfl rfl mem_ rfl | exact GX_exc rfl rfl mem_ rfl mem_ rfl)

theorem c27 (a b : Int) (w : World) : Ex 27 [.agg #[.int .i64 a, .int .i64 b]] w (.agg #[.int .i64 a, .int .i64 b]) := by
  refine Rt_of Tryz.func27 rfl Tryz.ntmps27 rfl ?_
  repeat' (first | apply s_ | (apply JO_ob; exact rfl; first | exact ob1) | ((first | apply b_ | apply a_ | apply i_); exact z_; intro _) | ((first | apply p_ | apply JO_yes | apply GC_t); exact z_) | (apply n_; exact z_) | (apply GC_f; exact z_) | (apply GX_block_on; exact z_) | (apply c_; exact z_; all_goals intro _))
  (first | exact GX_ex rfl rfl mem_ rfl | exact GX_exc rfl rfl mem_ rfl mem_ rfl)

theorem c111 (a b : Int) (w : World) : Ex 111 [.agg #[.int .i64 a, .int .i64 b]] w (.agg #[.int .i64 a, .int .i64 b]) := by
  refine Rt_of Tryz.func111 rfl Tryz.ntmps111 rfl ?_
  repeat' (first | apply s_ | (apply JO_ob; exact rfl; first | exact ob1) | ((first | apply b_ | apply a_ | apply i_); exact z_; intro _) | ((first | apply p_ | apply JO_yes | apply GC_t); exact z_) | (apply n_; exact z_) | (apply GC_f; exact z_) | (apply GX_block_on; exact z_) | (apply c_; exact z_; all_goals intro _))
  (first | exact GX_ex rfl rfl mem_ rfl | exact GX_exc rfl rfl mem_ rfl mem_ rfl)

theorem c116 (a b : Int) (w : World) : Ex 116 [.agg #[.int .i64 a, .int .i64 b]] w (.agg #[.int .i64 a, .int .i64 b]) := by
  refine Rt_of Tryz.func116 rfl Tryz.ntmps116 rfl ?_
  repeat' (first | apply s_ | (apply JO_ob; exact rfl; first | exact ob1) | ((first | apply b_ | apply a_ | apply i_); exact z_; intro _) | ((first | apply p_ | apply JO_yes | apply GC_t); exact z_) | (apply n_; exact z_) | (apply GC_f; exact z_) | (apply GX_block_on; exact z_) | (apply c_; exact z_; all_goals intro _))
  (first | exact GX_ex rfl rfl mem_ rfl | exact GX_exc rfl rfl mem_ rfl mem_ rfl)

theorem c52 (a b : Int) (w : World) : Ex 52 [.int .i64 a, .int .i64 b] w (.agg #[.int .i64 a, .int .i64 b]) := by
  refine Rt_of Tryz.func52 rfl Tryz.ntmps52 rfl ?_
  repeat' (first | apply s_ | (apply JO_ob; exact rfl; first | exact ob1) | ((first | apply b_ | apply a_ | apply i_); exact z_; intro _) | ((first | apply p_ | apply JO_yes | apply GC_t); exact z_) | (apply n_; exact z_) | (apply GC_f; exact z_) | (apply GX_block_on; exact z_) | (apply c_; exact z_; all_goals intro _))
  (first | exact GX_ex rfl rfl mem_ rfl | exact GX_exc rfl rfl mem_ rfl mem_ rfl)

theorem c83 (w : World) : Ex 83 [] w (.agg #[.int .i64 1099511627776, .int .i64 (-1)]) := by
  refine Rt_of Tryz.func83 rfl Tryz.ntmps83 rfl ?_
  repeat' (first | apply s_ | (apply JO_ob; exact rfl; first | exact ob1) | ((first | apply b_ | apply a_ | apply i_); exact z_; intro _) | ((first | apply p_ | apply JO_yes | apply GC_t); exact z_) | (apply n_; exact z_) | (apply GC_f; exact z_) | (apply GX_block_on; exact z_) | (apply c_; exact z_; all_goals intro _))
  (first | exact GX_ex rfl rfl mem_ rfl | exact GX_exc rfl rfl mem_ rfl mem_ rfl)

theorem c84 (a b c : Int) (w : World) : Ex 84 [.agg #[.int .i64 a, .int .i64 b], .int .i64 c] w (.agg #[.int .i64 (min a c), .int .i64 (max b c)]) := by
  refine Rt_of Tryz.func84 rfl Tryz.ntmps84 rfl ?_
  repeat' (first | apply s_ | (apply JO_ob; exact rfl; first | exact ob1) | ((first | apply b_ | apply a_ | apply i_); exact z_; intro _) | ((first | apply p_ | apply JO_yes | apply GC_t); exact z_) | (apply n_; exact z_) | (apply GC_f; exact z_) | (apply GX_block_on; exact z_) | (apply c_; exact z_; all_goals intro _))
  all_goals (first | exact GX_ex rfl rfl mem_ rfl | exact GX_exc rfl rfl mem_ rfl mem_ rfl)

theorem c26 (w : World) (a b c : Value) (v1 v2 v3 v4 v5 v6 v7 v8 v9 v10 : Value) {α : Type} {G : Nat → Prop} {enc : α → List Value} {xs : List α} {s : Nat} (hb : Arr G w s enc b xs) [V1 a] [V1 b] [V1 c] [V1 v1] [V1 v2] [V1 v3] [V1 v4] [V1 v5] [V1 v6] [V1 v7] [V1 v8] [V1 v9] [V1 v10] : Ex 26 [.agg #[a, b, c, v1, v2, v3, v4, v5, v6, v7, v8, v9, v10]] w (.int .i64 (xs.length : Int)) := by
  refine Rt_of Tryz.func26 rfl Tryz.ntmps26 rfl ?_
  repeat' (first | apply s_ | (apply JO_ob; exact rfl; first | exact ob1) | ((first | apply b_ | apply a_ | apply i_); exact z_; intro _) | ((first | apply p_ | apply JO_yes | apply GC_t); exact z_) | (apply n_; exact z_) | (apply GC_f; exact z_) | (apply GX_block_on; exact z_) | (apply c_; exact z_; all_goals intro _))
  (first | exact GX_ex rfl rfl mem_ rfl | exact GX_exc rfl rfl mem_ rfl mem_ rfl)

theorem c75 (w : World) (a b c : Value) (v1 v2 v3 v4 v5 v6 v7 v8 v9 v10 : Value) {α : Type} {G : Nat → Prop} {enc : α → List Value} {xs : List α} {s : Nat} (hb : Arr G w s enc b xs) [V1 a] [V1 b] [V1 c] [V1 v1] [V1 v2] [V1 v3] [V1 v4] [V1 v5] [V1 v6] [V1 v7] [V1 v8] [V1 v9] [V1 v10] : Ex 75 [.agg #[a, b, c, v1, v2, v3, v4, v5, v6, v7, v8, v9, v10]] w (.int .i64 (xs.length : Int)) := by
  refine Rt_of Tryz.func75 rfl Tryz.ntmps75 rfl ?_
  repeat' (first | apply s_ | (apply JO_ob; exact rfl; first | exact ob1) | ((first | apply b_ | apply a_ | apply i_); exact z_; intro _) | ((first | apply p_ | apply JO_yes | apply GC_t); exact z_) | (apply n_; exact z_) | (apply GC_f; exact z_) | (apply GX_block_on; exact z_) | (apply c_; exact z_; all_goals intro _))
  (first | exact GX_ex rfl rfl mem_ rfl | exact GX_exc rfl rfl mem_ rfl mem_ rfl)

end Go.Proofs.YtkbaaikidhbfmaaGreat
/- Contracts: slices, all, minimum, wider. No statement is proved here. -/
set_option linter.unusedVariables false
namespace Go.Proofs.YtkbaaikidhbfmaaGreat
open Go.RowKit

def minL : List Int → Int
  | [] => 0
  | x :: xs => xs.foldl min x
theorem minL_snoc (xs : List Int) (k : Nat) (h : k + 1 < xs.length) : minL (xs.take (k + 2)) = min (minL (xs.take (k + 1))) (nth xs (k + 1)) := by
  cases xs with
  | nil => simp at h
  | cons x xs =>
    simp only [List.length_cons] at h
    have hk : k < xs.length := by omega
    have e : xs.take (k + 1) = xs.take k ++ [nth xs k] := by rw [List.take_add_one]; simp [nth, hk]
    simp only [List.take_succ_cons, minL, e, List.foldl_append, List.foldl_cons, List.foldl_nil]
    simp [nth]
theorem c122 (v : Value) (xs : List Int) (w : World) (hA : Ints w v xs) (hne : 0 < xs.length) : Ex 122 [v] w (.int .i64 (minL xs)) := by
  have hb := hA.bound
  refine Rt_of Tryz.func122 rfl Tryz.ntmps122 rfl ?_
  repeat' (first | apply s_ | (apply JO_ob; exact rfl; first | exact ob1) | ((first | apply b_ | apply a_ | apply i_); exact z_; intro _) | ((first | apply p_ | apply JO_yes | apply GC_t); exact z_) | (apply n_; exact z_) | (apply GC_f; exact z_) | (apply GX_block_on; exact z_) | (apply c_; exact z_; all_goals intro _))
  refine GC_loop0 (fun k => xs.length - k) (fun k => [(0, v), (3, .int .i64 (minL (xs.take (k + 1)))), (4, .int .i64 ((k + 1 : Nat) : Int))]) (fun k => k + 1 ≤ xs.length) 0 ⟨rfl, ?_, rfl, trivial⟩ (by omega) ?_
  · cases xs with
    | nil => simp at hne
    | cons x xs => rfl
  intro k hk
  repeat' (first | apply s_ | (apply JO_ob; exact rfl; first | exact ob1) | ((first | apply b_ | apply a_ | apply i_); exact z_; intro _) | ((first | apply p_ | apply JO_yes | apply GC_t); exact z_) | (apply n_; exact z_) | (apply GC_f; exact z_) | (apply GX_block_on; exact z_) | (apply c_; exact z_; all_goals intro _))
  · refine GX_loop0 (k + 1) ⟨rfl, ?_, rfl, trivial⟩ (by omega) (by omega)
    rw [minL_snoc xs k (by omega)]; rfl
  · refine GX_ex rfl rfl mem_ ?_
    rw [List.take_of_length_le (by omega)]

theorem c81 (v : Value) (xs : List Int) (w : World) (hA : Ints w v xs) (hne : 0 < xs.length) : Ex 81 [v] w (.int .i64 (minL xs)) := by
  refine Rt_of Tryz.func81 rfl Tryz.ntmps81 rfl ?_
  repeat' (first | apply s_ | (apply JO_ob; exact rfl; first | exact ob1 | exact Ob_call rfl (fun w hw => c122 v xs w (hw.arr (.head _) hA) hne)) | ((first | apply b_ | apply a_ | apply i_); exact z_; intro _) | ((first | apply p_ | apply JO_yes | apply GC_t); exact z_) | (apply n_; exact z_) | (apply GC_f; exact z_) | (apply GX_block_on; exact z_) | (apply c_; exact z_; all_goals intro _))
  (first | exact GX_ex rfl rfl mem_ rfl | exact GX_exc rfl rfl mem_ rfl mem_ rfl)

theorem c171 (v : Value) (xs : List Int) (w : World) (hA : Ints w v xs) (hne : 0 < xs.length) : Ex 171 [v] w (.int .i64 (minL xs)) := by
  refine Rt_of Tryz.func171 rfl Tryz.ntmps171 rfl ?_
  repeat' (first | apply s_ | (apply JO_ob; exact rfl; first | exact ob1 | exact Ob_call rfl (fun w hw => c122 v xs w (hw.arr (.head _) hA) hne)) | ((first | apply b_ | apply a_ | apply i_); exact z_; intro _) | ((first | apply p_ | apply JO_yes | apply GC_t); exact z_) | (apply n_; exact z_) | (apply GC_f; exact z_) | (apply GX_block_on; exact z_) | (apply c_; exact z_; all_goals intro _))
  (first | exact GX_ex rfl rfl mem_ rfl | exact GX_exc rfl rfl mem_ rfl mem_ rfl)

theorem c180 (v : Value) (xs : List Int) (w : World) (hA : Ints w v xs) (hne : 0 < xs.length) : Ex 180 [v] w (.int .i64 (minL xs)) := by
  refine Rt_of Tryz.func180 rfl Tryz.ntmps180 rfl ?_
  repeat' (first | apply s_ | (apply JO_ob; exact rfl; first | exact ob1 | exact Ob_call rfl (fun w hw => c122 v xs w (hw.arr (.head _) hA) hne)) | ((first | apply b_ | apply a_ | apply i_); exact z_; intro _) | ((first | apply p_ | apply JO_yes | apply GC_t); exact z_) | (apply n_; exact z_) | (apply GC_f; exact z_) | (apply GX_block_on; exact z_) | (apply c_; exact z_; all_goals intro _))
  (first | exact GX_ex rfl rfl mem_ rfl | exact GX_exc rfl rfl mem_ rfl mem_ rfl)

/-- The first one of which p is so; -1 if there is none. -/
def fidx {α : Type} (p : α → Bool) (xs : List α) : Int := if xs.any p then (xs.findIdx p : Int) else -1
theorem fidx_yes {α : Type} [Inhabited α] {p : α → Bool} {xs : List α} {k : Nat} (hk : k < xs.length) (h : ∀ j, j < k → p (nth xs j) = false) (hp : p (nth xs k) = true) : fidx p xs = (k : Int) := by
  have e : ∀ j, j < xs.length → nth xs j = xs[j]! := fun j hj => by simp [nth, hj]
  have h1 : xs.any p = true := List.any_eq_true.2 ⟨nth xs k, by simp [nth, hk], hp⟩
  have h2 : xs.findIdx p = k := by
    rw [List.findIdx_eq hk]
    refine ⟨by simpa [nth, hk] using hp, fun j hj => ?_⟩
    have := h j hj
    have hj2 : j < xs.length := by omega
    simpa [nth, hj2] using this
  simp [fidx, h1, h2]
theorem fidx_no {α : Type} [Inhabited α] {p : α → Bool} {xs : List α} (h : ∀ j, j < xs.length → p (nth xs j) = false) : fidx p xs = -1 := by
  have : xs.any p = false := by
    rw [List.any_eq_false]
    intro x hx
    obtain ⟨j, hj, rfl⟩ := List.getElem_of_mem hx
    have := h j hj
    simpa [nth, hj] using this
  simp [fidx, this]
theorem fidx_any {α : Type} (p : α → Bool) (xs : List α) : decide (0 ≤ fidx p xs) = xs.any p := by
  unfold fidx
  split
  · rename_i h; simp [h]
  · rename_i h; simp [h]
theorem fidx_le {α : Type} (p : α → Bool) (xs : List α) : fidx p xs ≤ xs.length := by
  unfold fidx
  split
  · have := List.findIdx_le_length (xs := xs) (p := p); omega
  · omega

theorem c154 (v fv : Value) (xs : List Int) (p : Int → Bool) (w : World) (hA : Arr All w 1 encI v xs) (hp : Pass w fv (fun x => .int .i64 x) p) : Ex 154 [v, fv] w (.int .i64 (fidx p xs)) := by
  have hb := hA.bound
  have hv1 := hp.v1
  refine Rt_of Tryz.func154 rfl Tryz.ntmps154 rfl ?_
  repeat' (first | apply s_ | (apply JO_ob; exact rfl; first | exact ob1) | ((first | apply b_ | apply a_ | apply i_); exact z_; intro _) | ((first | apply p_ | apply JO_yes | apply GC_t); exact z_) | (apply n_; exact z_) | (apply GC_f; exact z_) | (apply GX_block_on; exact z_) | (apply c_; exact z_; all_goals intro _))
  refine GC_loop0 (fun k => xs.length - k) (fun k => [(0, v), (1, fv), (7, .int .i64 (xs.length : Int)), (8, .int .i64 (k : Int))]) (fun k => k ≤ xs.length ∧ ∀ j, j < k → p (nth xs j) = false) 0 ⟨rfl, rfl, rfl, rfl, trivial⟩ ⟨by omega, fun j hj => by omega⟩ ?_
  rintro k ⟨hk, hno⟩
  repeat' (first | apply s_ | (apply JO_ob; exact rfl; first | exact ob1 | exact Ob_callp rfl hp rfl rfl (fun w hw => hw.kp mem_)) | ((first | apply b_ | apply a_ | apply i_); exact z_; intro _) | ((first | apply p_ | apply JO_yes | apply GC_t); exact z_) | (apply n_; exact z_) | (apply GC_f; exact z_) | (apply GX_block_on; exact z_) | (apply c_; exact z_; all_goals intro _))
  · by_cases hpk : p (nth xs k) = true
    · rw [hpk]
      repeat' (first | apply s_ | (apply JO_ob; exact rfl; first | exact ob1) | ((first | apply b_ | apply a_ | apply i_); exact z_; intro _) | ((first | apply p_ | apply JO_yes | apply GC_t); exact z_) | (apply n_; exact z_) | (apply GC_f; exact z_) | (apply GX_block_on; exact z_) | (apply c_; exact z_; all_goals intro _))
      refine GX_ex rfl rfl mem_ ?_
      rw [fidx_yes (by omega) hno hpk]
    · rw [Bool.not_eq_true] at hpk
      rw [hpk]
      repeat' (first | apply s_ | (apply JO_ob; exact rfl; first | exact ob1) | ((first | apply b_ | apply a_ | apply i_); exact z_; intro _) | ((first | apply p_ | apply JO_yes | apply GC_t); exact z_) | (apply n_; exact z_) | (apply GC_f; exact z_) | (apply GX_block_on; exact z_) | (apply c_; exact z_; all_goals intro _))
      refine GX_loop0 (k + 1) ⟨rfl, rfl, rfl, rfl, trivial⟩ (by omega) ⟨by omega, fun j hj => ?_⟩
      rcases Nat.lt_or_ge j k with h | h
      · exact hno j h
      · rw [show j = k by omega]; exact hpk
  · refine GX_ex rfl rfl mem_ ?_
    rw [fidx_no fun j hj => hno j (by omega)]

theorem c119 (v fv : Value) (xs : List Int) (p : Int → Bool) (w : World) (hA : Arr All w 1 encI v xs) (hp : Pass w fv (fun x => .int .i64 x) p) : Ex 119 [v, fv] w (.bool (xs.any p)) := by
  refine Rt_of Tryz.func119 rfl Tryz.ntmps119 rfl ?_
  repeat' (first | apply s_ | (apply JO_ob; exact rfl; first | exact ob1 | exact Ob_call rfl (fun w hw => c154 v fv xs p w (hw.arr (.head _) hA) (hp.keep (hw.kp mem_))) | exact Ob_cmp rfl rfl rfl) | ((first | apply b_ | apply a_ | apply i_); exact z_; intro _) | ((first | apply p_ | apply JO_yes | apply GC_t); exact z_) | (apply n_; exact z_) | (apply GC_f; exact z_) | (apply GX_block_on; exact z_))
  refine GX_ex rfl rfl mem_ ?_
  rw [fidx_any]

theorem c208 (v fv : Value) (xs : List BV) (p : BV → Bool) (w : World) (hA : Arr All w 4 encV v xs) (hp : Pass w fv (fun x => .agg (encV x).toArray) p) : Ex 208 [v, fv] w (.int .i64 (fidx p xs)) := by
  have hb := hA.bound
  have hv1 := hp.v1
  refine Rt_of Tryz.func208 rfl Tryz.ntmps208 rfl ?_
  repeat' (first | apply s_ | (apply JO_ob; exact rfl; first | exact ob1) | ((first | apply b_ | apply a_ | apply i_); exact z_; intro _) | ((first | apply p_ | apply JO_yes | apply GC_t); exact z_) | (apply n_; exact z_) | (apply GC_f; exact z_) | (apply GX_block_on; exact z_) | (apply c_; exact z_; all_goals intro _))
  refine GC_loop0 (fun k => xs.length - k) (fun k => [(0, v), (1, fv), (7, .int .i64 (xs.length : Int)), (8, .int .i64 (k : Int))]) (fun k => k ≤ xs.length ∧ ∀ j, j < k → p (nth xs j) = false) 0 ⟨rfl, rfl, rfl, rfl, trivial⟩ ⟨by omega, fun j hj => by omega⟩ ?_
  rintro k ⟨hk, hno⟩
  repeat' (first | apply s_ | (apply JO_ob; exact rfl; first | exact ob1 | exact Ob_callp rfl hp rfl rfl (fun w hw => hw.kp mem_)) | ((first | apply b_ | apply a_ | apply i_); exact z_; intro _) | ((first | apply p_ | apply JO_yes | apply GC_t); exact z_) | (apply n_; exact z_) | (apply GC_f; exact z_) | (apply GX_block_on; exact z_) | (apply c_; exact z_; all_goals intro _))
  · by_cases hpk : p (nth xs k) = true
    · rw [hpk]
      repeat' (first | apply s_ | (apply JO_ob; exact rfl; first | exact ob1) | ((first | apply b_ | apply a_ | apply i_); exact z_; intro _) | ((first | apply p_ | apply JO_yes | apply GC_t); exact z_) | (apply n_; exact z_) | (apply GC_f; exact z_) | (apply GX_block_on; exact z_) | (apply c_; exact z_; all_goals intro _))
      refine GX_ex rfl rfl mem_ ?_
      rw [fidx_yes (by omega) hno hpk]
    · rw [Bool.not_eq_true] at hpk
      rw [hpk]
      repeat' (first | apply s_ | (apply JO_ob; exact rfl; first | exact ob1) | ((first | apply b_ | apply a_ | apply i_); exact z_; intro _) | ((first | apply p_ | apply JO_yes | apply GC_t); exact z_) | (apply n_; exact z_) | (apply GC_f; exact z_) | (apply GX_block_on; exact z_) | (apply c_; exact z_; all_goals intro _))
      refine GX_loop0 (k + 1) ⟨rfl, rfl, rfl, rfl, trivial⟩ (by omega) ⟨by omega, fun j hj => ?_⟩
      rcases Nat.lt_or_ge j k with h | h
      · exact hno j h
      · rw [show j = k by omega]; exact hpk
  · refine GX_ex rfl rfl mem_ ?_
    rw [fidx_no fun j hj => hno j (by omega)]

theorem c191 (v fv : Value) (xs : List BV) (p : BV → Bool) (w : World) (hA : Arr All w 4 encV v xs) (hp : Pass w fv (fun x => .agg (encV x).toArray) p) : Ex 191 [v, fv] w (.bool (xs.any p)) := by
  refine Rt_of Tryz.func191 rfl Tryz.ntmps191 rfl ?_
  repeat' (first | apply s_ | (apply JO_ob; exact rfl; first | exact ob1 | exact Ob_call rfl (fun w hw => c208 v fv xs p w (hw.arr (.head _) hA) (hp.keep (hw.kp mem_))) | exact Ob_cmp rfl rfl rfl) | ((first | apply b_ | apply a_ | apply i_); exact z_; intro _) | ((first | apply p_ | apply JO_yes | apply GC_t); exact z_) | (apply n_; exact z_) | (apply GC_f; exact z_) | (apply GX_block_on; exact z_))
  refine GX_ex rfl rfl mem_ ?_
  rw [fidx_any]

theorem c209 (v fv : Value) (xs : List BS) (p : BS → Bool) (w : World) (hA : Arr All w 3 encB v xs) (hp : Pass w fv (fun x => .agg (encB x).toArray) p) : Ex 209 [v, fv] w (.int .i64 (fidx p xs)) := by
  have hb := hA.bound
  have hv1 := hp.v1
  refine Rt_of Tryz.func209 rfl Tryz.ntmps209 rfl ?_
  repeat' (first | apply s_ | (apply JO_ob; exact rfl; first | exact ob1) | ((first | apply b_ | apply a_ | apply i_); exact z_; intro _) | ((first | apply p_ | apply JO_yes | apply GC_t); exact z_) | (apply n_; exact z_) | (apply GC_f; exact z_) | (apply GX_block_on; exact z_) | (apply c_; exact z_; all_goals intro _))
  refine GC_loop0 (fun k => xs.length - k) (fun k => [(0, v), (1, fv), (7, .int .i64 (xs.length : Int)), (8, .int .i64 (k : Int))]) (fun k => k ≤ xs.length ∧ ∀ j, j < k → p (nth xs j) = false) 0 ⟨rfl, rfl, rfl, rfl, trivial⟩ ⟨by omega, fun j hj => by omega⟩ ?_
  rintro k ⟨hk, hno⟩
  repeat' (first | apply s_ | (apply JO_ob; exact rfl; first | exact ob1 | exact Ob_callp rfl hp rfl rfl (fun w hw => hw.kp mem_)) | ((first | apply b_ | apply a_ | apply i_); exact z_; intro _) | ((first | apply p_ | apply JO_yes | apply GC_t); exact z_) | (apply n_; exact z_) | (apply GC_f; exact z_) | (apply GX_block_on; exact z_) | (apply c_; exact z_; all_goals intro _))
  · by_cases hpk : p (nth xs k) = true
    · rw [hpk]
      repeat' (first | apply s_ | (apply JO_ob; exact rfl; first | exact ob1) | ((first | apply b_ | apply a_ | apply i_); exact z_; intro _) | ((first | apply p_ | apply JO_yes | apply GC_t); exact z_) | (apply n_; exact z_) | (apply GC_f; exact z_) | (apply GX_block_on; exact z_) | (apply c_; exact z_; all_goals intro _))
      refine GX_ex rfl rfl mem_ ?_
      rw [fidx_yes (by omega) hno hpk]
    · rw [Bool.not_eq_true] at hpk
      rw [hpk]
      repeat' (first | apply s_ | (apply JO_ob; exact rfl; first | exact ob1) | ((first | apply b_ | apply a_ | apply i_); exact z_; intro _) | ((first | apply p_ | apply JO_yes | apply GC_t); exact z_) | (apply n_; exact z_) | (apply GC_f; exact z_) | (apply GX_block_on; exact z_) | (apply c_; exact z_; all_goals intro _))
      refine GX_loop0 (k + 1) ⟨rfl, rfl, rfl, rfl, trivial⟩ (by omega) ⟨by omega, fun j hj => ?_⟩
      rcases Nat.lt_or_ge j k with h | h
      · exact hno j h
      · rw [show j = k by omega]; exact hpk
  · refine GX_ex rfl rfl mem_ ?_
    rw [fidx_no fun j hj => hno j (by omega)]

theorem c194 (v fv : Value) (xs : List BS) (p : BS → Bool) (w : World) (hA : Arr All w 3 encB v xs) (hp : Pass w fv (fun x => .agg (encB x).toArray) p) : Ex 194 [v, fv] w (.bool (xs.any p)) := by
  refine Rt_of Tryz.func194 rfl Tryz.ntmps194 rfl ?_
  repeat' (first | apply s_ | (apply JO_ob; exact rfl; first | exact ob1 | exact Ob_call rfl (fun w hw => c209 v fv xs p w (hw.arr (.head _) hA) (hp.keep (hw.kp mem_))) | exact Ob_cmp rfl rfl rfl) | ((first | apply b_ | apply a_ | apply i_); exact z_; intro _) | ((first | apply p_ | apply JO_yes | apply GC_t); exact z_) | (apply n_; exact z_) | (apply GC_f; exact z_) | (apply GX_block_on; exact z_))
  refine GX_ex rfl rfl mem_ ?_
  rw [fidx_any]

theorem c210 (v fv : Value) (xs : List Rg) (p : Rg → Bool) (w : World) (hA : Arr All w 2 encR v xs) (hp : Pass w fv (fun x => .agg (encR x).toArray) p) : Ex 210 [v, fv] w (.int .i64 (fidx p xs)) := by
  have hb := hA.bound
  have hv1 := hp.v1
  refine Rt_of Tryz.func210 rfl Tryz.ntmps210 rfl ?_
  repeat' (first | apply s_ | (apply JO_ob; exact rfl; first | exact ob1) | ((first | apply b_ | apply a_ | apply i_); exact z_; intro _) | ((first | apply p_ | apply JO_yes | apply GC_t); exact z_) | (apply n_; exact z_) | (apply GC_f; exact z_) | (apply GX_block_on; exact z_) | (apply c_; exact z_; all_goals intro _))
  refine GC_loop0 (fun k => xs.length - k) (fun k => [(0, v), (1, fv), (7, .int .i64 (xs.length : Int)), (8, .int .i64 (k : Int))]) (fun k => k ≤ xs.length ∧ ∀ j, j < k → p (nth xs j) = false) 0 ⟨rfl, rfl, rfl, rfl, trivial⟩ ⟨by omega, fun j hj => by omega⟩ ?_
  rintro k ⟨hk, hno⟩
  repeat' (first | apply s_ | (apply JO_ob; exact rfl; first | exact ob1 | exact Ob_callp rfl hp rfl rfl (fun w hw => hw.kp mem_)) | ((first | apply b_ | apply a_ | apply i_); exact z_; intro _) | ((first | apply p_ | apply JO_yes | apply GC_t); exact z_) | (apply n_; exact z_) | (apply GC_f; exact z_) | (apply GX_block_on; exact z_) | (apply c_; exact z_; all_goals intro _))
  · by_cases hpk : p (nth xs k) = true
    · rw [hpk]
      repeat' (first | apply s_ | (apply JO_ob; exact rfl; first | exact ob1) | ((first | apply b_ | apply a_ | apply i_); exact z_; intro _) | ((first | apply p_ | apply JO_yes | apply GC_t); exact z_) | (apply n_; exact z_) | (apply GC_f; exact z_) | (apply GX_block_on; exact z_) | (apply c_; exact z_; all_goals intro _))
      refine GX_ex rfl rfl mem_ ?_
      rw [fidx_yes (by omega) hno hpk]
    · rw [Bool.not_eq_true] at hpk
      rw [hpk]
      repeat' (first | apply s_ | (apply JO_ob; exact rfl; first | exact ob1) | ((first | apply b_ | apply a_ | apply i_); exact z_; intro _) | ((first | apply p_ | apply JO_yes | apply GC_t); exact z_) | (apply n_; exact z_) | (apply GC_f; exact z_) | (apply GX_block_on; exact z_) | (apply c_; exact z_; all_goals intro _))
      refine GX_loop0 (k + 1) ⟨rfl, rfl, rfl, rfl, trivial⟩ (by omega) ⟨by omega, fun j hj => ?_⟩
      rcases Nat.lt_or_ge j k with h | h
      · exact hno j h
      · rw [show j = k by omega]; exact hpk
  · refine GX_ex rfl rfl mem_ ?_
    rw [fidx_no fun j hj => hno j (by omega)]

theorem c200 (v fv : Value) (xs : List Rg) (p : Rg → Bool) (w : World) (hA : Arr All w 2 encR v xs) (hp : Pass w fv (fun x => .agg (encR x).toArray) p) : Ex 200 [v, fv] w (.bool (xs.any p)) := by
  refine Rt_of Tryz.func200 rfl Tryz.ntmps200 rfl ?_
  repeat' (first | apply s_ | (apply JO_ob; exact rfl; first | exact ob1 | exact Ob_call rfl (fun w hw => c210 v fv xs p w (hw.arr (.head _) hA) (hp.keep (hw.kp mem_))) | exact Ob_cmp rfl rfl rfl) | ((first | apply b_ | apply a_ | apply i_); exact z_; intro _) | ((first | apply p_ | apply JO_yes | apply GC_t); exact z_) | (apply n_; exact z_) | (apply GC_f; exact z_) | (apply GX_block_on; exact z_))
  refine GX_ex rfl rfl mem_ ?_
  rw [fidx_any]

theorem c211 (v fv : Value) (xs : List Smp) (p : Smp → Bool) (w : World) (hA : Arr All w 3 encS v xs) (hp : Pass w fv (fun x => .agg (encS x).toArray) p) : Ex 211 [v, fv] w (.int .i64 (fidx p xs)) := by
  have hb := hA.bound
  have hv1 := hp.v1
  refine Rt_of Tryz.func211 rfl Tryz.ntmps211 rfl ?_
  repeat' (first | apply s_ | (apply JO_ob; exact rfl; first | exact ob1) | ((first | apply b_ | apply a_ | apply i_); exact z_; intro _) | ((first | apply p_ | apply JO_yes | apply GC_t); exact z_) | (apply n_; exact z_) | (apply GC_f; exact z_) | (apply GX_block_on; exact z_) | (apply c_; exact z_; all_goals intro _))
  refine GC_loop0 (fun k => xs.length - k) (fun k => [(0, v), (1, fv), (7, .int .i64 (xs.length : Int)), (8, .int .i64 (k : Int))]) (fun k => k ≤ xs.length ∧ ∀ j, j < k → p (nth xs j) = false) 0 ⟨rfl, rfl, rfl, rfl, trivial⟩ ⟨by omega, fun j hj => by omega⟩ ?_
  rintro k ⟨hk, hno⟩
  repeat' (first | apply s_ | (apply JO_ob; exact rfl; first | exact ob1 | exact Ob_callp rfl hp rfl rfl (fun w hw => hw.kp mem_)) | ((first | apply b_ | apply a_ | apply i_); exact z_; intro _) | ((first | apply p_ | apply JO_yes | apply GC_t); exact z_) | (apply n_; exact z_) | (apply GC_f; exact z_) | (apply GX_block_on; exact z_) | (apply c_; exact z_; all_goals intro _))
  · by_cases hpk : p (nth xs k) = true
    · rw [hpk]
      repeat' (first | apply s_ | (apply JO_ob; exact rfl; first | exact ob1) | ((first | apply b_ | apply a_ | apply i_); exact z_; intro _) | ((first | apply p_ | apply JO_yes | apply GC_t); exact z_) | (apply n_; exact z_) | (apply GC_f; exact z_) | (apply GX_block_on; exact z_) | (apply c_; exact z_; all_goals intro _))
      refine GX_ex rfl rfl mem_ ?_
      rw [fidx_yes (by omega) hno hpk]
    · rw [Bool.not_eq_true] at hpk
      rw [hpk]
      repeat' (first | apply s_ | (apply JO_ob; exact rfl; first | exact ob1) | ((first | apply b_ | apply a_ | apply i_); exact z_; intro _) | ((first | apply p_ | apply JO_yes | apply GC_t); exact z_) | (apply n_; exact z_) | (apply GC_f; exact z_) | (apply GX_block_on; exact z_) | (apply c_; exact z_; all_goals intro _))
      refine GX_loop0 (k + 1) ⟨rfl, rfl, rfl, rfl, trivial⟩ (by omega) ⟨by omega, fun j hj => ?_⟩
      rcases Nat.lt_or_ge j k with h | h
      · exact hno j h
      · rw [show j = k by omega]; exact hpk
  · refine GX_ex rfl rfl mem_ ?_
    rw [fidx_no fun j hj => hno j (by omega)]

theorem c202 (v fv : Value) (xs : List Smp) (p : Smp → Bool) (w : World) (hA : Arr All w 3 encS v xs) (hp : Pass w fv (fun x => .agg (encS x).toArray) p) : Ex 202 [v, fv] w (.bool (xs.any p)) := by
  refine Rt_of Tryz.func202 rfl Tryz.ntmps202 rfl ?_
  repeat' (first | apply s_ | (apply JO_ob; exact rfl; first | exact ob1 | exact Ob_call rfl (fun w hw => c211 v fv xs p w (hw.arr (.head _) hA) (hp.keep (hw.kp mem_))) | exact Ob_cmp rfl rfl rfl) | ((first | apply b_ | apply a_ | apply i_); exact z_; intro _) | ((first | apply p_ | apply JO_yes | apply GC_t); exact z_) | (apply n_; exact z_) | (apply GC_f; exact z_) | (apply GX_block_on; exact z_))
  refine GX_ex rfl rfl mem_ ?_
  rw [fidx_any]

end Go.Proofs.YtkbaaikidhbfmaaGreat
/- Contracts: all, wider, Contains. No statement is proved here. -/
set_option linter.unusedVariables false
namespace Go.Proofs.YtkbaaikidhbfmaaGreat
open Go.RowKit
theorem Ob_load_ext {b0 : World} {R : Rgs} {H : Hp} {fr : Slots} {dst : Option Nat} {g : Option (Nat × Bool)} {ty : TypeId} {ps : String} {af : Array Edge} {G : Nat → Prop} {w1 : World} {t b off : Nat} {x : Operand} {v : Value} [TyOne t]
    (hx : ev fr x = some (.pointer (some ⟨b, off, none⟩))) (hr : (G, w1) ∈ R) (hG : G b) (hc : w1.cell? ⟨b, off, none⟩ = some v) : Ob b0 R H ⟨dst, .load t x, ty, ps, af, g⟩ fr v :=
  Ob_load hx fun w hw => .one (by rw [← hc]; exact World.cell?_of_block (w := w1) ((hw.rng _ hr).2 b hG (World.block_lt_of_cell? w1 ⟨b, off, none⟩ hc)))

theorem c120 (x : Int) (b : Nat) (fv : Value) (p : Int → Bool) (w : World) (hc : w.cell? ⟨b, 0, none⟩ = some fv) (hp : Pass w fv (fun x => .int .i64 x) p) : Ex 120 [.int .i64 x, .pointer (some ⟨b, 0, none⟩)] w (.bool (!p x)) := by
  refine Rt_of Tryz.func120 rfl Tryz.ntmps120 rfl ?_
  repeat' (first | apply s_ | (apply JO_ob; exact rfl; first | exact ob1 | exact Ob_load_ext rfl (.head _) trivial hc | exact Ob_callp rfl hp rfl rfl (fun w hw => hw.kp mem_)) | ((first | apply b_ | apply a_ | apply i_); exact z_; intro _) | ((first | apply p_ | apply JO_yes | apply GC_t); exact z_) | (apply n_; exact z_) | (apply GC_f; exact z_) | (apply GX_block_on; exact z_) | (apply c_; exact z_; all_goals intro _))
  (first | exact GX_ex rfl rfl mem_ rfl | exact GX_exc rfl rfl mem_ rfl mem_ rfl)

theorem c76 (v fv : Value) (xs : List Int) (p : Int → Bool) (w : World) (hA : Arr All w 1 encI v xs) (hp : Pass w fv (fun x => .int .i64 x) p) : Ex 76 [v, fv] w (.bool (xs.all p)) := by
  have hv1 := hp.v1
  refine Rt_of Tryz.func76 rfl Tryz.ntmps76 rfl ?_
  repeat' (first | apply s_ | (apply JO_ob; exact rfl; first | exact ob1 | exact Ob_makeFunc rfl | exact Ob_call rfl (fun w1 hw1 => c119 _ _ xs (fun x => !p x) w1 (hw1.arr (.head _) hA) ⟨_, [], _, rfl, inferInstance, fun x w2 k => c120 x _ fv p w2 (by rw [cell_blk ((k.block _ (hw1.lt (.head _))).trans (hw1.own _ (.head _)))]; rfl) (hp.keep ((hw1.kp mem_).trans k))⟩)) | ((first | apply b_ | apply a_ | apply i_); exact z_; intro _) | ((first | apply p_ | apply JO_yes | apply GC_t); exact z_) | (apply n_; exact z_) | (apply GC_f; exact z_) | (apply GX_block_on; exact z_))
  refine GX_ex rfl rfl mem_ ?_
  congr 1
  rw [List.all_eq_not_any_not]

theorem c204 (x : Int) (b : Nat) (fv : Value) (p : Int → Bool) (w : World) (hc : w.cell? ⟨b, 0, none⟩ = some fv) (hp : Pass w fv (fun x => .int .i64 x) p) : Ex 204 [.int .i64 x, .pointer (some ⟨b, 0, none⟩)] w (.bool (!p x)) := by
  refine Rt_of Tryz.func204 rfl Tryz.ntmps204 rfl ?_
  repeat' (first | apply s_ | (apply JO_ob; exact rfl; first | exact ob1 | exact Ob_load_ext rfl (.head _) trivial hc | exact Ob_callp rfl hp rfl rfl (fun w hw => hw.kp mem_)) | ((first | apply b_ | apply a_ | apply i_); exact z_; intro _) | ((first | apply p_ | apply JO_yes | apply GC_t); exact z_) | (apply n_; exact z_) | (apply GC_f; exact z_) | (apply GX_block_on; exact z_) | (apply c_; exact z_; all_goals intro _))
  (first | exact GX_ex rfl rfl mem_ rfl | exact GX_exc rfl rfl mem_ rfl mem_ rfl)

theorem c178 (v fv : Value) (xs : List Int) (p : Int → Bool) (w : World) (hA : Arr All w 1 encI v xs) (hp : Pass w fv (fun x => .int .i64 x) p) : Ex 178 [v, fv] w (.bool (xs.all p)) := by
  have hv1 := hp.v1
  refine Rt_of Tryz.func178 rfl Tryz.ntmps178 rfl ?_
  repeat' (first | apply s_ | (apply JO_ob; exact rfl; first | exact ob1 | exact Ob_makeFunc rfl | exact Ob_call rfl (fun w1 hw1 => c119 _ _ xs (fun x => !p x) w1 (hw1.arr (.head _) hA) ⟨_, [], _, rfl, inferInstance, fun x w2 k => c204 x _ fv p w2 (by rw [cell_blk ((k.block _ (hw1.lt (.head _))).trans (hw1.own _ (.head _)))]; rfl) (hp.keep ((hw1.kp mem_).trans k))⟩)) | ((first | apply b_ | apply a_ | apply i_); exact z_; intro _) | ((first | apply p_ | apply JO_yes | apply GC_t); exact z_) | (apply n_; exact z_) | (apply GC_f; exact z_) | (apply GX_block_on; exact z_))
  refine GX_ex rfl rfl mem_ ?_
  congr 1
  rw [List.all_eq_not_any_not]

theorem c207 (x : Int) (b : Nat) (fv : Value) (p : Int → Bool) (w : World) (hc : w.cell? ⟨b, 0, none⟩ = some fv) (hp : Pass w fv (fun x => .int .i64 x) p) : Ex 207 [.int .i64 x, .pointer (some ⟨b, 0, none⟩)] w (.bool (!p x)) := by
  refine Rt_of Tryz.func207 rfl Tryz.ntmps207 rfl ?_
  repeat' (first | apply s_ | (apply JO_ob; exact rfl; first | exact ob1 | exact Ob_load_ext rfl (.head _) trivial hc | exact Ob_callp rfl hp rfl rfl (fun w hw => hw.kp mem_)) | ((first | apply b_ | apply a_ | apply i_); exact z_; intro _) | ((first | apply p_ | apply JO_yes | apply GC_t); exact z_) | (apply n_; exact z_) | (apply GC_f; exact z_) | (apply GX_block_on; exact z_) | (apply c_; exact z_; all_goals intro _))
  (first | exact GX_ex rfl rfl mem_ rfl | exact GX_exc rfl rfl mem_ rfl mem_ rfl)

theorem c188 (v fv : Value) (xs : List Int) (p : Int → Bool) (w : World) (hA : Arr All w 1 encI v xs) (hp : Pass w fv (fun x => .int .i64 x) p) : Ex 188 [v, fv] w (.bool (xs.all p)) := by
  have hv1 := hp.v1
  refine Rt_of Tryz.func188 rfl Tryz.ntmps188 rfl ?_
  repeat' (first | apply s_ | (apply JO_ob; exact rfl; first | exact ob1 | exact Ob_makeFunc rfl | exact Ob_call rfl (fun w1 hw1 => c119 _ _ xs (fun x => !p x) w1 (hw1.arr (.head _) hA) ⟨_, [], _, rfl, inferInstance, fun x w2 k => c207 x _ fv p w2 (by rw [cell_blk ((k.block _ (hw1.lt (.head _))).trans (hw1.own _ (.head _)))]; rfl) (hp.keep ((hw1.kp mem_).trans k))⟩)) | ((first | apply b_ | apply a_ | apply i_); exact z_; intro _) | ((first | apply p_ | apply JO_yes | apply GC_t); exact z_) | (apply n_; exact z_) | (apply GC_f; exact z_) | (apply GX_block_on; exact z_))
  refine GX_ex rfl rfl mem_ ?_
  congr 1
  rw [List.all_eq_not_any_not]

theorem c192 (x : BV) (b : Nat) (fv : Value) (p : BV → Bool) (w : World) (hc : w.cell? ⟨b, 0, none⟩ = some fv) (hp : Pass w fv (fun x => .agg (encV x).toArray) p) : Ex 192 [.agg (encV x).toArray, .pointer (some ⟨b, 0, none⟩)] w (.bool (!p x)) := by
  refine Rt_of Tryz.func192 rfl Tryz.ntmps192 rfl ?_
  repeat' (first | apply s_ | (apply JO_ob; exact rfl; first | exact ob1 | exact Ob_load_ext rfl (.head _) trivial hc | exact Ob_callp rfl hp rfl rfl (fun w hw => hw.kp mem_)) | ((first | apply b_ | apply a_ | apply i_); exact z_; intro _) | ((first | apply p_ | apply JO_yes | apply GC_t); exact z_) | (apply n_; exact z_) | (apply GC_f; exact z_) | (apply GX_block_on; exact z_) | (apply c_; exact z_; all_goals intro _))
  (first | exact GX_ex rfl rfl mem_ rfl | exact GX_exc rfl rfl mem_ rfl mem_ rfl)

theorem c167 (v fv : Value) (xs : List BV) (p : BV → Bool) (w : World) (hA : Arr All w 4 encV v xs) (hp : Pass w fv (fun x => .agg (encV x).toArray) p) : Ex 167 [v, fv] w (.bool (xs.all p)) := by
  have hv1 := hp.v1
  refine Rt_of Tryz.func167 rfl Tryz.ntmps167 rfl ?_
  repeat' (first | apply s_ | (apply JO_ob; exact rfl; first | exact ob1 | exact Ob_makeFunc rfl | exact Ob_call rfl (fun w1 hw1 => c191 _ _ xs (fun x => !p x) w1 (hw1.arr (.head _) hA) ⟨_, [], _, rfl, inferInstance, fun x w2 k => c192 x _ fv p w2 (by rw [cell_blk ((k.block _ (hw1.lt (.head _))).trans (hw1.own _ (.head _)))]; rfl) (hp.keep ((hw1.kp mem_).trans k))⟩)) | ((first | apply b_ | apply a_ | apply i_); exact z_; intro _) | ((first | apply p_ | apply JO_yes | apply GC_t); exact z_) | (apply n_; exact z_) | (apply GC_f; exact z_) | (apply GX_block_on; exact z_))
  refine GX_ex rfl rfl mem_ ?_
  congr 1
  rw [List.all_eq_not_any_not]

theorem c195 (x : BS) (b : Nat) (fv : Value) (p : BS → Bool) (w : World) (hc : w.cell? ⟨b, 0, none⟩ = some fv) (hp : Pass w fv (fun x => .agg (encB x).toArray) p) : Ex 195 [.agg (encB x).toArray, .pointer (some ⟨b, 0, none⟩)] w (.bool (!p x)) := by
  refine Rt_of Tryz.func195 rfl Tryz.ntmps195 rfl ?_
  repeat' (first | apply s_ | (apply JO_ob; exact rfl; first | exact ob1 | exact Ob_load_ext rfl (.head _) trivial hc | exact Ob_callp rfl hp rfl rfl (fun w hw => hw.kp mem_)) | ((first | apply b_ | apply a_ | apply i_); exact z_; intro _) | ((first | apply p_ | apply JO_yes | apply GC_t); exact z_) | (apply n_; exact z_) | (apply GC_f; exact z_) | (apply GX_block_on; exact z_) | (apply c_; exact z_; all_goals intro _))
  (first | exact GX_ex rfl rfl mem_ rfl | exact GX_exc rfl rfl mem_ rfl mem_ rfl)

theorem c169 (v fv : Value) (xs : List BS) (p : BS → Bool) (w : World) (hA : Arr All w 3 encB v xs) (hp : Pass w fv (fun x => .agg (encB x).toArray) p) : Ex 169 [v, fv] w (.bool (xs.all p)) := by
  have hv1 := hp.v1
  refine Rt_of Tryz.func169 rfl Tryz.ntmps169 rfl ?_
  repeat' (first | apply s_ | (apply JO_ob; exact rfl; first | exact ob1 | exact Ob_makeFunc rfl | exact Ob_call rfl (fun w1 hw1 => c194 _ _ xs (fun x => !p x) w1 (hw1.arr (.head _) hA) ⟨_, [], _, rfl, inferInstance, fun x w2 k => c195 x _ fv p w2 (by rw [cell_blk ((k.block _ (hw1.lt (.head _))).trans (hw1.own _ (.head _)))]; rfl) (hp.keep ((hw1.kp mem_).trans k))⟩)) | ((first | apply b_ | apply a_ | apply i_); exact z_; intro _) | ((first | apply p_ | apply JO_yes | apply GC_t); exact z_) | (apply n_; exact z_) | (apply GC_f; exact z_) | (apply GX_block_on; exact z_))
  refine GX_ex rfl rfl mem_ ?_
  congr 1
  rw [List.all_eq_not_any_not]

theorem c201 (x : Rg) (b : Nat) (fv : Value) (p : Rg → Bool) (w : World) (hc : w.cell? ⟨b, 0, none⟩ = some fv) (hp : Pass w fv (fun x => .agg (encR x).toArray) p) : Ex 201 [.agg (encR x).toArray, .pointer (some ⟨b, 0, none⟩)] w (.bool (!p x)) := by
  refine Rt_of Tryz.func201 rfl Tryz.ntmps201 rfl ?_
  repeat' (first | apply s_ | (apply JO_ob; exact rfl; first | exact ob1 | exact Ob_load_ext rfl (.head _) trivial hc | exact Ob_callp rfl hp rfl rfl (fun w hw => hw.kp mem_)) | ((first | apply b_ | apply a_ | apply i_); exact z_; intro _) | ((first | apply p_ | apply JO_yes | apply GC_t); exact z_) | (apply n_; exact z_) | (apply GC_f; exact z_) | (apply GX_block_on; exact z_) | (apply c_; exact z_; all_goals intro _))
  (first | exact GX_ex rfl rfl mem_ rfl | exact GX_exc rfl rfl mem_ rfl mem_ rfl)

theorem c175 (v fv : Value) (xs : List Rg) (p : Rg → Bool) (w : World) (hA : Arr All w 2 encR v xs) (hp : Pass w fv (fun x => .agg (encR x).toArray) p) : Ex 175 [v, fv] w (.bool (xs.all p)) := by
  have hv1 := hp.v1
  refine Rt_of Tryz.func175 rfl Tryz.ntmps175 rfl ?_
  repeat' (first | apply s_ | (apply JO_ob; exact rfl; first | exact ob1 | exact Ob_makeFunc rfl | exact Ob_call rfl (fun w1 hw1 => c200 _ _ xs (fun x => !p x) w1 (hw1.arr (.head _) hA) ⟨_, [], _, rfl, inferInstance, fun x w2 k => c201 x _ fv p w2 (by rw [cell_blk ((k.block _ (hw1.lt (.head _))).trans (hw1.own _ (.head _)))]; rfl) (hp.keep ((hw1.kp mem_).trans k))⟩)) | ((first | apply b_ | apply a_ | apply i_); exact z_; intro _) | ((first | apply p_ | apply JO_yes | apply GC_t); exact z_) | (apply n_; exact z_) | (apply GC_f; exact z_) | (apply GX_block_on; exact z_))
  refine GX_ex rfl rfl mem_ ?_
  congr 1
  rw [List.all_eq_not_any_not]

theorem c203 (x : Smp) (b : Nat) (fv : Value) (p : Smp → Bool) (w : World) (hc : w.cell? ⟨b, 0, none⟩ = some fv) (hp : Pass w fv (fun x => .agg (encS x).toArray) p) : Ex 203 [.agg (encS x).toArray, .pointer (some ⟨b, 0, none⟩)] w (.bool (!p x)) := by
  refine Rt_of Tryz.func203 rfl Tryz.ntmps203 rfl ?_
  repeat' (first | apply s_ | (apply JO_ob; exact rfl; first | exact ob1 | exact Ob_load_ext rfl (.head _) trivial hc | exact Ob_callp rfl hp rfl rfl (fun w hw => hw.kp mem_)) | ((first | apply b_ | apply a_ | apply i_); exact z_; intro _) | ((first | apply p_ | apply JO_yes | apply GC_t); exact z_) | (apply n_; exact z_) | (apply GC_f; exact z_) | (apply GX_block_on; exact z_) | (apply c_; exact z_; all_goals intro _))
  (first | exact GX_ex rfl rfl mem_ rfl | exact GX_exc rfl rfl mem_ rfl mem_ rfl)

theorem c177 (v fv : Value) (xs : List Smp) (p : Smp → Bool) (w : World) (hA : Arr All w 3 encS v xs) (hp : Pass w fv (fun x => .agg (encS x).toArray) p) : Ex 177 [v, fv] w (.bool (xs.all p)) := by
  have hv1 := hp.v1
  refine Rt_of Tryz.func177 rfl Tryz.ntmps177 rfl ?_
  repeat' (first | apply s_ | (apply JO_ob; exact rfl; first | exact ob1 | exact Ob_makeFunc rfl | exact Ob_call rfl (fun w1 hw1 => c202 _ _ xs (fun x => !p x) w1 (hw1.arr (.head _) hA) ⟨_, [], _, rfl, inferInstance, fun x w2 k => c203 x _ fv p w2 (by rw [cell_blk ((k.block _ (hw1.lt (.head _))).trans (hw1.own _ (.head _)))]; rfl) (hp.keep ((hw1.kp mem_).trans k))⟩)) | ((first | apply b_ | apply a_ | apply i_); exact z_; intro _) | ((first | apply p_ | apply JO_yes | apply GC_t); exact z_) | (apply n_; exact z_) | (apply GC_f; exact z_) | (apply GX_block_on; exact z_))
  refine GX_ex rfl rfl mem_ ?_
  congr 1
  rw [List.all_eq_not_any_not]

end Go.Proofs.YtkbaaikidhbfmaaGreat
/- Contracts: wider, Index, Contains, lists copied. No statement is proved here. -/
set_option linter.unusedVariables false
namespace Go.Proofs.YtkbaaikidhbfmaaGreat
open Go.RowKit

theorem c126 (a b c : Int) (w : World) : Ex 126 [.agg #[.int .i64 a, .int .i64 b], .int .i64 c] w (.agg #[.int .i64 (min a c), .int .i64 (max b c)]) := by
  refine Rt_of Tryz.func126 rfl Tryz.ntmps126 rfl ?_
  repeat' (first | apply s_ | ((first | apply JO_ob | apply GD_ex | apply GL_ex); exact rfl; first | exact ob1 | exact Ob_call rfl (fun w hw => c81 _ [a, c] w (hw.litArr [a, c] (fun _ => rfl) mem_ rfl rfl rfl rfl) (Nat.succ_pos _))) | ((first | apply b_ | apply a_ | apply i_); exact z_; intro _) | ((first | apply p_ | apply JO_yes | apply GC_t); exact z_) | (apply n_; exact z_) | (apply GC_f; exact z_) | (apply GX_block_on; exact z_) | refine GC_drawB (id := 1) [0, 1, 2] [5, 6, 7, 8] [3, 4, 9, 10] _ (by kernel_rfl) (List.Sublist.refl _) ?_ | ((first | apply GD_at | apply GL_at | apply GD_no | apply GL_no); exact rfl) | apply DFin_0 | (apply q1_; exact z_) | (apply q0_; exact z_) | (apply q2_; exact z_) | (apply c_; exact z_; all_goals intro _) | (apply g_; exact z_; all_goals intro _))
  (first | exact GX_ex rfl rfl mem_ rfl | exact GX_exc rfl rfl mem_ rfl mem_ rfl)

theorem c150 (a b c : Int) (w : World) : Ex 150 [.agg #[.int .i64 a, .int .i64 b], .int .i64 c] w (.agg #[.int .i64 (min a c), .int .i64 (max b c)]) := by
  refine Rt_of Tryz.func150 rfl Tryz.ntmps150 rfl ?_
  repeat' (first | apply s_ | ((first | apply JO_ob | apply GD_ex | apply GL_ex); exact rfl; first | exact ob1 | exact Ob_call rfl (fun w hw => c180 _ [a, c] w (hw.litArr [a, c] (fun _ => rfl) mem_ rfl rfl rfl rfl) (Nat.succ_pos _))) | ((first | apply b_ | apply a_ | apply i_); exact z_; intro _) | ((first | apply p_ | apply JO_yes | apply GC_t); exact z_) | (apply n_; exact z_) | (apply GC_f; exact z_) | (apply GX_block_on; exact z_) | refine GC_drawB (id := 1) [0, 1, 2] [5, 6, 7, 8] [3, 4, 9, 10] _ (by kernel_rfl) (List.Sublist.refl _) ?_ | ((first | apply GD_at | apply GL_at | apply GD_no | apply GL_no); exact rfl) | apply DFin_0 | (apply q1_; exact z_) | (apply q0_; exact z_) | (apply q2_; exact z_) | (apply c_; exact z_; all_goals intro _) | (apply g_; exact z_; all_goals intro _))
  (first | exact GX_ex rfl rfl mem_ rfl | exact GX_exc rfl rfl mem_ rfl mem_ rfl)

theorem c153 (a b c : Int) (w : World) : Ex 153 [.agg #[.int .i64 a, .int .i64 b], .int .i64 c] w (.agg #[.int .i64 (min a c), .int .i64 (max b c)]) := by
  refine Rt_of Tryz.func153 rfl Tryz.ntmps153 rfl ?_
  repeat' (first | apply s_ | ((first | apply JO_ob | apply GD_ex | apply GL_ex); exact rfl; first | exact ob1 | exact Ob_call rfl (fun w hw => c171 _ [a, c] w (hw.litArr [a, c] (fun _ => rfl) mem_ rfl rfl rfl rfl) (Nat.succ_pos _))) | ((first | apply b_ | apply a_ | apply i_); exact z_; intro _) | ((first | apply p_ | apply JO_yes | apply GC_t); exact z_) | (apply n_; exact z_) | (apply GC_f; exact z_) | (apply GX_block_on; exact z_) | refine GC_drawB (id := 1) [0, 1, 2] [5, 6, 7, 8] [3, 4, 9, 10] _ (by kernel_rfl) (List.Sublist.refl _) ?_ | ((first | apply GD_at | apply GL_at | apply GD_no | apply GL_no); exact rfl) | apply DFin_0 | (apply q1_; exact z_) | (apply q0_; exact z_) | (apply q2_; exact z_) | (apply c_; exact z_; all_goals intro _) | (apply g_; exact z_; all_goals intro _))
  (first | exact GX_ex rfl rfl mem_ rfl | exact GX_exc rfl rfl mem_ rfl mem_ rfl)

theorem c206 (v : Value) (xs : List Int) (a : Int) (w : World) (hA : Arr All w 1 encI v xs) : Ex 206 [v, .int .i64 a] w (.int .i64 (fidx (fun x => decide (a = x)) xs)) := by
  have hb := hA.bound
  refine Rt_of Tryz.func206 rfl Tryz.ntmps206 rfl ?_
  repeat' (first | apply s_ | (apply JO_ob; exact rfl; first | exact ob1) | ((first | apply b_ | apply a_ | apply i_); exact z_; intro _) | ((first | apply p_ | apply JO_yes | apply GC_t); exact z_) | (apply n_; exact z_) | (apply GC_f; exact z_) | (apply GX_block_on; exact z_) | (apply c_; exact z_; all_goals intro _))
  refine GC_loop0 (fun k => xs.length - k) (fun k => [(0, v), (1, .int .i64 a), (7, .int .i64 (xs.length : Int)), (8, .int .i64 (k : Int))]) (fun k => k ≤ xs.length ∧ ∀ j, j < k → decide (a = nth xs j) = false) 0 ⟨rfl, rfl, rfl, rfl, trivial⟩ ⟨by omega, fun j hj => by omega⟩ ?_
  rintro k ⟨hk, hno⟩
  repeat' (first | apply s_ | (apply JO_ob; exact rfl; first | exact ob1) | ((first | apply b_ | apply a_ | apply i_); exact z_; intro _) | ((first | apply p_ | apply JO_yes | apply GC_t); exact z_) | (apply n_; exact z_) | (apply GC_f; exact z_) | (apply GX_block_on; exact z_) | (apply c_; exact z_; all_goals intro _))
  · refine GX_ex rfl rfl mem_ ?_
    rw [fidx_yes (by omega) hno (by simp; assumption)]
  · refine GX_loop0 (k + 1) ⟨rfl, rfl, rfl, rfl, trivial⟩ (by omega) ⟨by omega, fun j hj => ?_⟩
    rcases Nat.lt_or_ge j k with h | h
    · exact hno j h
    · rw [show j = k by omega]; simp; assumption
  · refine GX_ex rfl rfl mem_ ?_
    rw [fidx_no fun j hj => hno j (by omega)]

theorem c184 (v : Value) (xs : List Int) (a : Int) (w : World) (hA : Arr All w 1 encI v xs) : Ex 184 [v, .int .i64 a] w (.bool (xs.any fun x => decide (a = x))) := by
  have hv1 := hA.v1
  refine Rt_of Tryz.func184 rfl Tryz.ntmps184 rfl ?_
  repeat' (first | apply s_ | (apply JO_ob; exact rfl; first | exact ob1 | exact Ob_call rfl (fun w hw => c206 v xs a w (hw.arr (.head _) hA)) | exact Ob_cmp rfl rfl rfl) | ((first | apply b_ | apply a_ | apply i_); exact z_; intro _) | ((first | apply p_ | apply JO_yes | apply GC_t); exact z_) | (apply n_; exact z_) | (apply GC_f; exact z_) | (apply GX_block_on; exact z_))
  refine GX_ex rfl rfl mem_ ?_
  rw [fidx_any]

/-- A slice of ints in new memory. -/
abbrev NewInts (w : World) (xs : List Int) : Value → World → Prop := fun r w' => Keep w w' ∧ Arr (New w) w' 1 encI r xs

theorem c34 (v : Value) (xs : List Int) (w : World) (hA : Arr All w 1 encI v xs) (hl : xs.length ≤ 1000000) : Rt 34 [v] w (NewInts w xs) := by
  have hv1 := hA.v1
  refine Rt_of Tryz.func34 rfl Tryz.ntmps34 rfl ?_
  repeat' (first | apply s_ | (apply JO_ob; exact rfl; first | exact ob1) | ((first | apply b_ | apply a_ | apply i_); exact z_; intro _) | ((first | apply p_ | apply JO_yes | apply GC_t); exact z_) | (apply n_; exact z_) | (apply GC_f; exact z_) | (apply GX_block_on; exact z_) | (apply c_; exact z_; all_goals intro _))
  refine JO_append (xs := []) (sp := []) [] rfl rfl rfl (Own.lit [] (fun _ => rfl) rfl rfl) (List.Perm.refl _) (fun w hw => hw.slArr (.head _) hA (by decide)) (allOne_flat (fun _ => rfl) _) (by simp; omega) ?_
  intro v' sp' ho
  have hv1' := ho.v1
  repeat' (first | apply s_ | (apply JO_ob; exact rfl; first | exact ob1) | ((first | apply b_ | apply a_ | apply i_); exact z_; intro _) | ((first | apply p_ | apply JO_yes | apply GC_t); exact z_) | (apply n_; exact z_) | (apply GC_f; exact z_) | (apply GX_block_on; exact z_) | (apply c_; exact z_; all_goals intro _))
  refine GX_ret1 rfl rfl fun w' hw' => ⟨hw'.kp mem_, ho.ret (by decide) hw' mem_⟩

theorem c112 (v : Value) (xs : List Int) (w : World) (hA : Arr All w 1 encI v xs) (hl : xs.length ≤ 1000000) : Rt 112 [v] w (NewInts w xs) := by
  have hv1 := hA.v1
  refine Rt_of Tryz.func112 rfl Tryz.ntmps112 rfl ?_
  repeat' (first | apply s_ | (apply JO_ob; exact rfl; first | exact ob1) | ((first | apply b_ | apply a_ | apply i_); exact z_; intro _) | ((first | apply p_ | apply JO_yes | apply GC_t); exact z_) | (apply n_; exact z_) | (apply GC_f; exact z_) | (apply GX_block_on; exact z_) | (apply c_; exact z_; all_goals intro _))
  refine JO_append (xs := []) (sp := []) [] rfl rfl rfl (Own.lit [] (fun _ => rfl) rfl rfl) (List.Perm.refl _) (fun w hw => hw.slArr (.head _) hA (by decide)) (allOne_flat (fun _ => rfl) _) (by simp; omega) ?_
  intro v' sp' ho
  have hv1' := ho.v1
  repeat' (first | apply s_ | (apply JO_ob; exact rfl; first | exact ob1) | ((first | apply b_ | apply a_ | apply i_); exact z_; intro _) | ((first | apply p_ | apply JO_yes | apply GC_t); exact z_) | (apply n_; exact z_) | (apply GC_f; exact z_) | (apply GX_block_on; exact z_) | (apply c_; exact z_; all_goals intro _))
  refine GX_ret1 rfl rfl fun w' hw' => ⟨hw'.kp mem_, ho.ret (by decide) hw' mem_⟩

end Go.Proofs.YtkbaaikidhbfmaaGreat
/- Contracts: thin, the program's yard. No statement is proved here. -/
set_option linter.unusedVariables false
namespace Go.Proofs.YtkbaaikidhbfmaaGreat
open Go.RowKit
/-- A yard in memory. -/
structure YdA (G : Nat → Prop) (w : World) (a b c : Value) (hs : List Value) (y : Yd) : Prop where
  fields : Arr G w 2 encR a y.fields
  vats : Nest G w b hs y.vats
  smps : Arr G w 3 encS c y.smps
def thinY (y : Yd) : Bool := decide (y.fields.length ≤ 30) && decide (y.vats.length ≤ 30) && decide (y.smps.length ≤ 30) && y.vats.all fun l => decide (l.length ≤ 30)
theorem c65 (w : World) (a b c : Value) (hs : List Value) (y : Yd) (h : YdA All w a b c hs y) : Ex 65 [.agg #[a, b, c]] w (.bool (thinY y)) := by
  have h1 := h.fields
  have h2 := h.vats.arr
  have h3 := h.smps
  have b1 := h1.bound
  have b2 := h2.bound
  have b3 := h3.bound
  have l2 := h.vats.len
  have i1 := h1.v1
  have i2 := h2.v1
  have i3 := h3.v1
  refine Rt_of Tryz.func65 rfl Tryz.ntmps65 rfl ?_
  repeat' (first | apply s_ | (apply JO_ob; exact rfl; first | exact ob1) | ((first | apply b_ | apply a_ | apply i_); exact z_; intro _) | ((first | apply p_ | apply JO_yes | apply GC_t); exact z_) | (apply n_; exact z_) | (apply GC_f; exact z_) | (apply GX_block_on; exact z_) | (apply c_; exact z_; all_goals intro _))
  · refine GX_ex rfl rfl mem_ ?_
    rw [show thinY y = false by simp [thinY]; omega]
  · refine GX_ex rfl rfl mem_ ?_
    rw [show thinY y = false by simp [thinY]; omega]
  · refine GX_ex rfl rfl mem_ ?_
    rw [show thinY y = false by simp [thinY]; omega]
  rename_i bx n1 n2 n3
  refine GC_loop0 (fun k => y.vats.length - k) (fun k => [(1, .pointer (some ⟨bx, 0, none⟩)), (3, .int .i64 (k : Int))]) (fun k => k ≤ y.vats.length ∧ ∀ j, j < k → (nth y.vats j).length ≤ 30) 0 ⟨rfl, rfl, trivial⟩ ⟨by omega, fun j hj => by omega⟩ ?_
  rintro k ⟨hk, hno⟩
  by_cases hlt : k < y.vats.length
  · have hrow := h.vats.row k hlt
    have hrl := hrow.bound
    repeat' (first | apply s_ | (apply JO_ob; exact rfl; first | exact ob1) | ((first | apply b_ | apply a_ | apply i_); exact z_; intro _) | ((first | apply p_ | apply JO_yes | apply GC_t); exact z_) | (apply n_; exact z_) | (apply GC_f; exact z_) | (apply GX_block_on; exact z_) | (apply c_; exact z_; all_goals intro _))
    · refine GX_ex rfl rfl mem_ ?_
      have : thinY y = false := by
        have hm : nth y.vats k ∈ y.vats := by simp [nth, hlt]
        simp [thinY]
        intros
        exact ⟨_, hm, by omega⟩
      rw [this]
    · refine GX_loop0 (k + 1) ⟨rfl, rfl, trivial⟩ (by omega) ⟨by omega, fun j hj => ?_⟩
      rcases Nat.lt_or_ge j k with h | h
      · exact hno j h
      · rw [show j = k by omega]; omega
  · repeat' (first | apply s_ | (apply JO_ob; exact rfl; first | exact ob1) | ((first | apply b_ | apply a_ | apply i_); exact z_; intro _) | ((first | apply p_ | apply JO_yes | apply GC_t); exact z_) | (apply n_; exact z_) | (apply GC_f; exact z_) | (apply GX_block_on; exact z_) | (apply c_; exact z_; all_goals intro _))
    refine GX_ex rfl rfl mem_ ?_
    have : thinY y = true := by
      simp [thinY]
      refine ⟨by omega, fun x hx => ?_⟩
      obtain ⟨j, hj, rfl⟩ := List.getElem_of_mem hx
      have := hno j (by omega)
      simpa [nth, hj] using this
    rw [this]
end Go.Proofs.YtkbaaikidhbfmaaGreat
/- Contracts: the program's yard. No statement is proved here. -/
set_option linter.unusedVariables false
namespace Go.Proofs.YtkbaaikidhbfmaaGreat
open Go.RowKit
theorem c60 (w : World) (a b c : Value) (hs : List Value) (y : Yd) (h : YdA All w a b c hs y) (ht : thinY y = true) :
    Rt 60 [.agg #[a, b, c]] w fun v w' => Keep w w' ∧ ∃ a' b' c' hs', v = .agg #[a', b', c'] ∧ YdA (New w) w' a' b' c' hs' y := by
  have h1 := h.fields
  have h2 := h.vats.arr
  have h3 := h.smps
  have l2 := h.vats.len
  have i1 := h1.v1
  have i2 := h2.v1
  have i3 := h3.v1
  simp only [thinY, Bool.and_eq_true, decide_eq_true_eq, List.all_eq_true] at ht
  obtain ⟨⟨⟨t1, t2⟩, t3⟩, t4⟩ := ht
  refine Rt_of Tryz.func60 rfl Tryz.ntmps60 rfl ?_
  repeat' (first | apply s_ | ((first | apply JO_ob | apply GD_ex | apply GL_ex); exact rfl; first | exact ob1) | ((first | apply b_ | apply a_ | apply i_); exact z_; intro _) | ((first | apply p_ | apply JO_yes | apply GC_t); exact z_) | (apply n_; exact z_) | (apply GC_f; exact z_) | (apply GX_block_on; exact z_) | refine GC_drawB (id := 5) [2, 3, 4, 5, 6, 7] [0, 1] [8, 9, 10, 11] _ (by kernel_rfl) (List.Sublist.refl _) ?_ | refine GC_drawB (id := 9) [2, 3, 4, 5, 6] [0, 1] [7, 8, 9, 10, 11] _ (by kernel_rfl) (List.Sublist.refl _) ?_ | refine GC_drawB (id := 13) [2, 3, 4, 5, 6, 7, 8, 9, 10, 11, 12, 13, 14, 15] [0, 1] [16, 17, 18, 19] _ (by kernel_rfl) (List.Sublist.refl _) ?_ | ((first | apply GD_at | apply GL_at | apply GD_no | apply GL_no); exact rfl) | apply DFin_0 | (apply q1_; exact z_) | (apply q0_; exact z_) | (apply q2_; exact z_) | (apply c_; exact z_; all_goals intro _) | (apply g_; exact z_; all_goals intro _))
  rename_i p1 p2 p3
  refine GC_loop (α := Nat × Value × List Value) (fun s => y.fields.length - s.1) (fun s => [(1, .pointer (some ⟨p1, 0, none⟩)), (2, .pointer (some ⟨p2, 0, none⟩)), (3, .pointer (some ⟨p3, 0, none⟩)), (4, .int .i64 (s.1 : Int))]) (fun _ => [((fun _ => True), w)])
    (fun s => (p3, .cells #[s.2.1, .slice none 0 0, .slice none 0 0] 45) :: (p2, .cells #[.slice none 0 0, .slice none 0 0, .slice none 0 0] 45) :: (p1, .cells #[a, b, c] 26) :: rowH s.2.1 80 ((y.fields.take s.1).flatMap encR ++ s.2.2))
    (fun s => s.1 ≤ y.fields.length ∧ Own 2 encR s.2.1 (y.fields.take s.1) s.2.2) (0, .slice none 0 0, []) ⟨rfl, rfl, rfl, rfl, trivial⟩ ⟨Nat.zero_le _, Own.nil fun _ => rfl⟩ (fun w hw => hw) ?_
  rintro ⟨k, v1, s1⟩ ⟨hk, ho1⟩
  simp only at hk ho1 ⊢
  have j1 := ho1.v1
  repeat' (first | apply s_ | ((first | apply JO_ob | apply GD_ex | apply GL_ex); exact rfl; first | exact ob1 | exact Ob_call rfl (fun w hw => c111 _ _ w)) | ((first | apply b_ | apply a_ | apply i_); exact z_; intro _) | ((first | apply p_ | apply JO_yes | apply GC_t); exact z_) | (apply n_; exact z_) | (apply GC_f; exact z_) | (apply GX_block_on; exact z_) | refine GC_drawB (id := 5) [2, 3, 4, 5, 6, 7] [0, 1] [8, 9, 10, 11] _ (by kernel_rfl) (List.Sublist.refl _) ?_ | refine GC_drawB (id := 9) [2, 3, 4, 5, 6] [0, 1] [7, 8, 9, 10, 11] _ (by kernel_rfl) (List.Sublist.refl _) ?_ | refine GC_drawB (id := 13) [2, 3, 4, 5, 6, 7, 8, 9, 10, 11, 12, 13, 14, 15] [0, 1] [16, 17, 18, 19] _ (by kernel_rfl) (List.Sublist.refl _) ?_ | ((first | apply GD_at | apply GL_at | apply GD_no | apply GL_no); exact rfl) | apply DFin_0 | (apply q1_; exact z_) | (apply q0_; exact z_) | (apply q2_; exact z_) | (apply c_; exact z_; all_goals intro _) | (apply g_; exact z_; all_goals intro _))
  · refine JO_append (xs := y.fields.take k) (ys := [nth y.fields k]) [_, _, _, _] rfl rfl rfl ho1 (List.Perm.refl _) (fun w hw => hw.slOwn mem_ rfl) rfl (by simp; omega) ?_
    intro v2 s2 ho2
    have j2 := ho2.v1
    repeat' (first | apply s_ | ((first | apply JO_ob | apply GD_ex | apply GL_ex); exact rfl; first | exact ob1) | ((first | apply b_ | apply a_ | apply i_); exact z_; intro _) | ((first | apply p_ | apply JO_yes | apply GC_t); exact z_) | (apply n_; exact z_) | (apply GC_f; exact z_) | (apply GX_block_on; exact z_) | refine GC_drawB (id := 5) [2, 3, 4, 5, 6, 7] [0, 1] [8, 9, 10, 11] _ (by kernel_rfl) (List.Sublist.refl _) ?_ | refine GC_drawB (id := 9) [2, 3, 4, 5, 6] [0, 1] [7, 8, 9, 10, 11] _ (by kernel_rfl) (List.Sublist.refl _) ?_ | refine GC_drawB (id := 13) [2, 3, 4, 5, 6, 7, 8, 9, 10, 11, 12, 13, 14, 15] [0, 1] [16, 17, 18, 19] _ (by kernel_rfl) (List.Sublist.refl _) ?_ | ((first | apply GD_at | apply GL_at | apply GD_no | apply GL_no); exact rfl) | apply DFin_0 | (apply q1_; exact z_) | (apply q0_; exact z_) | (apply q2_; exact z_) | (apply c_; exact z_; all_goals intro _) | (apply g_; exact z_; all_goals intro _))
    have hkl : k < y.fields.length := by omega
    rw [← take_snoc hkl] at ho2
    rw [← take_snoc hkl]
    exact GX_loop (k + 1, v2, s2) ⟨rfl, rfl, rfl, rfl, trivial⟩ (by simp only; omega) ⟨by simp only; omega, ho2⟩ fun w hw => hw.weak (fun r h => h) (List.Sublist.cons _ (List.Sublist.refl _))
  have hkl : k = y.fields.length := by omega
  subst hkl
  rw [List.take_length] at ho1 ⊢
  refine GC_freeze (A := [(p3, .cells #[v1, .slice none 0 0, .slice none 0 0] 45), (p2, .cells #[.slice none 0 0, .slice none 0 0, .slice none 0 0] 45), (p1, .cells #[a, b, c] 26)]) ho1 (by decide) ?_
  intro G1 w1 hF hG1
  let Hf : Value → List Value → List Value → Hp := fun v2 hs2 s2 => (p3, .cells #[v1, v2, .slice none 0 0] 45) :: (p2, .cells #[.slice none 0 0, .slice none 0 0, .slice none 0 0] 45) :: (p1, .cells #[a, b, c] 26) :: rowH v2 33 (hs2.flatMap encO ++ s2)
  refine GC_loopw (α := Nat × Value × List Value × List Value × World) (fun s => y.vats.length - s.1) (fun s => [(1, .pointer (some ⟨p1, 0, none⟩)), (2, .pointer (some ⟨p2, 0, none⟩)), (3, .pointer (some ⟨p3, 0, none⟩)), (5, .int .i64 (s.1 : Int))])
    (fun s => [(OffN w (Hf s.2.1 s.2.2.1 s.2.2.2.1), s.2.2.2.2), (G1, w1), ((fun _ => True), w)]) (fun s => Hf s.2.1 s.2.2.1 s.2.2.2.1)
    (fun s => s.1 ≤ y.vats.length ∧ Own 1 encO s.2.1 s.2.2.1 s.2.2.2.1 ∧ s.2.2.1.length = s.1 ∧ ∀ i, i < s.1 → Arr (OffN w (Hf s.2.1 s.2.2.1 s.2.2.2.1)) s.2.2.2.2 1 encI (nth s.2.2.1 i) (nth y.vats i)) ?_ ?_
  · intro u hu
    exact ⟨(0, .slice none 0 0, [], [], u), ⟨rfl, rfl, rfl, rfl, trivial⟩, ⟨Nat.zero_le _, Own.nil fun _ => rfl, rfl, fun i hi => absurd hi (Nat.not_lt_zero i)⟩, hu.offN⟩
  rintro ⟨k, v2, hs2, s2, u⟩ ⟨hk, ho2, hl2, hrows⟩
  simp only at hk ho2 hl2 hrows ⊢
  have j2 := ho2.v1
  by_cases hlt : k < y.vats.length
  · have hrow := h.vats.row k hlt
    have hrl : (nth y.vats k).length ≤ 30 := t4 _ (by simp [nth, hlt])
    have ir := hrow.v1
    simp only [Hf]
    repeat' (first | apply s_ | ((first | apply JO_ob | apply GD_ex | apply GL_ex); exact rfl; first | exact ob1) | ((first | apply b_ | apply a_ | apply i_); exact z_; intro _) | ((first | apply p_ | apply JO_yes | apply GC_t); exact z_) | (apply n_; exact z_) | (apply GC_f; exact z_) | (apply GX_block_on; exact z_) | refine GC_drawB (id := 5) [2, 3, 4, 5, 6, 7] [0, 1] [8, 9, 10, 11] _ (by kernel_rfl) (List.Sublist.refl _) ?_ | refine GC_drawB (id := 9) [2, 3, 4, 5, 6] [0, 1] [7, 8, 9, 10, 11] _ (by kernel_rfl) (List.Sublist.refl _) ?_ | refine GC_drawB (id := 13) [2, 3, 4, 5, 6, 7, 8, 9, 10, 11, 12, 13, 14, 15] [0, 1] [16, 17, 18, 19] _ (by kernel_rfl) (List.Sublist.refl _) ?_ | ((first | apply GD_at | apply GL_at | apply GD_no | apply GL_no); exact rfl) | apply DFin_0 | (apply q1_; exact z_) | (apply q0_; exact z_) | (apply q2_; exact z_) | (apply c_; exact z_; all_goals intro _) | (apply g_; exact z_; all_goals intro _))
    refine JO_call (S := fun w0 r w' => Arr (New w0) w' 1 encI r (nth y.vats k)) rfl rfl (fun w5 hw5 => c112 _ _ w5 (hw5.arr mem_ hrow) (by omega)) ?_
    intro r u0 u1 hu0 hu1 hk01 hS
    have ir2 := hS.v1
    repeat' (first | apply s_ | ((first | apply JO_ob | apply GD_ex | apply GL_ex); exact rfl; first | exact ob1) | ((first | apply b_ | apply a_ | apply i_); exact z_; intro _) | ((first | apply p_ | apply JO_yes | apply GC_t); exact z_) | (apply n_; exact z_) | (apply GC_f; exact z_) | (apply GX_block_on; exact z_) | refine GC_drawB (id := 5) [2, 3, 4, 5, 6, 7] [0, 1] [8, 9, 10, 11] _ (by kernel_rfl) (List.Sublist.refl _) ?_ | refine GC_drawB (id := 9) [2, 3, 4, 5, 6] [0, 1] [7, 8, 9, 10, 11] _ (by kernel_rfl) (List.Sublist.refl _) ?_ | refine GC_drawB (id := 13) [2, 3, 4, 5, 6, 7, 8, 9, 10, 11, 12, 13, 14, 15] [0, 1] [16, 17, 18, 19] _ (by kernel_rfl) (List.Sublist.refl _) ?_ | ((first | apply GD_at | apply GL_at | apply GD_no | apply GL_no); exact rfl) | apply DFin_0 | (apply q1_; exact z_) | (apply q0_; exact z_) | (apply q2_; exact z_) | (apply c_; exact z_; all_goals intro _) | (apply g_; exact z_; all_goals intro _))
    refine JO_append (xs := hs2) (ys := [r]) [_, _, _, _] rfl rfl rfl ho2 (List.Perm.refl _) (fun w hw => hw.slOwn mem_ rfl) (by simp [encO, ir2.o]) (by simp; omega) ?_
    intro v3 s3 ho3
    have j3 := ho3.v1
    repeat' (first | apply s_ | ((first | apply JO_ob | apply GD_ex | apply GL_ex); exact rfl; first | exact ob1) | ((first | apply b_ | apply a_ | apply i_); exact z_; intro _) | ((first | apply p_ | apply JO_yes | apply GC_t); exact z_) | (apply n_; exact z_) | (apply GC_f; exact z_) | (apply GX_block_on; exact z_) | refine GC_drawB (id := 5) [2, 3, 4, 5, 6, 7] [0, 1] [8, 9, 10, 11] _ (by kernel_rfl) (List.Sublist.refl _) ?_ | refine GC_drawB (id := 9) [2, 3, 4, 5, 6] [0, 1] [7, 8, 9, 10, 11] _ (by kernel_rfl) (List.Sublist.refl _) ?_ | refine GC_drawB (id := 13) [2, 3, 4, 5, 6, 7, 8, 9, 10, 11, 12, 13, 14, 15] [0, 1] [16, 17, 18, 19] _ (by kernel_rfl) (List.Sublist.refl _) ?_ | ((first | apply GD_at | apply GL_at | apply GD_no | apply GL_no); exact rfl) | apply DFin_0 | (apply q1_; exact z_) | (apply q0_; exact z_) | (apply q2_; exact z_) | (apply c_; exact z_; all_goals intro _) | (apply g_; exact z_; all_goals intro _))
    refine GX_loopw fun w5 hw5 => ?_
    have hw6 := hw5.weak (R := _) (H := Hf v3 (hs2 ++ [r]) s3) (fun r h => h) (List.Sublist.cons _ (List.Sublist.refl _))
    refine ⟨(k + 1, v3, hs2 ++ [r], s3, w5), ⟨rfl, rfl, rfl, rfl, trivial⟩, (by simp only; omega), ⟨by simp only; omega, ho3, by simp [hl2], fun i hi => ?_⟩, hw6.offN.weak (fun r h => ?_) (List.Sublist.refl _)⟩
    · rcases Nat.lt_or_ge i k with hik | hik
      · rw [nth_app_l (by omega)]
        exact hw6.toOff (.tail _ (.head _)) (fun b hb => hb.1) (hrows i hik)
      · have e : i = k := by simp only at hi; omega
        subst e
        rw [nth_app_last hl2.symm]
        exact hw6.toOff (.head _) (fun b hb => Nat.le_trans hu0.b0le hb) hS
    · simp only [List.mem_cons, List.not_mem_nil, or_false] at h ⊢
      rcases h with h | h | h
      · exact .inl h
      · exact .inr (.inr (.inr (.inl h)))
      · exact .inr (.inr (.inr (.inr h)))
  · simp only [Hf]
    repeat' (first | apply s_ | ((first | apply JO_ob | apply GD_ex | apply GL_ex); exact rfl; first | exact ob1) | ((first | apply b_ | apply a_ | apply i_); exact z_; intro _) | ((first | apply p_ | apply JO_yes | apply GC_t); exact z_) | (apply n_; exact z_) | (apply GC_f; exact z_) | (apply GX_block_on; exact z_) | refine GC_drawB (id := 5) [2, 3, 4, 5, 6, 7] [0, 1] [8, 9, 10, 11] _ (by kernel_rfl) (List.Sublist.refl _) ?_ | refine GC_drawB (id := 9) [2, 3, 4, 5, 6] [0, 1] [7, 8, 9, 10, 11] _ (by kernel_rfl) (List.Sublist.refl _) ?_ | refine GC_drawB (id := 13) [2, 3, 4, 5, 6, 7, 8, 9, 10, 11, 12, 13, 14, 15] [0, 1] [16, 17, 18, 19] _ (by kernel_rfl) (List.Sublist.refl _) ?_ | ((first | apply GD_at | apply GL_at | apply GD_no | apply GL_no); exact rfl) | apply DFin_0 | (apply q1_; exact z_) | (apply q0_; exact z_) | (apply q2_; exact z_) | (apply c_; exact z_; all_goals intro _) | (apply g_; exact z_; all_goals intro _))
    have hkl : k = y.vats.length := by omega
    subst hkl
    refine GC_freeze (A := [(p3, .cells #[v1, v2, .slice none 0 0] 45), (p2, .cells #[.slice none 0 0, .slice none 0 0, .slice none 0 0] 45), (p1, .cells #[a, b, c] 26)]) ho2 (by decide) ?_
    intro G2 w2 hV hG2
    refine GC_loop (α := Nat × Value × List Value) (fun s => y.smps.length - s.1) (fun s => [(1, .pointer (some ⟨p1, 0, none⟩)), (2, .pointer (some ⟨p2, 0, none⟩)), (3, .pointer (some ⟨p3, 0, none⟩)), (6, .int .i64 (s.1 : Int))]) (fun _ => [(G2, w2), (OffN w (Hf v2 hs2 s2), u), (G1, w1), ((fun _ => True), w)])
      (fun s => (p3, .cells #[v1, v2, s.2.1] 45) :: (p2, .cells #[.slice none 0 0, .slice none 0 0, .slice none 0 0] 45) :: (p1, .cells #[a, b, c] 26) :: rowH s.2.1 170 ((y.smps.take s.1).flatMap encS ++ s.2.2))
      (fun s => s.1 ≤ y.smps.length ∧ Own 3 encS s.2.1 (y.smps.take s.1) s.2.2) (0, .slice none 0 0, []) ⟨rfl, rfl, rfl, rfl, trivial⟩ ⟨Nat.zero_le _, Own.nil fun _ => rfl⟩ (fun w hw => hw) ?_
    rintro ⟨k, v3, s3⟩ ⟨hk3, ho3⟩
    simp only at hk3 ho3 ⊢
    have j3 := ho3.v1
    repeat' (first | apply s_ | ((first | apply JO_ob | apply GD_ex | apply GL_ex); exact rfl; first | exact ob1 | exact Ob_call rfl (fun w hw => c111 _ _ w)) | ((first | apply b_ | apply a_ | apply i_); exact z_; intro _) | ((first | apply p_ | apply JO_yes | apply GC_t); exact z_) | (apply n_; exact z_) | (apply GC_f; exact z_) | (apply GX_block_on; exact z_) | refine GC_drawB (id := 5) [2, 3, 4, 5, 6, 7] [0, 1] [8, 9, 10, 11] _ (by kernel_rfl) (List.Sublist.refl _) ?_ | refine GC_drawB (id := 9) [2, 3, 4, 5, 6] [0, 1] [7, 8, 9, 10, 11] _ (by kernel_rfl) (List.Sublist.refl _) ?_ | refine GC_drawB (id := 13) [2, 3, 4, 5, 6, 7, 8, 9, 10, 11, 12, 13, 14, 15] [0, 1] [16, 17, 18, 19] _ (by kernel_rfl) (List.Sublist.refl _) ?_ | ((first | apply GD_at | apply GL_at | apply GD_no | apply GL_no); exact rfl) | apply DFin_0 | (apply q1_; exact z_) | (apply q0_; exact z_) | (apply q2_; exact z_) | (apply c_; exact z_; all_goals intro _) | (apply g_; exact z_; all_goals intro _))
    · refine JO_append (xs := y.smps.take k) (ys := [nth y.smps k]) [_, _, _, _] rfl rfl rfl ho3 (List.Perm.refl _) (fun w hw => hw.slOwn mem_ rfl) rfl (by simp; omega) ?_
      intro v4 s4 ho4
      have j4 := ho4.v1
      repeat' (first | apply s_ | ((first | apply JO_ob | apply GD_ex | apply GL_ex); exact rfl; first | exact ob1) | ((first | apply b_ | apply a_ | apply i_); exact z_; intro _) | ((first | apply p_ | apply JO_yes | apply GC_t); exact z_) | (apply n_; exact z_) | (apply GC_f; exact z_) | (apply GX_block_on; exact z_) | refine GC_drawB (id := 5) [2, 3, 4, 5, 6, 7] [0, 1] [8, 9, 10, 11] _ (by kernel_rfl) (List.Sublist.refl _) ?_ | refine GC_drawB (id := 9) [2, 3, 4, 5, 6] [0, 1] [7, 8, 9, 10, 11] _ (by kernel_rfl) (List.Sublist.refl _) ?_ | refine GC_drawB (id := 13) [2, 3, 4, 5, 6, 7, 8, 9, 10, 11, 12, 13, 14, 15] [0, 1] [16, 17, 18, 19] _ (by kernel_rfl) (List.Sublist.refl _) ?_ | ((first | apply GD_at | apply GL_at | apply GD_no | apply GL_no); exact rfl) | apply DFin_0 | (apply q1_; exact z_) | (apply q0_; exact z_) | (apply q2_; exact z_) | (apply c_; exact z_; all_goals intro _) | (apply g_; exact z_; all_goals intro _))
      have hkl : k < y.smps.length := by omega
      rw [← take_snoc hkl] at ho4
      rw [← take_snoc hkl]
      exact GX_loop (k + 1, v4, s4) ⟨rfl, rfl, rfl, rfl, trivial⟩ (by simp only; omega) ⟨by simp only; omega, ho4⟩ fun w hw => hw.weak (fun r h => h) (List.Sublist.cons _ (List.Sublist.refl _))
    · have hkl : k = y.smps.length := by omega
      subst hkl
      rw [List.take_length] at ho3 ⊢
      refine GX_retc rfl rfl mem_ rfl fun w' hw' => ⟨hw'.kp mem_, _, _, _, hs2, rfl, ?_, ⟨by omega, ?_, fun i hi => ?_⟩, ?_⟩
      · exact hF.new hG1 (.head _) (.tail _ (.tail _ (.head _))) hw'
      · exact hV.new hG2 (.tail _ (.tail _ (.head _))) (.head _) hw'
      · exact (hw'.arr (.tail _ (.head _)) (hrows i hi)).weaken fun b hb _ => hb.1
      · exact ho3.ret (A := [_, _, _]) (by decide) hw' mem_
end Go.Proofs.YtkbaaikidhbfmaaGreat
/- Contracts: the program's beating and works. No statement is proved here. -/
set_option linter.unusedVariables false
namespace Go.Proofs.YtkbaaikidhbfmaaGreat
open Go.RowKit
/-- A beating in memory. -/
structure BtA (G : Nat → Prop) (w : World) (d e : Value) (y : Bt) : Prop where
  vats : Arr G w 4 encV d y.vats
  smps : Arr G w 3 encB e y.smps
abbrev btV (d e : Value) (y : Bt) : Value := .agg #[.int .i64 y.sun.1, .int .i64 y.sun.2, d, .int .i64 y.last, e]
def thinB (y : Bt) : Bool := decide (y.vats.length ≤ 30) && decide (y.smps.length ≤ 30)
theorem c66 (w : World) (d e : Value) (y : Bt) (h : BtA All w d e y) : Ex 66 [btV d e y] w (.bool (thinB y)) := by
  have h1 := h.vats
  have h3 := h.smps
  have i1 := h1.v1
  have i3 := h3.v1
  refine Rt_of Tryz.func66 rfl Tryz.ntmps66 rfl ?_
  repeat' (first | apply s_ | (apply JO_ob; exact rfl; first | exact ob1) | ((first | apply b_ | apply a_ | apply i_); exact z_; intro _) | ((first | apply p_ | apply JO_yes | apply GC_t); exact z_) | (apply n_; exact z_) | (apply GC_f; exact z_) | (apply GX_block_on; exact z_) | (apply c_; exact z_; all_goals intro _))
  all_goals
    refine GX_ex rfl rfl mem_ ?_
    simp only [thinB]
    congr 1
    first
    | (rw [decide_eq_false (by omega)]; rfl)
    | (rw [decide_eq_true (by omega)]; first | (rw [decide_eq_false (by omega)]; rfl) | (rw [decide_eq_true (by omega)]; rfl))
theorem c71 (w : World) (d e : Value) (y : Bt) (h : BtA All w d e y) (ht : thinB y = true) :
    Rt 71 [btV d e y] w fun v w' => Keep w w' ∧ ∃ d' e', v = btV d' e' y ∧ BtA (New w) w' d' e' y := by
  have h1 := h.vats
  have h3 := h.smps
  have i1 := h1.v1
  have i3 := h3.v1
  simp only [thinB, Bool.and_eq_true, decide_eq_true_eq] at ht
  obtain ⟨t1, t3⟩ := ht
  refine Rt_of Tryz.func71 rfl Tryz.ntmps71 rfl ?_
  repeat' (first | apply s_ | ((first | apply JO_ob | apply GD_ex | apply GL_ex); exact rfl; first | exact ob1 | exact Ob_call rfl (fun w hw => c116 _ _ w)) | ((first | apply b_ | apply a_ | apply i_); exact z_; intro _) | ((first | apply p_ | apply JO_yes | apply GC_t); exact z_) | (apply n_; exact z_) | (apply GC_f; exact z_) | (apply GX_block_on; exact z_) | refine GC_drawB (id := 1) [] [0, 1, 2, 3, 4, 5] [6, 7] _ (by kernel_rfl) (List.Sublist.refl _) ?_ | refine GC_drawB (id := 6) [2, 3, 4, 5, 6, 7, 8, 9] [0, 1] [10, 11, 12, 13] _ (by kernel_rfl) (List.Sublist.refl _) ?_ | ((first | apply GD_at | apply GL_at | apply GD_no | apply GL_no); exact rfl) | apply DFin_0 | (apply q1_; exact z_) | (apply q0_; exact z_) | (apply q2_; exact z_) | (apply c_; exact z_; all_goals intro _) | (apply g_; exact z_; all_goals intro _))
  rename_i p1 p2 p3
  refine GC_loop (α := Nat × Value × List Value) (fun s => y.vats.length - s.1) (fun s => [(1, .pointer (some ⟨p1, 0, none⟩)), (2, .pointer (some ⟨p2, 0, none⟩)), (3, .pointer (some ⟨p3, 0, none⟩)), (4, .int .i64 (s.1 : Int))]) (fun _ => [((fun _ => True), w)])
    (fun s => (p3, .cells #[.int .i64 y.sun.1, .int .i64 y.sun.2, s.2.1, .int .i64 y.last, .slice none 0 0] 50) :: (p2, .cells #[.int .i64 0, .int .i64 0, .slice none 0 0, .int .i64 0, .slice none 0 0] 50) :: (p1, .cells #[.int .i64 y.sun.1, .int .i64 y.sun.2, d, .int .i64 y.last, e] 32) :: rowH s.2.1 174 ((y.vats.take s.1).flatMap encV ++ s.2.2))
    (fun s => s.1 ≤ y.vats.length ∧ Own 4 encV s.2.1 (y.vats.take s.1) s.2.2) (0, .slice none 0 0, []) ⟨rfl, rfl, rfl, rfl, trivial⟩ ⟨Nat.zero_le _, Own.nil fun _ => rfl⟩ (fun w hw => hw) ?_
  rintro ⟨k, v1, s1⟩ ⟨hk, ho1⟩
  simp only at hk ho1 ⊢
  have j1 := ho1.v1
  repeat' (first | apply s_ | ((first | apply JO_ob | apply GD_ex | apply GL_ex); exact rfl; first | exact ob1 | exact Ob_call rfl (fun w hw => c116 _ _ w)) | ((first | apply b_ | apply a_ | apply i_); exact z_; intro _) | ((first | apply p_ | apply JO_yes | apply GC_t); exact z_) | (apply n_; exact z_) | (apply GC_f; exact z_) | (apply GX_block_on; exact z_) | refine GC_drawB (id := 1) [] [0, 1, 2, 3, 4, 5] [6, 7] _ (by kernel_rfl) (List.Sublist.refl _) ?_ | refine GC_drawB (id := 6) [2, 3, 4, 5, 6, 7, 8, 9] [0, 1] [10, 11, 12, 13] _ (by kernel_rfl) (List.Sublist.refl _) ?_ | ((first | apply GD_at | apply GL_at | apply GD_no | apply GL_no); exact rfl) | apply DFin_0 | (apply q1_; exact z_) | (apply q0_; exact z_) | (apply q2_; exact z_) | (apply c_; exact z_; all_goals intro _) | (apply g_; exact z_; all_goals intro _))
  · refine JO_append (xs := y.vats.take k) (ys := [nth y.vats k]) [_, _, _, _, _] rfl rfl rfl ho1 (List.Perm.refl _) (fun w hw => hw.slOwn mem_ rfl) rfl (by simp; omega) ?_
    intro v2 s2 ho2
    have j2 := ho2.v1
    repeat' (first | apply s_ | ((first | apply JO_ob | apply GD_ex | apply GL_ex); exact rfl; first | exact ob1) | ((first | apply b_ | apply a_ | apply i_); exact z_; intro _) | ((first | apply p_ | apply JO_yes | apply GC_t); exact z_) | (apply n_; exact z_) | (apply GC_f; exact z_) | (apply GX_block_on; exact z_) | refine GC_drawB (id := 1) [] [0, 1, 2, 3, 4, 5] [6, 7] _ (by kernel_rfl) (List.Sublist.refl _) ?_ | refine GC_drawB (id := 6) [2, 3, 4, 5, 6, 7, 8, 9] [0, 1] [10, 11, 12, 13] _ (by kernel_rfl) (List.Sublist.refl _) ?_ | ((first | apply GD_at | apply GL_at | apply GD_no | apply GL_no); exact rfl) | apply DFin_0 | (apply q1_; exact z_) | (apply q0_; exact z_) | (apply q2_; exact z_) | (apply c_; exact z_; all_goals intro _) | (apply g_; exact z_; all_goals intro _))
    have hkl : k < y.vats.length := by omega
    rw [← take_snoc hkl] at ho2
    rw [← take_snoc hkl]
    exact GX_loop (k + 1, v2, s2) ⟨rfl, rfl, rfl, rfl, trivial⟩ (by simp only; omega) ⟨by simp only; omega, ho2⟩ fun w hw => hw.weak (fun r h => h) (List.Sublist.cons _ (List.Sublist.cons _ (List.Sublist.refl _)))
  have hkl : k = y.vats.length := by omega
  subst hkl
  rw [List.take_length] at ho1 ⊢
  refine GC_freeze (A := [(p3, .cells #[.int .i64 y.sun.1, .int .i64 y.sun.2, v1, .int .i64 y.last, .slice none 0 0] 50), (p2, .cells #[.int .i64 0, .int .i64 0, .slice none 0 0, .int .i64 0, .slice none 0 0] 50), (p1, .cells #[.int .i64 y.sun.1, .int .i64 y.sun.2, d, .int .i64 y.last, e] 32)]) ho1 (by decide) ?_
  intro G1 w1 hF hG1
  refine GC_loop (α := Nat × Value × List Value) (fun s => y.smps.length - s.1) (fun s => [(1, .pointer (some ⟨p1, 0, none⟩)), (2, .pointer (some ⟨p2, 0, none⟩)), (3, .pointer (some ⟨p3, 0, none⟩)), (6, .int .i64 (s.1 : Int))]) (fun _ => [(G1, w1), ((fun _ => True), w)])
    (fun s => (p3, .cells #[.int .i64 y.sun.1, .int .i64 y.sun.2, v1, .int .i64 y.last, s.2.1] 50) :: (p2, .cells #[.int .i64 0, .int .i64 0, .slice none 0 0, .int .i64 0, .slice none 0 0] 50) :: (p1, .cells #[.int .i64 y.sun.1, .int .i64 y.sun.2, d, .int .i64 y.last, e] 32) :: rowH s.2.1 177 ((y.smps.take s.1).flatMap encB ++ s.2.2))
    (fun s => s.1 ≤ y.smps.length ∧ Own 3 encB s.2.1 (y.smps.take s.1) s.2.2) (0, .slice none 0 0, []) ⟨rfl, rfl, rfl, rfl, trivial⟩ ⟨Nat.zero_le _, Own.nil fun _ => rfl⟩ (fun w hw => hw) ?_
  rintro ⟨k, v3, s3⟩ ⟨hk3, ho3⟩
  simp only at hk3 ho3 ⊢
  have j3 := ho3.v1
  repeat' (first | apply s_ | ((first | apply JO_ob | apply GD_ex | apply GL_ex); exact rfl; first | exact ob1) | ((first | apply b_ | apply a_ | apply i_); exact z_; intro _) | ((first | apply p_ | apply JO_yes | apply GC_t); exact z_) | (apply n_; exact z_) | (apply GC_f; exact z_) | (apply GX_block_on; exact z_) | refine GC_drawB (id := 1) [] [0, 1, 2, 3, 4, 5] [6, 7] _ (by kernel_rfl) (List.Sublist.refl _) ?_ | refine GC_drawB (id := 6) [2, 3, 4, 5, 6, 7, 8, 9] [0, 1] [10, 11, 12, 13] _ (by kernel_rfl) (List.Sublist.refl _) ?_ | ((first | apply GD_at | apply GL_at | apply GD_no | apply GL_no); exact rfl) | apply DFin_0 | (apply q1_; exact z_) | (apply q0_; exact z_) | (apply q2_; exact z_) | (apply c_; exact z_; all_goals intro _) | (apply g_; exact z_; all_goals intro _))
  · refine JO_append (xs := y.smps.take k) (ys := [nth y.smps k]) [_, _, _, _, _] rfl rfl rfl ho3 (List.Perm.refl _) (fun w hw => hw.slOwn mem_ rfl) rfl (by simp; omega) ?_
    intro v4 s4 ho4
    have j4 := ho4.v1
    repeat' (first | apply s_ | ((first | apply JO_ob | apply GD_ex | apply GL_ex); exact rfl; first | exact ob1) | ((first | apply b_ | apply a_ | apply i_); exact z_; intro _) | ((first | apply p_ | apply JO_yes | apply GC_t); exact z_) | (apply n_; exact z_) | (apply GC_f; exact z_) | (apply GX_block_on; exact z_) | refine GC_drawB (id := 1) [] [0, 1, 2, 3, 4, 5] [6, 7] _ (by kernel_rfl) (List.Sublist.refl _) ?_ | refine GC_drawB (id := 6) [2, 3, 4, 5, 6, 7, 8, 9] [0, 1] [10, 11, 12, 13] _ (by kernel_rfl) (List.Sublist.refl _) ?_ | ((first | apply GD_at | apply GL_at | apply GD_no | apply GL_no); exact rfl) | apply DFin_0 | (apply q1_; exact z_) | (apply q0_; exact z_) | (apply q2_; exact z_) | (apply c_; exact z_; all_goals intro _) | (apply g_; exact z_; all_goals intro _))
    have hkl : k < y.smps.length := by omega
    rw [← take_snoc hkl] at ho4
    rw [← take_snoc hkl]
    exact GX_loop (k + 1, v4, s4) ⟨rfl, rfl, rfl, rfl, trivial⟩ (by simp only; omega) ⟨by simp only; omega, ho4⟩ fun w hw => hw.weak (fun r h => h) (List.Sublist.cons _ (List.Sublist.cons _ (List.Sublist.refl _)))
  · have hkl : k = y.smps.length := by omega
    subst hkl
    rw [List.take_length] at ho3 ⊢
    refine GX_retc rfl rfl mem_ rfl fun w' hw' => ⟨hw'.kp mem_, _, _, rfl, ?_, ?_⟩
    · exact hF.new hG1 (.head _) (.head _) hw'
    · exact ho3.ret (A := [_, _, _]) (by decide) hw' mem_
end Go.Proofs.YtkbaaikidhbfmaaGreat
/- Contracts: the program's works. No statement is proved here. -/
set_option linter.unusedVariables false
namespace Go.Proofs.YtkbaaikidhbfmaaGreat
open Go.RowKit
/-- Works in memory. -/
structure WkA (G : Nat → Prop) (w : World) (a b c : Value) (hs : List Value) (d e f : Value) (k : Wk) : Prop where
  yard : YdA G w a b c hs k.yard
  beat : BtA G w d e k.beat
  ends : Arr G w 1 encI f k.ends
theorem YdA.move {G : Nat → Prop} {w w' : World} {a b c : Value} {hs : List Value} {y : Yd} (h : YdA G w a b c hs y) (hw : ∀ b, G b → b < w.heap.size → w'.heap[b]? = w.heap[b]?) : YdA G w' a b c hs y := ⟨h.fields.move hw, h.vats.move hw, h.smps.move hw⟩
theorem BtA.move {G : Nat → Prop} {w w' : World} {d e : Value} {y : Bt} (h : BtA G w d e y) (hw : ∀ b, G b → b < w.heap.size → w'.heap[b]? = w.heap[b]?) : BtA G w' d e y := ⟨h.vats.move hw, h.smps.move hw⟩
theorem WkA.move {G : Nat → Prop} {w w' : World} {a b c : Value} {hs : List Value} {d e f : Value} {k : Wk} (h : WkA G w a b c hs d e f k) (hw : ∀ b, G b → b < w.heap.size → w'.heap[b]? = w.heap[b]?) : WkA G w' a b c hs d e f k := ⟨h.yard.move hw, h.beat.move hw, h.ends.move hw⟩
theorem YdA.weaken {G G' : Nat → Prop} {w : World} {a b c : Value} {hs : List Value} {y : Yd} (h : YdA G w a b c hs y) (hG : ∀ b, G b → b < w.heap.size → G' b) : YdA G' w a b c hs y := ⟨h.fields.weaken hG, h.vats.weaken hG, h.smps.weaken hG⟩
theorem BtA.weaken {G G' : Nat → Prop} {w : World} {d e : Value} {y : Bt} (h : BtA G w d e y) (hG : ∀ b, G b → b < w.heap.size → G' b) : BtA G' w d e y := ⟨h.vats.weaken hG, h.smps.weaken hG⟩
theorem WkA.weaken {G G' : Nat → Prop} {w : World} {a b c : Value} {hs : List Value} {d e f : Value} {k : Wk} (h : WkA G w a b c hs d e f k) (hG : ∀ b, G b → b < w.heap.size → G' b) : WkA G' w a b c hs d e f k := ⟨h.yard.weaken hG, h.beat.weaken hG, h.ends.weaken hG⟩
/-- What is known of a region is known now. -/
theorem SH.wk {b0 : World} {R : Rgs} {H : Hp} {w w1 : World} {G : Nat → Prop} {a b c : Value} {hs : List Value} {d e f : Value} {k : Wk} (hw : SH b0 R H w) (hr : (G, w1) ∈ R) (h : WkA G w1 a b c hs d e f k) : WkA G w a b c hs d e f k := h.move fun b hb hlt => (hw.rng _ hr).2 b hb hlt
theorem SH.yd {b0 : World} {R : Rgs} {H : Hp} {w w1 : World} {G : Nat → Prop} {a b c : Value} {hs : List Value} {k : Yd} (hw : SH b0 R H w) (hr : (G, w1) ∈ R) (h : YdA G w1 a b c hs k) : YdA G w a b c hs k := h.move fun b hb hlt => (hw.rng _ hr).2 b hb hlt
theorem SH.bt {b0 : World} {R : Rgs} {H : Hp} {w w1 : World} {G : Nat → Prop} {d e : Value} {k : Bt} (hw : SH b0 R H w) (hr : (G, w1) ∈ R) (h : BtA G w1 d e k) : BtA G w d e k := h.move fun b hb hlt => (hw.rng _ hr).2 b hb hlt
abbrev wkV (a b c d e f : Value) (k : Wk) : Value := .agg #[a, b, c, .int .i64 k.beat.sun.1, .int .i64 k.beat.sun.2, d, .int .i64 k.beat.last, e, f, .int .i64 k.boxes, .int .i64 k.force, .int .i64 k.last, .int .i64 k.cake]
def thinW (k : Wk) : Bool := thinY k.yard && thinB k.beat && decide (k.ends.length ≤ 30)
theorem c20 (w : World) (a b c : Value) (hs : List Value) (d e f : Value) (k : Wk) (h : WkA All w a b c hs d e f k) : Ex 20 [wkV a b c d e f k] w (.bool (thinW k)) := by
  have h1 := h.yard.fields.v1
  have h2 := h.yard.vats.arr.v1
  have h3 := h.yard.smps.v1
  have h4 := h.beat.vats.v1
  have h5 := h.beat.smps.v1
  have h6 := h.ends.v1
  have he := h.ends
  refine Rt_of Tryz.func20 rfl Tryz.ntmps20 rfl ?_
  repeat' (first | apply s_ | (apply JO_ob; exact rfl; first | exact ob1 | exact Ob_call rfl (fun w hw => c65 w a b c hs k.yard (hw.yd (.head _) h.yard)) | exact Ob_call rfl (fun w hw => c66 w d e k.beat (hw.bt (.head _) h.beat))) | ((first | apply b_ | apply a_ | apply i_); exact z_; intro _) | ((first | apply p_ | apply JO_yes | apply GC_t); exact z_) | (apply n_; exact z_) | (apply GC_f; exact z_) | (apply GX_block_on; exact z_))
  cases hy : thinY k.yard
  · repeat' (first | apply s_ | (apply JO_ob; exact rfl; first | exact ob1) | ((first | apply b_ | apply a_ | apply i_); exact z_; intro _) | ((first | apply p_ | apply JO_yes | apply GC_t); exact z_) | (apply n_; exact z_) | (apply GC_f; exact z_) | (apply GX_block_on; exact z_) | (apply c_; exact z_; all_goals intro _))
    refine GX_ex rfl rfl mem_ ?_
    simp [thinW, hy]
  · repeat' (first | apply s_ | (apply JO_ob; exact rfl; first | exact ob1 | exact Ob_call rfl (fun w hw => c66 w d e k.beat (hw.bt (.head _) h.beat))) | ((first | apply b_ | apply a_ | apply i_); exact z_; intro _) | ((first | apply p_ | apply JO_yes | apply GC_t); exact z_) | (apply n_; exact z_) | (apply GC_f; exact z_) | (apply GX_block_on; exact z_) | (apply c_; exact z_; all_goals intro _))
    cases hb : thinB k.beat
    · repeat' (first | apply s_ | (apply JO_ob; exact rfl; first | exact ob1) | ((first | apply b_ | apply a_ | apply i_); exact z_; intro _) | ((first | apply p_ | apply JO_yes | apply GC_t); exact z_) | (apply n_; exact z_) | (apply GC_f; exact z_) | (apply GX_block_on; exact z_) | (apply c_; exact z_; all_goals intro _))
      refine GX_ex rfl rfl mem_ ?_
      simp [thinW, hy, hb]
    · repeat' (first | apply s_ | (apply JO_ob; exact rfl; first | exact ob1) | ((first | apply b_ | apply a_ | apply i_); exact z_; intro _) | ((first | apply p_ | apply JO_yes | apply GC_t); exact z_) | (apply n_; exact z_) | (apply GC_f; exact z_) | (apply GX_block_on; exact z_) | (apply c_; exact z_; all_goals intro _))
      · refine GX_ex rfl rfl mem_ ?_
        simp [thinW, hy, hb]; omega
      · refine GX_ex rfl rfl mem_ ?_
        simp [thinW, hy, hb]; omega
theorem c23 (w : World) (a b c : Value) (hs : List Value) (d e f : Value) (k : Wk) (h : WkA All w a b c hs d e f k) (ht : thinW k = true) :
    Rt 23 [wkV a b c d e f k] w fun v w' => Keep w w' ∧ ∃ a' b' c' hs' d' e' f', v = wkV a' b' c' d' e' f' k ∧ WkA (New w) w' a' b' c' hs' d' e' f' k := by
  have h1 := h.yard.fields.v1
  have h2 := h.yard.vats.arr.v1
  have h3 := h.yard.smps.v1
  have h4 := h.beat.vats.v1
  have h5 := h.beat.smps.v1
  have h6 := h.ends.v1
  simp only [thinW, Bool.and_eq_true, decide_eq_true_eq] at ht
  obtain ⟨⟨t1, t2⟩, t3⟩ := ht
  refine Rt_of Tryz.func23 rfl Tryz.ntmps23 rfl ?_
  repeat' (first | apply s_ | ((first | apply JO_ob | apply GD_ex | apply GL_ex); exact rfl; first | exact ob1) | ((first | apply b_ | apply a_ | apply i_); exact z_; intro _) | ((first | apply p_ | apply JO_yes | apply GC_t); exact z_) | (apply n_; exact z_) | (apply GC_f; exact z_) | (apply GX_block_on; exact z_) | refine GC_drawB (id := 1) [0, 1] [3, 4, 6, 7, 9, 10, 11, 12, 13, 14, 15, 16] [2, 5, 8, 17, 18] _ (by kernel_rfl) (List.Sublist.refl _) ?_ | ((first | apply GD_at | apply GL_at | apply GD_no | apply GL_no); exact rfl) | apply DFin_0 | (apply q1_; exact z_) | (apply q0_; exact z_) | (apply q2_; exact z_) | (apply c_; exact z_; all_goals intro _) | (apply g_; exact z_; all_goals intro _))
  refine JO_call (S := fun w0 v w' => ∃ a' b' c' hs', v = .agg #[a', b', c'] ∧ YdA (New w0) w' a' b' c' hs' k.yard) rfl rfl (fun w5 hw5 => c60 w5 a b c hs k.yard (hw5.yd mem_ h.yard) t1) ?_
  rintro _ u0 u1 hu0 hu1 hk01 ⟨a', b', c', hs', rfl, hY⟩
  have g1 := hY.fields.v1
  have g2 := hY.vats.arr.v1
  have g3 := hY.smps.v1
  repeat' (first | apply s_ | ((first | apply JO_ob | apply GD_ex | apply GL_ex); exact rfl; first | exact ob1) | ((first | apply b_ | apply a_ | apply i_); exact z_; intro _) | ((first | apply p_ | apply JO_yes | apply GC_t); exact z_) | (apply n_; exact z_) | (apply GC_f; exact z_) | (apply GX_block_on; exact z_) | refine GC_drawB (id := 1) [0, 1] [3, 4, 6, 7, 9, 10, 11, 12, 13, 14, 15, 16] [2, 5, 8, 17, 18] _ (by kernel_rfl) (List.Sublist.refl _) ?_ | ((first | apply GD_at | apply GL_at | apply GD_no | apply GL_no); exact rfl) | apply DFin_0 | (apply q1_; exact z_) | (apply q0_; exact z_) | (apply q2_; exact z_) | (apply c_; exact z_; all_goals intro _) | (apply g_; exact z_; all_goals intro _))
  refine JO_call (S := fun w0 v w' => ∃ d' e', v = btV d' e' k.beat ∧ BtA (New w0) w' d' e' k.beat) rfl rfl (fun w5 hw5 => c71 w5 d e k.beat (hw5.bt mem_ h.beat) t2) ?_
  rintro _ u2 u3 hu2 hu3 hk23 ⟨d', e', rfl, hB⟩
  have g4 := hB.vats.v1
  have g5 := hB.smps.v1
  repeat' (first | apply s_ | ((first | apply JO_ob | apply GD_ex | apply GL_ex); exact rfl; first | exact ob1) | ((first | apply b_ | apply a_ | apply i_); exact z_; intro _) | ((first | apply p_ | apply JO_yes | apply GC_t); exact z_) | (apply n_; exact z_) | (apply GC_f; exact z_) | (apply GX_block_on; exact z_) | refine GC_drawB (id := 1) [0, 1] [3, 4, 6, 7, 9, 10, 11, 12, 13, 14, 15, 16] [2, 5, 8, 17, 18] _ (by kernel_rfl) (List.Sublist.refl _) ?_ | ((first | apply GD_at | apply GL_at | apply GD_no | apply GL_no); exact rfl) | apply DFin_0 | (apply q1_; exact z_) | (apply q0_; exact z_) | (apply q2_; exact z_) | (apply c_; exact z_; all_goals intro _) | (apply g_; exact z_; all_goals intro _))
  refine JO_call (S := fun w0 v w' => Arr (New w0) w' 1 encI v k.ends) rfl rfl (fun w5 hw5 => c34 f k.ends w5 (hw5.arr mem_ h.ends) (by omega)) ?_
  intro f' u4 u5 hu4 hu5 hk45 hE
  have g6 := hE.v1
  repeat' (first | apply s_ | ((first | apply JO_ob | apply GD_ex | apply GL_ex); exact rfl; first | exact ob1) | ((first | apply b_ | apply a_ | apply i_); exact z_; intro _) | ((first | apply p_ | apply JO_yes | apply GC_t); exact z_) | (apply n_; exact z_) | (apply GC_f; exact z_) | (apply GX_block_on; exact z_) | refine GC_drawB (id := 1) [0, 1] [3, 4, 6, 7, 9, 10, 11, 12, 13, 14, 15, 16] [2, 5, 8, 17, 18] _ (by kernel_rfl) (List.Sublist.refl _) ?_ | ((first | apply GD_at | apply GL_at | apply GD_no | apply GL_no); exact rfl) | apply DFin_0 | (apply q1_; exact z_) | (apply q0_; exact z_) | (apply q2_; exact z_) | (apply c_; exact z_; all_goals intro _) | (apply g_; exact z_; all_goals intro _))
  refine GX_retc rfl rfl mem_ rfl fun w' hw' => ⟨hw'.kp mem_, _, _, _, hs', _, _, _, rfl, ?_, ?_, ?_⟩
  · exact (hw'.yd (.tail _ (.tail _ (.head _))) hY).weaken fun b hb _ => Nat.le_trans hu0.b0le hb
  · exact (hw'.bt (.tail _ (.head _)) hB).weaken fun b hb _ => Nat.le_trans hu2.b0le hb
  · exact (hw'.arr (.head _) hE).weaken fun b hb _ => Nat.le_trans hu4.b0le hb
end Go.Proofs.YtkbaaikidhbfmaaGreat
/- More operations: conversions, bits. No statement is proved here. -/
set_option linter.unusedVariables false
set_option linter.unusedSimpArgs false
namespace Go.Proofs.YtkbaaikidhbfmaaGreat
open Go.RowKit
section
variable {n d : Nat} {full : List Oper} {b0 : World} {R : Rgs} {H : Hp} {fr : Slots} {K : Kt} {dst : Option Nat} {g : Option (Nat × Bool)} {ty : TypeId} {ps : String} {af : Array Edge}
theorem Ob_convert {t u : TypeId} {k k' ks : IntKind} {x : Operand} {a b : Int} [h : TyInt t ks] [h' : TyInt u k'] (hx : ev fr x = some (.int k a)) (hw : k'.wrap a = b) : Ob b0 R H ⟨dst, .convert t u x, ty, ps, af, g⟩ fr (.int k' b) := .pure fun w f hf => by
  simp only [execOp, hf x _ hx]
  have e : (convert t u (.int k a)).run P w = .ok (.int k' b) w := by
    simp only [convert]
    rw [Sem.run_bind, run_underlying h.h]
    simp only [Result.andThen]
    rw [Sem.run_bind, run_underlying h'.h]
    simp only [Result.andThen, Conv.intToInt, hw]
    rfl
  rw [Sem.run_bind, e]
  rfl
theorem wrapU {a : Int} (h0 : 0 ≤ a) (h1 : a ≤ 9223372036854775807) : IntKind.u64.wrap a = a := by rw [IntKind.wrap_u64]; omega
theorem wrapI {a : Int} (h0 : 0 ≤ a) (h1 : a ≤ 9223372036854775807) : IntKind.i64.wrap a = a := by rw [IntKind.wrap_i64]; omega
theorem pow63 {i : Nat} (h : i ≤ 62) : ((2 ^ i : Nat) : Int) ≤ 9223372036854775807 := by
  have h1 : (2 : Nat) ^ i ≤ 2 ^ 62 := Nat.pow_le_pow_right (by omega) h
  have h2 : (2 : Nat) ^ 62 ≤ 9223372036854775807 := by decide
  exact Int.ofNat_le.2 (Nat.le_trans h1 h2)
theorem cast_pow2 (i : Nat) : (2 : Int) ^ i = ((2 ^ i : Nat) : Int) := by simp
/-- 1 << i. -/
theorem Ob_shl1 {t yt : TypeId} {x y : Operand} {ky : IntKind} {i : Nat} (hx : ev fr x = some (.int .i64 1)) (hy : ev fr y = some (.int ky (i : Int))) (hi : i ≤ 62) : Ob b0 R H ⟨dst, .binOp .shl t x y yt, ty, ps, af, g⟩ fr (.int .i64 ((2 ^ i : Nat) : Int)) := .pure fun w f hf => by
  have h1 : ¬ ((i : Int) < 0) := by omega
  have h2 : min (i : Int).toNat IntKind.i64.bits = i := by rw [Int.toNat_natCast]; exact Nat.min_eq_left (by simp only [IntKind.bits]; omega)
  have h3 : IntKind.i64.wrap (1 * 2 ^ i) = ((2 ^ i : Nat) : Int) := by
    rw [Int.one_mul, cast_pow2, wrapI (Int.natCast_nonneg _) (pow63 hi)]
  have e2 : (Op.shift .shl .i64 1 ky (i : Int)).run P w = .ok (.int .i64 ((2 ^ i : Nat) : Int)) w := by
    unfold Op.shift
    rw [if_neg h1, h2]
    show (pure (Value.int .i64 (IntKind.i64.wrap (1 * 2 ^ i))) : Sem Value).run P w = _
    rw [h3]; rfl
  simp only [execOp]
  rw [hf x _ hx, hf y _ hy]
  have e3 : binOp .shl t (.int .i64 1) (.int ky (i : Int)) = Op.shift .shl .i64 1 ky (i : Int) := rfl
  have e4 : eqGuard .shl t x y (.int .i64 1) (.int ky (i : Int)) = pure () := rfl
  rw [e3, e4, Sem.run_bind, Sem.run_bind, Sem.run_pure]
  simp only [Result.andThen]
  rw [e2]
  rfl
/-- The next bit is set. -/
theorem Ob_orbit {t yt : TypeId} {x y : Operand} {a i : Nat} (hx : ev fr x = some (.int .i64 (a : Int))) (hy : ev fr y = some (.int .i64 ((2 ^ i : Nat) : Int))) (ha : a < 2 ^ i) (hi : i ≤ 61) :
    Ob b0 R H ⟨dst, .binOp .or t x y yt, ty, ps, af, g⟩ fr (.int .i64 ((a + 2 ^ i : Nat) : Int)) := .pure fun w f hf => by
  rw [run_bin_int (hf x _ hx) (hf y _ hy)]
  have hp : 2 ^ i ≤ 2 ^ 61 := Nat.pow_le_pow_right (by omega) hi
  have e : (BitVec.ofInt 64 (a : Int) ||| BitVec.ofInt 64 ((2 ^ i : Nat) : Int)).toNat = a + 2 ^ i := by
    rw [BitVec.ofInt_natCast, BitVec.ofInt_natCast, BitVec.toNat_or, BitVec.toNat_ofNat, BitVec.toNat_ofNat, Nat.mod_eq_of_lt (by omega), Nat.mod_eq_of_lt (by omega)]
    have := Nat.two_pow_add_eq_or_of_lt ha 1
    rw [Nat.mul_one] at this
    rw [Nat.or_comm, ← this, Nat.add_comm]
  have h3 : IntKind.i64.wrap ((a + 2 ^ i : Nat) : Int) = ((a + 2 ^ i : Nat) : Int) := wrapI (Int.natCast_nonneg _) (by omega)
  have e2 : (Op.intBits .or .i64 (a : Int) ((2 ^ i : Nat) : Int)).run P w = .ok (.int .i64 ((a + 2 ^ i : Nat) : Int)) w := by
    show (pure (Value.int .i64 (IntKind.i64.wrap ((BitVec.ofInt 64 (a : Int) ||| BitVec.ofInt 64 ((2 ^ i : Nat) : Int)).toNat : Int))) : Sem Value).run P w = _
    rw [e, h3]; rfl
  have e3 : binOp .or t (.int .i64 (a : Int)) (.int .i64 ((2 ^ i : Nat) : Int)) = Op.intBits .or .i64 (a : Int) ((2 ^ i : Nat) : Int) := rfl
  rw [e3, e2]
  rfl
end
end Go.Proofs.YtkbaaikidhbfmaaGreat
/- The reference's numbers of the layer 1, in plain words. No statement is proved here. -/
set_option linter.unusedVariables false
namespace Go.Proofs.YtkbaaikidhbfmaaGreat
open Go.RowKit
/-- The sum of the products of the first k. -/
def dotN (bs ks : List Int) : Nat → Int
  | 0 => 0
  | k + 1 => dotN bs ks k + nth bs k * nth ks k
def dot (bs ks : List Int) : Int := dotN bs ks bs.length
theorem mul_bd {a b m n : Int} (h0 : 0 ≤ a) (h1 : a ≤ m) (h2 : 0 ≤ b) (h3 : b ≤ n) : 0 ≤ a * b ∧ a * b ≤ m * n :=
  ⟨Int.mul_nonneg h0 h2, Int.mul_le_mul h1 h3 h2 (Int.le_trans h0 h1)⟩
/-- Some numbers lie from 0 to m. -/
def Bd (m : Int) (l : List Int) : Prop := ∀ i, i < l.length → 0 ≤ nth l i ∧ nth l i ≤ m
theorem dotN_bd {bs ks : List Int} (hb : Bd 20 bs) (hk : Bd 9 ks) (hl : bs.length = ks.length) : ∀ k, k ≤ bs.length → 0 ≤ dotN bs ks k ∧ dotN bs ks k ≤ 180 * k := by
  intro k
  induction k with
  | zero => intro _; simp [dotN]
  | succ k ih =>
    intro hk'
    have h1 := ih (by omega)
    have h2 := mul_bd (hb k (by omega)).1 (hb k (by omega)).2 (hk k (by omega)).1 (hk k (by omega)).2
    simp only [dotN]
    omega
/-- Bits for what is so. -/
def rbits (ok : Nat → Bool) : Nat → Nat
  | 0 => 0
  | k + 1 => rbits ok k + (if ok k then 2 ^ k else 0)
theorem rbits_lt (ok : Nat → Bool) (k : Nat) : rbits ok k < 2 ^ k := by
  induction k with
  | zero => simp [rbits]
  | succ k ih => simp only [rbits, Nat.pow_succ]; split <;> omega
theorem rbits_full (ok : Nat → Bool) (k : Nat) : rbits ok k = 2 ^ k - 1 ↔ ∀ i, i < k → ok i = true := by
  induction k with
  | zero => simp [rbits]
  | succ k ih =>
    have h1 := rbits_lt ok k
    have h2 : 0 < 2 ^ k := Nat.two_pow_pos k
    simp only [rbits, Nat.pow_succ]
    constructor
    · intro h i hi
      by_cases hk : ok k = true
      · rw [if_pos hk] at h
        have := ih.1 (by omega)
        rcases Nat.lt_or_ge i k with h3 | h3
        · exact this i h3
        · rw [show i = k by omega]; exact hk
      · rw [if_neg hk] at h; omega
    · intro h
      rw [if_pos (h k (by omega)), ih.2 fun i hi => h i (by omega)]
      omega
/-- How many numbers a range has. -/
def szR (r : Rg) : Int := r.2 - r.1 + 1
def OkF (fs : List Rg) : Prop := ∀ i, i < fs.length → 0 ≤ (nth fs i).1 ∧ (nth fs i).1 ≤ (nth fs i).2 ∧ (nth fs i).2 ≤ 20
/-- A yard that is valid. -/
structure OkY (y : Yd) : Prop where
  f5 : y.fields.length ≤ 5
  v4 : y.vats.length ≤ 4
  s5 : y.smps.length ≤ 5
  f : OkF y.fields
  v : ∀ j, j < y.vats.length → (nth y.vats j).length = y.fields.length ∧ Bd 9 (nth y.vats j)
  s : ∀ i, i < y.smps.length → (0 ≤ (nth y.smps i).vat ∧ (nth y.smps i).vat < (y.vats.length : Int)) ∧ 0 ≤ (nth y.smps i).lo ∧ (nth y.smps i).lo ≤ (nth y.smps i).hi ∧ (nth y.smps i).hi ≤ 999
/-- How many blues there are, up to 3000. -/
def manyN (fs : List Rg) : Nat → Int
  | 0 => 1
  | k + 1 => min 3000 (manyN fs k * szR (nth fs k))
def many1 (fs : List Rg) : Int := manyN fs fs.length
theorem szR_bd {fs : List Rg} (h : OkF fs) {i : Nat} (hi : i < fs.length) : 1 ≤ szR (nth fs i) ∧ szR (nth fs i) ≤ 21 := by
  have := h i hi; simp only [szR]; omega
theorem manyN_bd {fs : List Rg} (h : OkF fs) : ∀ k, k ≤ fs.length → 1 ≤ manyN fs k ∧ manyN fs k ≤ 3000 := by
  intro k
  induction k with
  | zero => intro _; simp [manyN]
  | succ k ih =>
    intro hk
    have h1 := ih (by omega)
    have h2 := szR_bd h (i := k) (by omega)
    have h3 : 1 * 1 ≤ manyN fs k * szR (nth fs k) := Int.mul_le_mul h1.1 h2.1 (by omega) (by omega)
    simp only [manyN]
    omega
/-- The number n in the mixed radix of the ranges. -/
def divN (fs : List Rg) (n : Int) : Nat → Int
  | 0 => n
  | k + 1 => divN fs n k / szR (nth fs k)
def digit (fs : List Rg) (n : Int) (k : Nat) : Int := (nth fs k).1 + divN fs n k % szR (nth fs k)
def nthL (fs : List Rg) (n : Int) : List Int := (List.range fs.length).map (digit fs n)
theorem divN_bd {fs : List Rg} (h : OkF fs) {n : Int} (h0 : 0 ≤ n) : ∀ k, k ≤ fs.length → 0 ≤ divN fs n k ∧ divN fs n k ≤ n := by
  intro k
  induction k with
  | zero => intro _; exact ⟨h0, Int.le_refl _⟩
  | succ k ih =>
    intro hk
    have h1 := ih (by omega)
    have h2 := szR_bd h (i := k) (by omega)
    simp only [divN]
    exact ⟨Int.ediv_nonneg h1.1 (by omega), Int.le_trans (Int.ediv_le_self _ h1.1) h1.2⟩
theorem digit_bd {fs : List Rg} (h : OkF fs) {n : Int} {k : Nat} (hk : k < fs.length) : (nth fs k).1 ≤ digit fs n k ∧ digit fs n k ≤ (nth fs k).2 := by
  have h2 := szR_bd h hk
  have h3 := Int.emod_nonneg (divN fs n k) (b := szR (nth fs k)) (by omega)
  have h4 := Int.emod_lt_of_pos (divN fs n k) (b := szR (nth fs k)) (by omega)
  simp only [digit, szR] at *
  omega
theorem nthL_len (fs : List Rg) (n : Int) : (nthL fs n).length = fs.length := by simp [nthL]
theorem nthL_nth {fs : List Rg} {n : Int} {k : Nat} (hk : k < fs.length) : nth (nthL fs n) k = digit fs n k := by simp [nthL, nth, hk]
theorem nthL_bd {fs : List Rg} (h : OkF fs) (n : Int) : Bd 20 (nthL fs n) := by
  intro i hi
  rw [nthL_len] at hi
  rw [nthL_nth hi]
  have := digit_bd h (n := n) hi
  have := h i hi
  omega
/-- Sample i is right with these blues. -/
def okS (y : Yd) (bs : List Int) (i : Nat) : Bool := decide ((nth y.smps i).lo ≤ dot bs (nth y.vats (nth y.smps i).vat.toNat) ∧ dot bs (nth y.vats (nth y.smps i).vat.toNat) ≤ (nth y.smps i).hi)
def rightB (y : Yd) (bs : List Int) : Nat := rbits (okS y bs) y.smps.length
/-- All samples are right. -/
def okAll (y : Yd) (bs : List Int) : Bool := (List.range y.smps.length).all (okS y bs)
theorem rightB_full (y : Yd) (bs : List Int) : rightB y bs = 2 ^ y.smps.length - 1 ↔ okAll y bs = true := by
  unfold rightB okAll
  rw [rbits_full]
  simp
/-- All truths, as the reference lists them. -/
def truths1 (y : Yd) : List (List Int) := ((List.range (many1 y.fields).toNat).map fun (n : Nat) => nthL y.fields (n : Int)).filter (okAll y)
end Go.Proofs.YtkbaaikidhbfmaaGreat
/- Contracts: the reference of the layer 1. No statement is proved here. -/
set_option linter.unusedVariables false
namespace Go.Proofs.YtkbaaikidhbfmaaGreat
open Go.RowKit
theorem c107 (w : World) (a b c v : Value) (hs : List Value) (y : Yd) (bs : List Int) (vat : Int) (h : YdA All w a b c hs y) (hA : Arr All w 1 encI v bs) (h0 : 0 ≤ vat) (h1 : vat < (y.vats.length : Int))
    (hl : bs.length = (nth y.vats vat.toNat).length) (h5 : bs.length ≤ 5) (hb : Bd 20 bs) (hk : Bd 9 (nth y.vats vat.toNat)) : Ex 107 [.agg #[a, b, c], v, .int .i64 vat] w (.int .i64 (dot bs (nth y.vats vat.toNat))) := by
  have i1 := h.fields.v1
  have i2 := h.vats.arr.v1
  have i3 := h.smps.v1
  have i4 := hA.v1
  have ha := h.vats.arr
  have hlen := h.vats.len
  have hrow := h.vats.row vat.toNat (by omega)
  refine Rt_of Tryz.func107 rfl Tryz.ntmps107 rfl ?_
  repeat' (first | apply s_ | ((first | apply JO_ob | apply GD_ex | apply GL_ex); exact rfl; first | exact ob1) | ((first | apply b_ | apply a_ | apply i_); exact z_; intro _) | ((first | apply p_ | apply JO_yes | apply GC_t); exact z_) | (apply n_; exact z_) | (apply GC_f; exact z_) | (apply GX_block_on; exact z_) | refine GC_drawA (id := 5) [0, 1, 2, 3, 4, 5, 6, 7, 8, 9, 10, 11, 12, 13, 14] [15] (by kernel_rfl) ?_ | ((first | apply GD_at | apply GL_at | apply GD_no | apply GL_no); exact rfl) | apply DFin_0 | (apply q1_; exact z_) | (apply q0_; exact z_) | (apply q2_; exact z_) | (apply c_; exact z_; all_goals intro _) | (apply g_; exact z_; all_goals intro _))
  rename_i p
  refine GC_loop0 (fun k => bs.length - k) (fun k => [(3, .pointer (some ⟨p, 0, none⟩)), (1, v), (2, .int .i64 vat), (7, .int .i64 (dotN bs (nth y.vats vat.toNat) k)), (8, .int .i64 (k : Int))]) (fun k => k ≤ bs.length) 0 ⟨rfl, rfl, rfl, rfl, rfl, trivial⟩ (by omega) ?_
  intro k hk'
  by_cases hlt : k < bs.length
  · have e1 := dotN_bd hb hk hl k hk'
    have e2 := mul_bd (hb k hlt).1 (hb k hlt).2 (hk k (by omega)).1 (hk k (by omega)).2
    repeat' (first | apply s_ | ((first | apply JO_ob | apply GD_ex | apply GL_ex); exact rfl; first | exact ob1 | exact Ob_mul rfl rfl (by omega)) | ((first | apply b_ | apply a_ | apply i_); exact z_; intro _) | ((first | apply p_ | apply JO_yes | apply GC_t); exact z_) | (apply n_; exact z_) | (apply GC_f; exact z_) | (apply GX_block_on; exact z_) | refine GC_drawA (id := 5) [0, 1, 2, 3, 4, 5, 6, 7, 8, 9, 10, 11, 12, 13, 14] [15] (by kernel_rfl) ?_ | ((first | apply GD_at | apply GL_at | apply GD_no | apply GL_no); exact rfl) | apply DFin_0 | (apply q1_; exact z_) | (apply q0_; exact z_) | (apply q2_; exact z_) | (apply c_; exact z_; all_goals intro _) | (apply g_; exact z_; all_goals intro _))
    exact GX_loop0 (k + 1) ⟨rfl, rfl, rfl, rfl, rfl, trivial⟩ (by omega) (by omega)
  · repeat' (first | apply s_ | ((first | apply JO_ob | apply GD_ex | apply GL_ex); exact rfl; first | exact ob1) | ((first | apply b_ | apply a_ | apply i_); exact z_; intro _) | ((first | apply p_ | apply JO_yes | apply GC_t); exact z_) | (apply n_; exact z_) | (apply GC_f; exact z_) | (apply GX_block_on; exact z_) | refine GC_drawA (id := 5) [0, 1, 2, 3, 4, 5, 6, 7, 8, 9, 10, 11, 12, 13, 14] [15] (by kernel_rfl) ?_ | ((first | apply GD_at | apply GL_at | apply GD_no | apply GL_no); exact rfl) | apply DFin_0 | (apply q1_; exact z_) | (apply q0_; exact z_) | (apply q2_; exact z_) | (apply c_; exact z_; all_goals intro _) | (apply g_; exact z_; all_goals intro _))
    refine GX_ex rfl rfl mem_ ?_
    rw [show k = bs.length by omega]; rfl
theorem c134 (w : World) (a b c : Value) (hs : List Value) (y : Yd) (h : YdA All w a b c hs y) (hl : y.smps.length ≤ 30) : Ex 134 [.agg #[a, b, c]] w (.int .i64 ((2 ^ y.smps.length : Nat) - 1 : Int)) := by
  have i1 := h.fields.v1
  have i2 := h.vats.arr.v1
  have i3 := h.smps.v1
  have ha := h.smps
  have h2 := pow63 (i := y.smps.length) (by omega)
  have h3 : (0 : Int) ≤ ((2 ^ y.smps.length : Nat) : Int) := Int.natCast_nonneg _
  refine Rt_of Tryz.func134 rfl Tryz.ntmps134 rfl ?_
  repeat' (first | apply s_ | (apply JO_ob; exact rfl; first | exact ob1 | exact Ob_convert rfl (wrapU (Int.natCast_nonneg _) (by omega)) | exact Ob_shl1 rfl rfl (by omega)) | ((first | apply b_ | apply a_ | apply i_); exact z_; intro _) | ((first | apply p_ | apply JO_yes | apply GC_t); exact z_) | (apply n_; exact z_) | (apply GC_f; exact z_) | (apply GX_block_on; exact z_) | (apply c_; exact z_; all_goals intro _))
  (first | exact GX_ex rfl rfl mem_ rfl | exact GX_exc rfl rfl mem_ rfl mem_ rfl)
end Go.Proofs.YtkbaaikidhbfmaaGreat
/- Contracts: the reference of the layer 1, its truths. No statement is proved here. -/
set_option linter.unusedVariables false
namespace Go.Proofs.YtkbaaikidhbfmaaGreat
open Go.RowKit
theorem c99 (w : World) (a b c : Value) (hs : List Value) (y : Yd) (h : YdA All w a b c hs y) (hf : OkF y.fields) (hl : y.fields.length ≤ 30) : Ex 99 [.agg #[a, b, c]] w (.int .i64 (many1 y.fields)) := by
  have i1 := h.fields.v1
  have i2 := h.vats.arr.v1
  have i3 := h.smps.v1
  have ha := h.fields
  refine Rt_of Tryz.func99 rfl Tryz.ntmps99 rfl ?_
  repeat' (first | apply s_ | (apply JO_ob; exact rfl; first | exact ob1) | ((first | apply b_ | apply a_ | apply i_); exact z_; intro _) | ((first | apply p_ | apply JO_yes | apply GC_t); exact z_) | (apply n_; exact z_) | (apply GC_f; exact z_) | (apply GX_block_on; exact z_) | (apply c_; exact z_; all_goals intro _))
  rename_i p
  refine GC_loop0 (fun k => y.fields.length - k) (fun k => [(1, .pointer (some ⟨p, 0, none⟩)), (3, .int .i64 (manyN y.fields k)), (4, .int .i64 (k : Int))]) (fun k => k ≤ y.fields.length) 0 ⟨rfl, rfl, rfl, trivial⟩ (by omega) ?_
  intro k hk'
  by_cases hlt : k < y.fields.length
  · have e1 := manyN_bd hf k hk'
    have e2 := szR_bd hf hlt
    have e3 := mul_bd (by omega) e1.2 (by omega) e2.2
    have e4 := hf k hlt
    simp only [szR] at e3
    repeat' (first | apply s_ | (apply JO_ob; exact rfl; first | exact ob1 | exact Ob_call rfl (fun w hw => c139 _ _ (by omega) (by omega) (by omega) w) | exact Ob_mul rfl rfl (by omega)) | ((first | apply b_ | apply a_ | apply i_); exact z_; intro _) | ((first | apply p_ | apply JO_yes | apply GC_t); exact z_) | (apply n_; exact z_) | (apply GC_f; exact z_) | (apply GX_block_on; exact z_) | (apply c_; exact z_; all_goals intro _))
    exact GX_loop0 (k + 1) ⟨rfl, rfl, rfl, trivial⟩ (by omega) (by omega)
  · repeat' (first | apply s_ | (apply JO_ob; exact rfl; first | exact ob1) | ((first | apply b_ | apply a_ | apply i_); exact z_; intro _) | ((first | apply p_ | apply JO_yes | apply GC_t); exact z_) | (apply n_; exact z_) | (apply GC_f; exact z_) | (apply GX_block_on; exact z_) | (apply c_; exact z_; all_goals intro _))
    refine GX_ex rfl rfl mem_ ?_
    rw [show k = y.fields.length by omega]; rfl
theorem c133 (w : World) (a b c v : Value) (hs : List Value) (y : Yd) (bs : List Int) (h : YdA All w a b c hs y) (hA : Arr All w 1 encI v bs) (ho : OkY y) (hl : bs.length = y.fields.length) (hb : Bd 20 bs) :
    Ex 133 [.agg #[a, b, c], v] w (.int .i64 ((rightB y bs : Nat) : Int)) := by
  have i1 := h.fields.v1
  have i2 := h.vats.arr.v1
  have i3 := h.smps.v1
  have i4 := hA.v1
  have ha := h.smps
  have s5 := ho.s5
  have f5 := ho.f5
  refine Rt_of Tryz.func133 rfl Tryz.ntmps133 rfl ?_
  repeat' (first | apply s_ | ((first | apply JO_ob | apply GD_ex | apply GL_ex); exact rfl; first | exact ob1) | ((first | apply b_ | apply a_ | apply i_); exact z_; intro _) | ((first | apply p_ | apply JO_yes | apply GC_t); exact z_) | (apply n_; exact z_) | (apply GC_f; exact z_) | (apply GX_block_on; exact z_) | refine GC_drawA (id := 6) [0, 1, 2, 3, 4, 5, 6, 7, 8, 9, 10, 11] [] (by kernel_rfl) ?_ | ((first | apply GD_at | apply GL_at | apply GD_no | apply GL_no); exact rfl) | apply DFin_0 | (apply q1_; exact z_) | (apply q0_; exact z_) | (apply q2_; exact z_) | (apply c_; exact z_; all_goals intro _) | (apply g_; exact z_; all_goals intro _))
  rename_i p
  refine GC_loop0 (fun k => y.smps.length - k) (fun k => [(2, .pointer (some ⟨p, 0, none⟩)), (1, v), (5, .int .i64 ((rbits (okS y bs) k : Nat) : Int)), (6, .int .i64 (k : Int))]) (fun k => k ≤ y.smps.length) 0 ⟨rfl, rfl, rfl, rfl, trivial⟩ (by omega) ?_
  intro k hk'
  by_cases hlt : k < y.smps.length
  · have e1 := ho.s k hlt
    have e2 := ho.v (nth y.smps k).vat.toNat (by omega)
    have e3 := rbits_lt (okS y bs) k
    repeat' (first | apply s_ | ((first | apply JO_ob | apply GD_ex | apply GL_ex); exact rfl; first | exact ob1 | exact Ob_call rfl (fun w hw => c107 w a b c v hs y bs _ (hw.yd (.head _) h) (hw.arr (.head _) hA) e1.1.1 e1.1.2 (by omega) (by omega) hb e2.2) | exact Ob_call rfl (fun w hw => c47 _ _ _ w) | exact Ob_convert rfl (wrapU (by omega) (by omega)) | exact Ob_shl1 rfl rfl (by omega) | exact Ob_orbit rfl rfl e3 (by omega)) | ((first | apply b_ | apply a_ | apply i_); exact z_; intro _) | ((first | apply p_ | apply JO_yes | apply GC_t); exact z_) | (apply n_; exact z_) | (apply GC_f; exact z_) | (apply GX_block_on; exact z_) | refine GC_drawA (id := 6) [0, 1, 2, 3, 4, 5, 6, 7, 8, 9, 10, 11] [] (by kernel_rfl) ?_ | ((first | apply GD_at | apply GL_at | apply GD_no | apply GL_no); exact rfl) | apply DFin_0 | (apply q1_; exact z_) | (apply q0_; exact z_) | (apply q2_; exact z_) | (apply c_; exact z_; all_goals intro _) | (apply g_; exact z_; all_goals intro _))
    have hd : decide ((nth y.smps k).lo ≤ dot bs (nth y.vats (nth y.smps k).vat.toNat) ∧ dot bs (nth y.vats (nth y.smps k).vat.toNat) ≤ (nth y.smps k).hi) = okS y bs k := rfl
    rw [hd]
    cases hc : okS y bs k
    · repeat' (first | apply s_ | ((first | apply JO_ob | apply GD_ex | apply GL_ex); exact rfl; first | exact ob1) | ((first | apply b_ | apply a_ | apply i_); exact z_; intro _) | ((first | apply p_ | apply JO_yes | apply GC_t); exact z_) | (apply n_; exact z_) | (apply GC_f; exact z_) | (apply GX_block_on; exact z_) | refine GC_drawA (id := 6) [0, 1, 2, 3, 4, 5, 6, 7, 8, 9, 10, 11] [] (by kernel_rfl) ?_ | ((first | apply GD_at | apply GL_at | apply GD_no | apply GL_no); exact rfl) | apply DFin_0 | (apply q1_; exact z_) | (apply q0_; exact z_) | (apply q2_; exact z_) | (apply c_; exact z_; all_goals intro _) | (apply g_; exact z_; all_goals intro _))
      refine GX_loop (k + 1) ⟨rfl, rfl, ?_, rfl, trivial⟩ (by omega) (by omega) (fun w hw => hw.weak (fun r h => h) (List.Sublist.cons _ (List.Sublist.refl _)))
      rw [show rbits (okS y bs) (k + 1) = rbits (okS y bs) k by simp [rbits, hc]]; rfl
    · repeat' (first | apply s_ | ((first | apply JO_ob | apply GD_ex | apply GL_ex); exact rfl; first | exact ob1 | exact Ob_convert rfl (wrapU (by omega) (by omega)) | exact Ob_shl1 rfl rfl (by omega) | exact Ob_orbit rfl rfl e3 (by omega)) | ((first | apply b_ | apply a_ | apply i_); exact z_; intro _) | ((first | apply p_ | apply JO_yes | apply GC_t); exact z_) | (apply n_; exact z_) | (apply GC_f; exact z_) | (apply GX_block_on; exact z_) | refine GC_drawA (id := 6) [0, 1, 2, 3, 4, 5, 6, 7, 8, 9, 10, 11] [] (by kernel_rfl) ?_ | ((first | apply GD_at | apply GL_at | apply GD_no | apply GL_no); exact rfl) | apply DFin_0 | (apply q1_; exact z_) | (apply q0_; exact z_) | (apply q2_; exact z_) | (apply c_; exact z_; all_goals intro _) | (apply g_; exact z_; all_goals intro _))
      refine GX_loop (k + 1) ⟨rfl, rfl, ?_, rfl, trivial⟩ (by omega) (by omega) (fun w hw => hw.weak (fun r h => h) (List.Sublist.cons _ (List.Sublist.refl _)))
      rw [show rbits (okS y bs) (k + 1) = rbits (okS y bs) k + 2 ^ k by simp [rbits, hc]]; rfl
  · repeat' (first | apply s_ | ((first | apply JO_ob | apply GD_ex | apply GL_ex); exact rfl; first | exact ob1) | ((first | apply b_ | apply a_ | apply i_); exact z_; intro _) | ((first | apply p_ | apply JO_yes | apply GC_t); exact z_) | (apply n_; exact z_) | (apply GC_f; exact z_) | (apply GX_block_on; exact z_) | refine GC_drawA (id := 6) [0, 1, 2, 3, 4, 5, 6, 7, 8, 9, 10, 11] [] (by kernel_rfl) ?_ | ((first | apply GD_at | apply GL_at | apply GD_no | apply GL_no); exact rfl) | apply DFin_0 | (apply q1_; exact z_) | (apply q0_; exact z_) | (apply q2_; exact z_) | (apply c_; exact z_; all_goals intro _) | (apply g_; exact z_; all_goals intro _))
    refine GX_ex rfl rfl mem_ ?_
    rw [show k = y.smps.length by omega]; rfl
theorem c132 (w : World) (a b c : Value) (hs : List Value) (y : Yd) (m : Int) (h : YdA All w a b c hs y) (hf : OkF y.fields) (hl : y.fields.length ≤ 30) (h0 : 0 ≤ m) (h1 : m ≤ 1000000) :
    Rt 132 [.agg #[a, b, c], .int .i64 m] w (NewInts w (nthL y.fields m)) := by
  have i1 := h.fields.v1
  have i2 := h.vats.arr.v1
  have i3 := h.smps.v1
  have ha := h.fields
  refine Rt_of Tryz.func132 rfl Tryz.ntmps132 rfl ?_
  repeat' (first | apply s_ | ((first | apply JO_ob | apply GD_ex | apply GL_ex); exact rfl; first | exact ob1) | ((first | apply b_ | apply a_ | apply i_); exact z_; intro _) | ((first | apply p_ | apply JO_yes | apply GC_t); exact z_) | (apply n_; exact z_) | (apply GC_f; exact z_) | (apply GX_block_on; exact z_) | refine GC_drawB (id := 6) [1, 2, 3, 4, 5, 6, 7, 8, 9, 10] [0] [11, 12, 13] _ (by kernel_rfl) (List.Sublist.refl _) ?_ | ((first | apply GD_at | apply GL_at | apply GD_no | apply GL_no); exact rfl) | apply DFin_0 | (apply q1_; exact z_) | (apply q0_; exact z_) | (apply q2_; exact z_) | (apply c_; exact z_; all_goals intro _) | (apply g_; exact z_; all_goals intro _))
  rename_i p
  refine GC_loop (α := Nat × Value × List Value) (fun s => y.fields.length - s.1) (fun s => [(2, .pointer (some ⟨p, 0, none⟩)), (1, .int .i64 (divN y.fields m s.1)), (5, s.2.1), (6, .int .i64 (s.1 : Int))]) (fun _ => [((fun _ => True), w)])
    (fun s => (p, .cells #[a, b, c] 26) :: rowH s.2.1 3 (((List.range s.1).map (digit y.fields m)).flatMap encI ++ s.2.2))
    (fun s => s.1 ≤ y.fields.length ∧ Own 1 encI s.2.1 ((List.range s.1).map (digit y.fields m)) s.2.2) (0, .slice none 0 0, []) ⟨rfl, rfl, rfl, rfl, trivial⟩ ⟨Nat.zero_le _, Own.nil fun _ => rfl⟩ (fun w hw => hw) ?_
  rintro ⟨k, v1, s1⟩ ⟨hk, ho1⟩
  simp only at hk ho1 ⊢
  have j1 := ho1.v1
  by_cases hlt : k < y.fields.length
  · have e1 := divN_bd hf h0 k hk
    have e2 := szR_bd hf hlt
    have e4 := hf k hlt
    have e5 := digit_bd hf (n := m) hlt
    simp only [szR] at e2
    simp only [digit, szR] at e5
    repeat' (first | apply s_ | ((first | apply JO_ob | apply GD_ex | apply GL_ex); exact rfl; first | exact ob1 | exact Ob_call rfl (fun w hw => c139 _ _ (by omega) (by omega) (by omega) w) | exact Ob_rem rfl rfl (by omega) (by omega) | exact Ob_quo rfl rfl (by omega) (by omega) (by omega)) | ((first | apply b_ | apply a_ | apply i_); exact z_; intro _) | ((first | apply p_ | apply JO_yes | apply GC_t); exact z_) | (apply n_; exact z_) | (apply GC_f; exact z_) | (apply GX_block_on; exact z_) | refine GC_drawB (id := 6) [1, 2, 3, 4, 5, 6, 7, 8, 9, 10] [0] [11, 12, 13] _ (by kernel_rfl) (List.Sublist.refl _) ?_ | ((first | apply GD_at | apply GL_at | apply GD_no | apply GL_no); exact rfl) | apply DFin_0 | (apply q1_; exact z_) | (apply q0_; exact z_) | (apply q2_; exact z_) | (apply c_; exact z_; all_goals intro _) | (apply g_; exact z_; all_goals intro _))
    refine JO_append (xs := (List.range k).map (digit y.fields m)) (ys := [digit y.fields m k]) [_, _] rfl rfl rfl ho1 (List.Perm.refl _) (fun w hw => hw.slOwn mem_ rfl) rfl (by simp; omega) ?_
    intro v2 s2 ho2
    have j2 := ho2.v1
    have e6 : (List.range k).map (digit y.fields m) ++ [digit y.fields m k] = (List.range (k + 1)).map (digit y.fields m) := by simp [List.range_succ]
    rw [e6] at ho2 ⊢
    repeat' (first | apply s_ | ((first | apply JO_ob | apply GD_ex | apply GL_ex); exact rfl; first | exact ob1 | exact Ob_quo rfl rfl (by omega) (by omega) (by omega)) | ((first | apply b_ | apply a_ | apply i_); exact z_; intro _) | ((first | apply p_ | apply JO_yes | apply GC_t); exact z_) | (apply n_; exact z_) | (apply GC_f; exact z_) | (apply GX_block_on; exact z_) | refine GC_drawB (id := 6) [1, 2, 3, 4, 5, 6, 7, 8, 9, 10] [0] [11, 12, 13] _ (by kernel_rfl) (List.Sublist.refl _) ?_ | ((first | apply GD_at | apply GL_at | apply GD_no | apply GL_no); exact rfl) | apply DFin_0 | (apply q1_; exact z_) | (apply q0_; exact z_) | (apply q2_; exact z_) | (apply c_; exact z_; all_goals intro _) | (apply g_; exact z_; all_goals intro _))
    exact GX_loop (k + 1, v2, s2) ⟨rfl, rfl, rfl, rfl, trivial⟩ (by simp only; omega) ⟨by simp only; omega, ho2⟩ fun w hw => hw.weak (fun r h => h) (List.Sublist.cons _ (List.Sublist.refl _))
  · have hkl : k = y.fields.length := by omega
    subst hkl
    repeat' (first | apply s_ | ((first | apply JO_ob | apply GD_ex | apply GL_ex); exact rfl; first | exact ob1) | ((first | apply b_ | apply a_ | apply i_); exact z_; intro _) | ((first | apply p_ | apply JO_yes | apply GC_t); exact z_) | (apply n_; exact z_) | (apply GC_f; exact z_) | (apply GX_block_on; exact z_) | refine GC_drawB (id := 6) [1, 2, 3, 4, 5, 6, 7, 8, 9, 10] [0] [11, 12, 13] _ (by kernel_rfl) (List.Sublist.refl _) ?_ | ((first | apply GD_at | apply GL_at | apply GD_no | apply GL_no); exact rfl) | apply DFin_0 | (apply q1_; exact z_) | (apply q0_; exact z_) | (apply q2_; exact z_) | (apply c_; exact z_; all_goals intro _) | (apply g_; exact z_; all_goals intro _))
    refine GX_ret1 rfl rfl fun w' hw' => ⟨hw'.kp mem_, ho1.ret (A := [_]) (by decide) hw' mem_⟩
end Go.Proofs.YtkbaaikidhbfmaaGreat
/- Contracts: the reference of the layer 1, all truths. No statement is proved here. -/
set_option linter.unusedVariables false
namespace Go.Proofs.YtkbaaikidhbfmaaGreat
open Go.RowKit
/-- The truths among the first n. -/
def truthsTo (y : Yd) (n : Nat) : List (List Int) := ((List.range n).map fun (n : Nat) => nthL y.fields (n : Int)).filter (okAll y)
theorem truthsTo_yes {y : Yd} {n : Nat} (h : okAll y (nthL y.fields (n : Int)) = true) : truthsTo y (n + 1) = truthsTo y n ++ [nthL y.fields (n : Int)] := by
  simp [truthsTo, List.range_succ, h]
theorem truthsTo_no {y : Yd} {n : Nat} (h : okAll y (nthL y.fields (n : Int)) = false) : truthsTo y (n + 1) = truthsTo y n := by
  simp [truthsTo, List.range_succ, h]
theorem truthsTo_len (y : Yd) (n : Nat) : (truthsTo y n).length ≤ n := by
  unfold truthsTo
  exact Nat.le_trans (List.length_filter_le _ _) (by simp)
theorem c96 (w : World) (a b c : Value) (hs : List Value) (y : Yd) (h : YdA All w a b c hs y) (ho : OkY y) :
    Rt 96 [.agg #[a, b, c]] w fun v w' => Keep w w' ∧ ∃ hs', Nest (New w) w' v hs' (truths1 y) := by
  have i1 := h.fields.v1
  have i2 := h.vats.arr.v1
  have i3 := h.smps.v1
  have f5 := ho.f5
  have s5 := ho.s5
  have hm := manyN_bd ho.f y.fields.length (Nat.le_refl _)
  have hmm : manyN y.fields y.fields.length = many1 y.fields := rfl
  rw [hmm] at hm
  refine Rt_of Tryz.func96 rfl Tryz.ntmps96 rfl ?_
  repeat' (first | apply s_ | ((first | apply JO_ob | apply GD_ex | apply GL_ex); exact rfl; first | exact ob1) | ((first | apply b_ | apply a_ | apply i_); exact z_; intro _) | ((first | apply p_ | apply JO_yes | apply GC_t); exact z_) | (apply n_; exact z_) | (apply GC_f; exact z_) | (apply GX_block_on; exact z_) | refine GC_drawA (id := 6) [0, 1, 2, 3, 4, 5] [] (by kernel_rfl) ?_ | ((first | apply GD_at | apply GL_at | apply GD_no | apply GL_no); exact rfl) | apply DFin_0 | (apply q1_; exact z_) | (apply q0_; exact z_) | (apply q2_; exact z_) | (apply c_; exact z_; all_goals intro _) | (apply g_; exact z_; all_goals intro _))
  rename_i p
  let Hf : Value → List Value → List Value → Hp := fun v hs2 s2 => (p, .cells #[a, b, c] 26) :: rowH v 33 (hs2.flatMap encO ++ s2)
  refine GC_loopw (α := Nat × Value × List Value × List Value × World) (fun s => (many1 y.fields).toNat - s.1) (fun s => [(1, .pointer (some ⟨p, 0, none⟩)), (3, s.2.1), (4, .int .i64 (s.1 : Int))])
    (fun s => [(OffN w (Hf s.2.1 s.2.2.1 s.2.2.2.1), s.2.2.2.2), ((fun _ => True), w)]) (fun s => Hf s.2.1 s.2.2.1 s.2.2.2.1)
    (fun s => (s.1 : Int) ≤ many1 y.fields ∧ Own 1 encO s.2.1 s.2.2.1 s.2.2.2.1 ∧ s.2.2.1.length = (truthsTo y s.1).length ∧ ∀ i, i < (truthsTo y s.1).length → Arr (OffN w (Hf s.2.1 s.2.2.1 s.2.2.2.1)) s.2.2.2.2 1 encI (nth s.2.2.1 i) (nth (truthsTo y s.1) i)) ?_ ?_
  · intro u hu
    exact ⟨(0, .slice none 0 0, [], [], u), ⟨rfl, rfl, rfl, trivial⟩, ⟨by simp only; omega, Own.nil fun _ => rfl, rfl, fun i hi => absurd hi (Nat.not_lt_zero i)⟩, hu.offN⟩
  rintro ⟨k, v2, hs2, s2, u⟩ ⟨hk, ho2, hl2, hrows⟩
  simp only at hk ho2 hl2 hrows ⊢
  have j2 := ho2.v1
  have htl := truthsTo_len y k
  by_cases hlt : (k : Int) < many1 y.fields
  · simp only [Hf]
    repeat' (first | apply s_ | ((first | apply JO_ob | apply GD_ex | apply GL_ex); exact rfl; first | exact ob1 | exact Ob_call rfl (fun w hw => c99 w a b c hs y (hw.yd mem_ h) ho.f (by omega))) | ((first | apply b_ | apply a_ | apply i_); exact z_; intro _) | ((first | apply p_ | apply JO_yes | apply GC_t); exact z_) | (apply n_; exact z_) | (apply GC_f; exact z_) | (apply GX_block_on; exact z_) | refine GC_drawA (id := 6) [0, 1, 2, 3, 4, 5] [] (by kernel_rfl) ?_ | ((first | apply GD_at | apply GL_at | apply GD_no | apply GL_no); exact rfl) | apply DFin_0 | (apply q1_; exact z_) | (apply q0_; exact z_) | (apply q2_; exact z_) | (apply c_; exact z_; all_goals intro _) | (apply g_; exact z_; all_goals intro _))
    refine JO_call (S := fun w0 r w' => Arr (New w0) w' 1 encI r (nthL y.fields (k : Int))) rfl rfl (fun w5 hw5 => c132 w5 a b c hs y (k : Int) (hw5.yd mem_ h) ho.f (by omega) (by omega) (by omega)) ?_
    intro r u0 u1 hu0 hu1 hk01 hS
    have ir2 := hS.v1
    repeat' (first | apply s_ | ((first | apply JO_ob | apply GD_ex | apply GL_ex); exact rfl; first | exact ob1 | exact Ob_call rfl (fun w hw => c133 w a b c r hs y (nthL y.fields (k : Int)) (hw.yd mem_ h) ((hw.arr mem_ hS).weaken fun _ _ _ => trivial) ho (nthL_len _ _) (nthL_bd ho.f _)) | exact Ob_call rfl (fun w hw => c134 w a b c hs y (hw.yd mem_ h) (by omega))) | ((first | apply b_ | apply a_ | apply i_); exact z_; intro _) | ((first | apply p_ | apply JO_yes | apply GC_t); exact z_) | (apply n_; exact z_) | (apply GC_f; exact z_) | (apply GX_block_on; exact z_) | refine GC_drawA (id := 6) [0, 1, 2, 3, 4, 5] [] (by kernel_rfl) ?_ | ((first | apply GD_at | apply GL_at | apply GD_no | apply GL_no); exact rfl) | apply DFin_0 | (apply q1_; exact z_) | (apply q0_; exact z_) | (apply q2_; exact z_) | (apply c_; exact z_; all_goals intro _) | (apply g_; exact z_; all_goals intro _))
    · rename_i hc
      have hok : okAll y (nthL y.fields (k : Int)) = true := (rightB_full y _).1 (by have := Nat.two_pow_pos y.smps.length; omega)
      refine JO_append (xs := hs2) (ys := [r]) [_, _] rfl rfl rfl ho2 (List.Perm.refl _) (fun w hw => hw.slOwn mem_ rfl) (by simp [encO, ir2.o]) (by simp; omega) ?_
      intro v3 s3 ho3
      have j3 := ho3.v1
      repeat' (first | apply s_ | ((first | apply JO_ob | apply GD_ex | apply GL_ex); exact rfl; first | exact ob1) | ((first | apply b_ | apply a_ | apply i_); exact z_; intro _) | ((first | apply p_ | apply JO_yes | apply GC_t); exact z_) | (apply n_; exact z_) | (apply GC_f; exact z_) | (apply GX_block_on; exact z_) | refine GC_drawA (id := 6) [0, 1, 2, 3, 4, 5] [] (by kernel_rfl) ?_ | ((first | apply GD_at | apply GL_at | apply GD_no | apply GL_no); exact rfl) | apply DFin_0 | (apply q1_; exact z_) | (apply q0_; exact z_) | (apply q2_; exact z_) | (apply c_; exact z_; all_goals intro _) | (apply g_; exact z_; all_goals intro _))
      refine GX_loopw fun w5 hw5 => ?_
      have hw6 := hw5.weak (R := _) (H := Hf v3 (hs2 ++ [r]) s3) (fun r h => h) (List.Sublist.cons _ (List.Sublist.refl _))
      refine ⟨(k + 1, v3, hs2 ++ [r], s3, w5), ⟨rfl, rfl, rfl, trivial⟩, (by simp only; omega), ⟨by simp only; omega, ho3, by simp [hl2, truthsTo_yes hok], fun i hi => ?_⟩, hw6.offN.weak (fun r h => ?_) (List.Sublist.refl _)⟩
      · simp only [truthsTo_yes hok, List.length_append, List.length_singleton] at hi ⊢
        rcases Nat.lt_or_ge i (truthsTo y k).length with hik | hik
        · rw [nth_app_l (by omega), nth_app_l hik]
          exact hw6.toOff (.tail _ (.head _)) (fun b hb => hb.1) (hrows i hik)
        · have e : i = (truthsTo y k).length := by omega
          rw [nth_app_last (by omega), nth_app_last e]
          exact hw6.toOff (.head _) (fun b hb => Nat.le_trans hu0.b0le hb) hS
      · simp only [List.mem_cons, List.not_mem_nil, or_false] at h ⊢
        rcases h with h | h
        · exact .inl h
        · exact .inr (.inr (.inr h))
    · rename_i hc
      have hok : okAll y (nthL y.fields (k : Int)) = false := by
        rw [← Bool.not_eq_true]
        intro h
        have := (rightB_full y _).2 h
        have := Nat.two_pow_pos y.smps.length
        omega
      refine GX_loopw fun w5 hw5 => ?_
      refine ⟨(k + 1, v2, hs2, s2, w5), ⟨rfl, rfl, rfl, trivial⟩, (by simp only; omega), ⟨by simp only; omega, ho2, by simp only [truthsTo_no hok]; exact hl2, fun i hi => ?_⟩, hw5.offN.weak (fun r h => ?_) (List.Sublist.refl _)⟩
      · simp only [truthsTo_no hok] at hi ⊢
        exact hw5.toOff (.tail _ (.head _)) (fun b hb => hb.1) (hrows i hi)
      · simp only [List.mem_cons, List.not_mem_nil, or_false] at h ⊢
        rcases h with h | h
        · exact .inl h
        · exact .inr (.inr (.inr h))
  · simp only [Hf]
    repeat' (first | apply s_ | ((first | apply JO_ob | apply GD_ex | apply GL_ex); exact rfl; first | exact ob1 | exact Ob_call rfl (fun w hw => c99 w a b c hs y (hw.yd mem_ h) ho.f (by omega))) | ((first | apply b_ | apply a_ | apply i_); exact z_; intro _) | ((first | apply p_ | apply JO_yes | apply GC_t); exact z_) | (apply n_; exact z_) | (apply GC_f; exact z_) | (apply GX_block_on; exact z_) | refine GC_drawA (id := 6) [0, 1, 2, 3, 4, 5] [] (by kernel_rfl) ?_ | ((first | apply GD_at | apply GL_at | apply GD_no | apply GL_no); exact rfl) | apply DFin_0 | (apply q1_; exact z_) | (apply q0_; exact z_) | (apply q2_; exact z_) | (apply c_; exact z_; all_goals intro _) | (apply g_; exact z_; all_goals intro _))
    have hkl : k = (many1 y.fields).toNat := by omega
    have et : truthsTo y k = truths1 y := by rw [hkl]; rfl
    rw [et] at hl2 hrows
    refine GX_freeze (A := [(p, .cells #[a, b, c] 26)]) ho2 (by decide) ?_
    intro G2 w2 hV hG2
    refine GX_ret1 rfl rfl fun w' hw' => ⟨hw'.kp mem_, hs2, hl2, ?_, fun i hi => ?_⟩
    · exact hV.new hG2 (.tail _ (.head _)) (.head _) hw'
    · exact (hw'.arr (.tail _ (.head _)) (hrows i hi)).weaken fun b hb _ => hb.1
end Go.Proofs.YtkbaaikidhbfmaaGreat
/- Contracts: the reference of the layer 1, its error. No statement is proved here. -/
set_option linter.unusedVariables false
namespace Go.Proofs.YtkbaaikidhbfmaaGreat
open Go.RowKit
theorem all_nth {α : Type} [Inhabited α] {p : α → Bool} {xs : List α} : xs.all p = true ↔ ∀ j, j < xs.length → p (nth xs j) = true := by
  rw [List.all_eq_true]
  constructor
  · intro h j hj; exact h _ (by simp [nth, hj])
  · intro h x hx
    obtain ⟨j, hj, rfl⟩ := List.getElem_of_mem hx
    have := h j hj
    simpa [nth, hj] using this
theorem all_not {α : Type} [Inhabited α] {p : α → Bool} {xs : List α} {k : Nat} (hk : k < xs.length) (h : p (nth xs k) = false) : xs.all p = false := by
  rw [← Bool.not_eq_true]
  intro h2
  rw [all_nth.1 h2 k hk] at h; cases h
def isF (r : Rg) : Bool := decide (0 ≤ r.1 ∧ r.1 ≤ r.2 ∧ r.2 ≤ 20)
def inB (x : Int) : Bool := decide (0 ≤ x ∧ x ≤ 9)
def isV (n : Nat) (l : List Int) : Bool := decide (l.length = n) && l.all inB
def isS (n : Nat) (s : Smp) : Bool := decide (0 ≤ s.vat ∧ s.vat ≤ (n : Int) - 1) && decide (0 ≤ s.lo ∧ s.lo ≤ s.hi ∧ s.hi ≤ 999)
def bigY (y : Yd) : Bool := decide (5 < y.fields.length) || decide (4 < y.vats.length) || decide (5 < y.smps.length)
/-- The error of a yard. -/
def fault1 (y : Yd) : Int := if bigY y = true then 3 else if (y.fields.all isF && y.vats.all (isV y.fields.length) && y.smps.all (isS y.vats.length)) = false then 1 else if 2000 < many1 y.fields then 3 else 0
theorem okF_of {fs : List Rg} (h : fs.all isF = true) : OkF fs := fun i hi => by
  have := all_nth.1 h i hi; simpa [isF] using this
theorem c95 (w : World) (a b c : Value) (hs : List Value) (y : Yd) (h : YdA All w a b c hs y) : Ex 95 [.agg #[a, b, c]] w (.int .i64 (fault1 y)) := by
  have i1 := h.fields.v1
  have i2 := h.vats.arr.v1
  have i3 := h.smps.v1
  have ha := h.fields
  have hb := h.vats.arr
  have hc := h.smps
  have b1 := ha.bound
  have b2 := hb.bound
  have b3 := hc.bound
  have hlen := h.vats.len
  have big : ∀ (hx : 5 < y.fields.length ∨ 4 < y.vats.length ∨ 5 < y.smps.length), fault1 y = 3 := fun hx => by
    have : bigY y = true := by simp [bigY]; omega
    simp [fault1, this]
  refine Rt_of Tryz.func95 rfl Tryz.ntmps95 rfl ?_
  repeat' (first | apply s_ | ((first | apply JO_ob | apply GD_ex | apply GL_ex); exact rfl; first | exact ob1) | ((first | apply b_ | apply a_ | apply i_); exact z_; intro _) | ((first | apply p_ | apply JO_yes | apply GC_t); exact z_) | (apply n_; exact z_) | (apply GC_f; exact z_) | (apply GX_block_on; exact z_) | refine GC_drawA (id := 11) [0, 1, 2, 3, 4, 5, 6, 7, 8, 9] [] (by kernel_rfl) ?_ | ((first | apply GD_at | apply GL_at | apply GD_no | apply GL_no); exact rfl) | apply DFin_0 | (apply q1_; exact z_) | (apply q0_; exact z_) | (apply q2_; exact z_) | (apply c_; exact z_; all_goals intro _) | (apply g_; exact z_; all_goals intro _))
  · refine GX_ex rfl rfl mem_ ?_
    rw [big (by omega)]
  · refine GX_ex rfl rfl mem_ ?_
    rw [big (by omega)]
  · refine GX_ex rfl rfl mem_ ?_
    rw [big (by omega)]
  rename_i p n1 n2 n3
  have hbig : bigY y = false := by simp [bigY]; omega
  have bad : (y.fields.all isF = false ∨ y.vats.all (isV y.fields.length) = false ∨ y.smps.all (isS y.vats.length) = false) → fault1 y = 1 := fun hx => by
    rcases hx with hx | hx | hx <;> simp [fault1, hbig, hx]
  refine GC_loop0 (fun k => y.fields.length - k) (fun k => [(1, .pointer (some ⟨p, 0, none⟩)), (3, .int .i64 (k : Int))]) (fun k => k ≤ y.fields.length ∧ ∀ j, j < k → isF (nth y.fields j) = true) 0 ⟨rfl, rfl, trivial⟩ ⟨by omega, fun j hj => absurd hj (Nat.not_lt_zero j)⟩ ?_
  rintro k ⟨hk, hno⟩
  by_cases hlt : k < y.fields.length
  · repeat' (first | apply s_ | ((first | apply JO_ob | apply GD_ex | apply GL_ex); exact rfl; first | exact ob1 | exact Ob_call rfl (fun w hw => c131 _ _ _ w)) | ((first | apply b_ | apply a_ | apply i_); exact z_; intro _) | ((first | apply p_ | apply JO_yes | apply GC_t); exact z_) | (apply n_; exact z_) | (apply GC_f; exact z_) | (apply GX_block_on; exact z_) | refine GC_drawA (id := 11) [0, 1, 2, 3, 4, 5, 6, 7, 8, 9] [] (by kernel_rfl) ?_ | ((first | apply GD_at | apply GL_at | apply GD_no | apply GL_no); exact rfl) | apply DFin_0 | (apply q1_; exact z_) | (apply q0_; exact z_) | (apply q2_; exact z_) | (apply c_; exact z_; all_goals intro _) | (apply g_; exact z_; all_goals intro _))
    have hd : decide (0 ≤ (nth y.fields k).1 ∧ (nth y.fields k).1 ≤ (nth y.fields k).2 ∧ (nth y.fields k).2 ≤ 20) = isF (nth y.fields k) := rfl
    rw [hd]
    cases hf : isF (nth y.fields k)
    · repeat' (first | apply s_ | ((first | apply JO_ob | apply GD_ex | apply GL_ex); exact rfl; first | exact ob1) | ((first | apply b_ | apply a_ | apply i_); exact z_; intro _) | ((first | apply p_ | apply JO_yes | apply GC_t); exact z_) | (apply n_; exact z_) | (apply GC_f; exact z_) | (apply GX_block_on; exact z_) | refine GC_drawA (id := 11) [0, 1, 2, 3, 4, 5, 6, 7, 8, 9] [] (by kernel_rfl) ?_ | ((first | apply GD_at | apply GL_at | apply GD_no | apply GL_no); exact rfl) | apply DFin_0 | (apply q1_; exact z_) | (apply q0_; exact z_) | (apply q2_; exact z_) | (apply c_; exact z_; all_goals intro _) | (apply g_; exact z_; all_goals intro _))
      refine GX_ex rfl rfl mem_ ?_
      rw [bad (.inl (all_not hlt hf))]
    · repeat' (first | apply s_ | ((first | apply JO_ob | apply GD_ex | apply GL_ex); exact rfl; first | exact ob1) | ((first | apply b_ | apply a_ | apply i_); exact z_; intro _) | ((first | apply p_ | apply JO_yes | apply GC_t); exact z_) | (apply n_; exact z_) | (apply GC_f; exact z_) | (apply GX_block_on; exact z_) | refine GC_drawA (id := 11) [0, 1, 2, 3, 4, 5, 6, 7, 8, 9] [] (by kernel_rfl) ?_ | ((first | apply GD_at | apply GL_at | apply GD_no | apply GL_no); exact rfl) | apply DFin_0 | (apply q1_; exact z_) | (apply q0_; exact z_) | (apply q2_; exact z_) | (apply c_; exact z_; all_goals intro _) | (apply g_; exact z_; all_goals intro _))
      refine GX_loop0 (k + 1) ⟨rfl, rfl, trivial⟩ (by omega) ⟨by omega, fun j hj => ?_⟩
      rcases Nat.lt_or_ge j k with h | h
      · exact hno j h
      · rw [show j = k by omega]; exact hf
  have hF : y.fields.all isF = true := all_nth.2 fun j hj => hno j (by omega)
  repeat' (first | apply s_ | ((first | apply JO_ob | apply GD_ex | apply GL_ex); exact rfl; first | exact ob1) | ((first | apply b_ | apply a_ | apply i_); exact z_; intro _) | ((first | apply p_ | apply JO_yes | apply GC_t); exact z_) | (apply n_; exact z_) | (apply GC_f; exact z_) | (apply GX_block_on; exact z_) | refine GC_drawA (id := 11) [0, 1, 2, 3, 4, 5, 6, 7, 8, 9] [] (by kernel_rfl) ?_ | ((first | apply GD_at | apply GL_at | apply GD_no | apply GL_no); exact rfl) | apply DFin_0 | (apply q1_; exact z_) | (apply q0_; exact z_) | (apply q2_; exact z_) | (apply c_; exact z_; all_goals intro _) | (apply g_; exact z_; all_goals intro _))
  refine GC_loop0 (fun k => y.vats.length - k) (fun k => [(1, .pointer (some ⟨p, 0, none⟩)), (4, .int .i64 (k : Int))]) (fun k => k ≤ y.vats.length ∧ ∀ j, j < k → isV y.fields.length (nth y.vats j) = true) 0 ⟨rfl, rfl, trivial⟩ ⟨by omega, fun j hj => absurd hj (Nat.not_lt_zero j)⟩ ?_
  rintro k ⟨hk, hno⟩
  by_cases hlt : k < y.vats.length
  · have hrow := h.vats.row k hlt
    have br := hrow.bound
    repeat' (first | apply s_ | ((first | apply JO_ob | apply GD_ex | apply GL_ex); exact rfl; first | exact ob1) | ((first | apply b_ | apply a_ | apply i_); exact z_; intro _) | ((first | apply p_ | apply JO_yes | apply GC_t); exact z_) | (apply n_; exact z_) | (apply GC_f; exact z_) | (apply GX_block_on; exact z_) | refine GC_drawA (id := 11) [0, 1, 2, 3, 4, 5, 6, 7, 8, 9] [] (by kernel_rfl) ?_ | ((first | apply GD_at | apply GL_at | apply GD_no | apply GL_no); exact rfl) | apply DFin_0 | (apply q1_; exact z_) | (apply q0_; exact z_) | (apply q2_; exact z_) | (apply c_; exact z_; all_goals intro _) | (apply g_; exact z_; all_goals intro _))
    · refine GX_ex rfl rfl mem_ ?_
      rw [bad (.inr (.inl (all_not hlt (by simp [isV]; omega))))]
    rename_i hlk
    refine GC_loop0 (fun q => (nth y.vats k).length - q) (fun q => [(1, .pointer (some ⟨p, 0, none⟩)), (4, .int .i64 (k : Int)), (5, .int .i64 (q : Int))]) (fun q => q ≤ (nth y.vats k).length ∧ ∀ j, j < q → inB (nth (nth y.vats k) j) = true) 0 ⟨rfl, rfl, rfl, trivial⟩ ⟨by omega, fun j hj => absurd hj (Nat.not_lt_zero j)⟩ ?_
    rintro q ⟨hq, hnq⟩
    by_cases hlq : q < (nth y.vats k).length
    · repeat' (first | apply s_ | ((first | apply JO_ob | apply GD_ex | apply GL_ex); exact rfl; first | exact ob1 | exact Ob_call rfl (fun w hw => c47 _ _ _ w)) | ((first | apply b_ | apply a_ | apply i_); exact z_; intro _) | ((first | apply p_ | apply JO_yes | apply GC_t); exact z_) | (apply n_; exact z_) | (apply GC_f; exact z_) | (apply GX_block_on; exact z_) | refine GC_drawA (id := 11) [0, 1, 2, 3, 4, 5, 6, 7, 8, 9] [] (by kernel_rfl) ?_ | ((first | apply GD_at | apply GL_at | apply GD_no | apply GL_no); exact rfl) | apply DFin_0 | (apply q1_; exact z_) | (apply q0_; exact z_) | (apply q2_; exact z_) | (apply c_; exact z_; all_goals intro _) | (apply g_; exact z_; all_goals intro _))
      have hd : decide (0 ≤ nth (nth y.vats k) q ∧ nth (nth y.vats k) q ≤ 9) = inB (nth (nth y.vats k) q) := rfl
      rw [hd]
      cases hf : inB (nth (nth y.vats k) q)
      · repeat' (first | apply s_ | ((first | apply JO_ob | apply GD_ex | apply GL_ex); exact rfl; first | exact ob1) | ((first | apply b_ | apply a_ | apply i_); exact z_; intro _) | ((first | apply p_ | apply JO_yes | apply GC_t); exact z_) | (apply n_; exact z_) | (apply GC_f; exact z_) | (apply GX_block_on; exact z_) | refine GC_drawA (id := 11) [0, 1, 2, 3, 4, 5, 6, 7, 8, 9] [] (by kernel_rfl) ?_ | ((first | apply GD_at | apply GL_at | apply GD_no | apply GL_no); exact rfl) | apply DFin_0 | (apply q1_; exact z_) | (apply q0_; exact z_) | (apply q2_; exact z_) | (apply c_; exact z_; all_goals intro _) | (apply g_; exact z_; all_goals intro _))
        refine GX_ex rfl rfl mem_ ?_
        rw [bad (.inr (.inl (all_not hlt (by simp only [isV]; rw [all_not hlq hf, Bool.and_false]))))]
      · repeat' (first | apply s_ | ((first | apply JO_ob | apply GD_ex | apply GL_ex); exact rfl; first | exact ob1) | ((first | apply b_ | apply a_ | apply i_); exact z_; intro _) | ((first | apply p_ | apply JO_yes | apply GC_t); exact z_) | (apply n_; exact z_) | (apply GC_f; exact z_) | (apply GX_block_on; exact z_) | refine GC_drawA (id := 11) [0, 1, 2, 3, 4, 5, 6, 7, 8, 9] [] (by kernel_rfl) ?_ | ((first | apply GD_at | apply GL_at | apply GD_no | apply GL_no); exact rfl) | apply DFin_0 | (apply q1_; exact z_) | (apply q0_; exact z_) | (apply q2_; exact z_) | (apply c_; exact z_; all_goals intro _) | (apply g_; exact z_; all_goals intro _))
        refine GX_loop0 (q + 1) ⟨rfl, rfl, rfl, trivial⟩ (by omega) ⟨by omega, fun j hj => ?_⟩
        rcases Nat.lt_or_ge j q with h | h
        · exact hnq j h
        · rw [show j = q by omega]; exact hf
    · repeat' (first | apply s_ | ((first | apply JO_ob | apply GD_ex | apply GL_ex); exact rfl; first | exact ob1) | ((first | apply b_ | apply a_ | apply i_); exact z_; intro _) | ((first | apply p_ | apply JO_yes | apply GC_t); exact z_) | (apply n_; exact z_) | (apply GC_f; exact z_) | (apply GX_block_on; exact z_) | refine GC_drawA (id := 11) [0, 1, 2, 3, 4, 5, 6, 7, 8, 9] [] (by kernel_rfl) ?_ | ((first | apply GD_at | apply GL_at | apply GD_no | apply GL_no); exact rfl) | apply DFin_0 | (apply q1_; exact z_) | (apply q0_; exact z_) | (apply q2_; exact z_) | (apply c_; exact z_; all_goals intro _) | (apply g_; exact z_; all_goals intro _))
      refine GX_loop0 (k + 1) ⟨rfl, rfl, trivial⟩ (by omega) ⟨by omega, fun j hj => ?_⟩
      rcases Nat.lt_or_ge j k with h | h
      · exact hno j h
      · rw [show j = k by omega]
        have h3 : (nth y.vats k).all inB = true := all_nth.2 fun j hj => hnq j (by omega)
        simp only [isV, h3, Bool.and_true, decide_eq_true_eq]; omega
  have hV : y.vats.all (isV y.fields.length) = true := all_nth.2 fun j hj => hno j (by omega)
  repeat' (first | apply s_ | ((first | apply JO_ob | apply GD_ex | apply GL_ex); exact rfl; first | exact ob1) | ((first | apply b_ | apply a_ | apply i_); exact z_; intro _) | ((first | apply p_ | apply JO_yes | apply GC_t); exact z_) | (apply n_; exact z_) | (apply GC_f; exact z_) | (apply GX_block_on; exact z_) | refine GC_drawA (id := 11) [0, 1, 2, 3, 4, 5, 6, 7, 8, 9] [] (by kernel_rfl) ?_ | ((first | apply GD_at | apply GL_at | apply GD_no | apply GL_no); exact rfl) | apply DFin_0 | (apply q1_; exact z_) | (apply q0_; exact z_) | (apply q2_; exact z_) | (apply c_; exact z_; all_goals intro _) | (apply g_; exact z_; all_goals intro _))
  refine GC_loop0 (fun k => y.smps.length - k) (fun k => [(1, .pointer (some ⟨p, 0, none⟩)), (6, .int .i64 (k : Int))]) (fun k => k ≤ y.smps.length ∧ ∀ j, j < k → isS y.vats.length (nth y.smps j) = true) 0 ⟨rfl, rfl, trivial⟩ ⟨by omega, fun j hj => absurd hj (Nat.not_lt_zero j)⟩ ?_
  rintro k ⟨hk, hno⟩
  by_cases hlt : k < y.smps.length
  · repeat' (first | apply s_ | ((first | apply JO_ob | apply GD_ex | apply GL_ex); exact rfl; first | exact ob1 | exact Ob_call rfl (fun w hw => c47 _ _ _ w)) | ((first | apply b_ | apply a_ | apply i_); exact z_; intro _) | ((first | apply p_ | apply JO_yes | apply GC_t); exact z_) | (apply n_; exact z_) | (apply GC_f; exact z_) | (apply GX_block_on; exact z_) | refine GC_drawA (id := 11) [0, 1, 2, 3, 4, 5, 6, 7, 8, 9] [] (by kernel_rfl) ?_ | ((first | apply GD_at | apply GL_at | apply GD_no | apply GL_no); exact rfl) | apply DFin_0 | (apply q1_; exact z_) | (apply q0_; exact z_) | (apply q2_; exact z_) | (apply c_; exact z_; all_goals intro _) | (apply g_; exact z_; all_goals intro _))
    rw [hlen]
    cases hv : decide (0 ≤ (nth y.smps k).vat ∧ (nth y.smps k).vat ≤ (y.vats.length : Int) - 1)
    · repeat' (first | apply s_ | ((first | apply JO_ob | apply GD_ex | apply GL_ex); exact rfl; first | exact ob1) | ((first | apply b_ | apply a_ | apply i_); exact z_; intro _) | ((first | apply p_ | apply JO_yes | apply GC_t); exact z_) | (apply n_; exact z_) | (apply GC_f; exact z_) | (apply GX_block_on; exact z_) | refine GC_drawA (id := 11) [0, 1, 2, 3, 4, 5, 6, 7, 8, 9] [] (by kernel_rfl) ?_ | ((first | apply GD_at | apply GL_at | apply GD_no | apply GL_no); exact rfl) | apply DFin_0 | (apply q1_; exact z_) | (apply q0_; exact z_) | (apply q2_; exact z_) | (apply c_; exact z_; all_goals intro _) | (apply g_; exact z_; all_goals intro _))
      refine GX_ex rfl rfl mem_ ?_
      rw [bad (.inr (.inr (all_not hlt (by simp only [isS, hv, Bool.false_and]))))]
    · repeat' (first | apply s_ | ((first | apply JO_ob | apply GD_ex | apply GL_ex); exact rfl; first | exact ob1 | exact Ob_call rfl (fun w hw => c131 _ _ _ w)) | ((first | apply b_ | apply a_ | apply i_); exact z_; intro _) | ((first | apply p_ | apply JO_yes | apply GC_t); exact z_) | (apply n_; exact z_) | (apply GC_f; exact z_) | (apply GX_block_on; exact z_) | refine GC_drawA (id := 11) [0, 1, 2, 3, 4, 5, 6, 7, 8, 9] [] (by kernel_rfl) ?_ | ((first | apply GD_at | apply GL_at | apply GD_no | apply GL_no); exact rfl) | apply DFin_0 | (apply q1_; exact z_) | (apply q0_; exact z_) | (apply q2_; exact z_) | (apply c_; exact z_; all_goals intro _) | (apply g_; exact z_; all_goals intro _))
      cases hf : decide (0 ≤ (nth y.smps k).lo ∧ (nth y.smps k).lo ≤ (nth y.smps k).hi ∧ (nth y.smps k).hi ≤ 999)
      · repeat' (first | apply s_ | ((first | apply JO_ob | apply GD_ex | apply GL_ex); exact rfl; first | exact ob1) | ((first | apply b_ | apply a_ | apply i_); exact z_; intro _) | ((first | apply p_ | apply JO_yes | apply GC_t); exact z_) | (apply n_; exact z_) | (apply GC_f; exact z_) | (apply GX_block_on; exact z_) | refine GC_drawA (id := 11) [0, 1, 2, 3, 4, 5, 6, 7, 8, 9] [] (by kernel_rfl) ?_ | ((first | apply GD_at | apply GL_at | apply GD_no | apply GL_no); exact rfl) | apply DFin_0 | (apply q1_; exact z_) | (apply q0_; exact z_) | (apply q2_; exact z_) | (apply c_; exact z_; all_goals intro _) | (apply g_; exact z_; all_goals intro _))
        refine GX_ex rfl rfl mem_ ?_
        rw [bad (.inr (.inr (all_not hlt (by simp only [isS, hf, Bool.and_false]))))]
      · repeat' (first | apply s_ | ((first | apply JO_ob | apply GD_ex | apply GL_ex); exact rfl; first | exact ob1) | ((first | apply b_ | apply a_ | apply i_); exact z_; intro _) | ((first | apply p_ | apply JO_yes | apply GC_t); exact z_) | (apply n_; exact z_) | (apply GC_f; exact z_) | (apply GX_block_on; exact z_) | refine GC_drawA (id := 11) [0, 1, 2, 3, 4, 5, 6, 7, 8, 9] [] (by kernel_rfl) ?_ | ((first | apply GD_at | apply GL_at | apply GD_no | apply GL_no); exact rfl) | apply DFin_0 | (apply q1_; exact z_) | (apply q0_; exact z_) | (apply q2_; exact z_) | (apply c_; exact z_; all_goals intro _) | (apply g_; exact z_; all_goals intro _))
        refine GX_loop (k + 1) ⟨rfl, rfl, trivial⟩ (by omega) ⟨by omega, fun j hj => ?_⟩ (fun w hw => hw.weak (fun r h => h) (List.Sublist.cons _ (List.Sublist.refl _)))
        rcases Nat.lt_or_ge j k with h | h
        · exact hno j h
        · rw [show j = k by omega]; simp only [isS, hv, hf, Bool.and_true]
  have hS : y.smps.all (isS y.vats.length) = true := all_nth.2 fun j hj => hno j (by omega)
  have hmm := manyN_bd (okF_of hF) y.fields.length (Nat.le_refl _)
  repeat' (first | apply s_ | ((first | apply JO_ob | apply GD_ex | apply GL_ex); exact rfl; first | exact ob1 | exact Ob_call rfl (fun w hw => c99 w a b c hs y (hw.yd mem_ h) (okF_of hF) (by omega))) | ((first | apply b_ | apply a_ | apply i_); exact z_; intro _) | ((first | apply p_ | apply JO_yes | apply GC_t); exact z_) | (apply n_; exact z_) | (apply GC_f; exact z_) | (apply GX_block_on; exact z_) | refine GC_drawA (id := 11) [0, 1, 2, 3, 4, 5, 6, 7, 8, 9] [] (by kernel_rfl) ?_ | ((first | apply GD_at | apply GL_at | apply GD_no | apply GL_no); exact rfl) | apply DFin_0 | (apply q1_; exact z_) | (apply q0_; exact z_) | (apply q2_; exact z_) | (apply c_; exact z_; all_goals intro _) | (apply g_; exact z_; all_goals intro _))
  · refine GX_ex rfl rfl mem_ ?_
    rename_i hm
    simp [fault1, hbig, hF, hV, hS, hm]
  · refine GX_ex rfl rfl mem_ ?_
    rename_i hm
    simp only [fault1, hbig, hF, hV, hS, Bool.and_true, Bool.true_eq_false, Bool.false_eq_true, if_false]
    rw [if_neg hm]
/-- What a yard without an error is. -/
theorem okY_of {y : Yd} (h : fault1 y = 0) : OkY y ∧ many1 y.fields ≤ 2000 := by
  unfold fault1 at h
  split at h
  · cases h
  split at h
  · cases h
  split at h
  · cases h
  rename_i h1 h2 h3
  simp only [bigY, Bool.or_eq_true, decide_eq_true_eq, not_or] at h1
  rw [Bool.not_eq_false, Bool.and_eq_true, Bool.and_eq_true] at h2
  obtain ⟨⟨hF, hV⟩, hS⟩ := h2
  refine ⟨⟨by omega, by omega, by omega, okF_of hF, fun j hj => ?_, fun i hi => ?_⟩, by omega⟩
  · have := all_nth.1 hV j hj
    simp only [isV, Bool.and_eq_true, decide_eq_true_eq] at this
    exact ⟨this.1, fun i hi => by have := all_nth.1 this.2 i hi; simpa [inB] using this⟩
  · have := all_nth.1 hS i hi
    simp only [isS, Bool.and_eq_true, decide_eq_true_eq] at this
    omega
end Go.Proofs.YtkbaaikidhbfmaaGreat
/- The reference's numbers of the layer 3, in plain words. No statement is proved here. -/
set_option linter.unusedVariables false
namespace Go.Proofs.YtkbaaikidhbfmaaGreat
open Go.RowKit
def szV (v : BV) : Int := v.hi - v.lo + 1
/-- A beating that is valid. -/
structure OkB (y : Bt) : Prop where
  v3 : y.vats.length ≤ 3
  s5 : y.smps.length ≤ 5
  l : 0 ≤ y.last ∧ y.last ≤ 9
  sun : 0 ≤ y.sun.1 ∧ y.sun.1 ≤ y.sun.2 ∧ y.sun.2 ≤ 4
  v : ∀ j, j < y.vats.length → (0 ≤ (nth y.vats j).lo ∧ (nth y.vats j).lo ≤ (nth y.vats j).hi ∧ (nth y.vats j).hi ≤ 9) ∧ (0 ≤ (nth y.vats j).early ∧ (nth y.vats j).early ≤ 20) ∧ 0 ≤ (nth y.vats j).late ∧ (nth y.vats j).late ≤ 20
  s : ∀ i, i < y.smps.length → (0 ≤ (nth y.smps i).vat ∧ (nth y.smps i).vat < (y.vats.length : Int)) ∧ 0 ≤ (nth y.smps i).hour ∧ (nth y.smps i).hour ≤ y.last
/-- What the vats need, in order. -/
def OkN (vs : List BV) : Prop := ∀ j, j < vs.length → 0 ≤ (nth vs j).lo ∧ (nth vs j).lo ≤ (nth vs j).hi ∧ (nth vs j).hi ≤ 9
def manyK (y : Bt) : Nat → Int
  | 0 => szR y.sun
  | k + 1 => manyK y k * szV (nth y.vats k)
def many3 (y : Bt) : Int := manyK y y.vats.length
theorem szV_bd {vs : List BV} (h : OkN vs) {i : Nat} (hi : i < vs.length) : 1 ≤ szV (nth vs i) ∧ szV (nth vs i) ≤ 10 := by
  have := h i hi; simp only [szV]; omega
theorem manyK_bd {y : Bt} (hs : 0 ≤ y.sun.1 ∧ y.sun.1 ≤ y.sun.2 ∧ y.sun.2 ≤ 4) (h : OkN y.vats) : ∀ k, k ≤ y.vats.length → 1 ≤ manyK y k ∧ manyK y k ≤ 5 * ((10 ^ k : Nat) : Int) := by
  intro k
  induction k with
  | zero => intro _; simp only [manyK, szR]; omega
  | succ k ih =>
    intro hk
    have h1 := ih (by omega)
    have h2 := szV_bd h (i := k) (by omega)
    have h3 : 1 * 1 ≤ manyK y k * szV (nth y.vats k) := Int.mul_le_mul h1.1 h2.1 (by omega) (by omega)
    have h4 : manyK y k * szV (nth y.vats k) ≤ (5 * ((10 ^ k : Nat) : Int)) * 10 := Int.mul_le_mul h1.2 h2.2 (by omega) (by omega)
    simp only [manyK, Nat.pow_succ]
    omega
theorem pow10_3 {k : Nat} (h : k ≤ 3) : ((10 ^ k : Nat) : Int) ≤ 1000 := by
  have : 10 ^ k ≤ 10 ^ 3 := Nat.pow_le_pow_right (by omega) h
  omega
def divK (y : Bt) (n : Int) : Nat → Int
  | 0 => n / szR y.sun
  | k + 1 => divK y n k / szV (nth y.vats k)
def digK (y : Bt) (n : Int) (k : Nat) : Int := (nth y.vats k).lo + divK y n k % szV (nth y.vats k)
def nthC (y : Bt) (n : Int) : Crs := ⟨y.sun.1 + n % szR y.sun, (List.range y.vats.length).map (digK y n)⟩
theorem divK_bd {y : Bt} (hs : 0 ≤ y.sun.1 ∧ y.sun.1 ≤ y.sun.2 ∧ y.sun.2 ≤ 4) (h : OkN y.vats) {n : Int} (h0 : 0 ≤ n) : ∀ k, k ≤ y.vats.length → 0 ≤ divK y n k ∧ divK y n k ≤ n := by
  intro k
  induction k with
  | zero =>
    intro _
    have : 1 ≤ szR y.sun := by simp only [szR]; omega
    exact ⟨Int.ediv_nonneg h0 (by omega), Int.ediv_le_self _ h0⟩
  | succ k ih =>
    intro hk
    have h1 := ih (by omega)
    have h2 := szV_bd h (i := k) (by omega)
    simp only [divK]
    exact ⟨Int.ediv_nonneg h1.1 (by omega), Int.le_trans (Int.ediv_le_self _ h1.1) h1.2⟩
theorem digK_bd {y : Bt} (h : OkN y.vats) {n : Int} {k : Nat} (hk : k < y.vats.length) : (nth y.vats k).lo ≤ digK y n k ∧ digK y n k ≤ (nth y.vats k).hi := by
  have h2 := szV_bd h hk
  have h3 := Int.emod_nonneg (divK y n k) (b := szV (nth y.vats k)) (by omega)
  have h4 := Int.emod_lt_of_pos (divK y n k) (b := szV (nth y.vats k)) (by omega)
  simp only [digK, szV] at *
  omega
/-- When a vat is done. -/
def whenC (c : Crs) (vat : Int) : Int := c.sun + nth c.needs vat.toNat
def lostC (y : Bt) (c : Crs) (vat hour : Int) : Int := max 0 (whenC c vat - hour) * (nth y.vats vat.toNat).early + max 0 (hour - whenC c vat) * (nth y.vats vat.toNat).late
theorem OkB.n {y : Bt} (h : OkB y) : OkN y.vats := fun j hj => (h.v j hj).1
/-- A course in the ranges. -/
structure InC (y : Bt) (c : Crs) : Prop where
  sun : y.sun.1 ≤ c.sun ∧ c.sun ≤ y.sun.2
  len : c.needs.length = y.vats.length
  needs : ∀ j, j < y.vats.length → (nth y.vats j).lo ≤ nth c.needs j ∧ nth c.needs j ≤ (nth y.vats j).hi
end Go.Proofs.YtkbaaikidhbfmaaGreat
/- Contracts: the reference of the layer 3. No statement is proved here. -/
set_option linter.unusedVariables false
namespace Go.Proofs.YtkbaaikidhbfmaaGreat
open Go.RowKit
theorem c100 (w : World) (d e : Value) (y : Bt) (h : BtA All w d e y) (hs : 0 ≤ y.sun.1 ∧ y.sun.1 ≤ y.sun.2 ∧ y.sun.2 ≤ 4) (hn : OkN y.vats) (hl : y.vats.length ≤ 3) : Ex 100 [btV d e y] w (.int .i64 (many3 y)) := by
  have i1 := h.vats.v1
  have i2 := h.smps.v1
  have ha := h.vats
  refine Rt_of Tryz.func100 rfl Tryz.ntmps100 rfl ?_
  repeat' (first | apply s_ | (apply JO_ob; exact rfl; first | exact ob1 | exact Ob_call rfl (fun w hw => c140 _ _ (by omega) (by omega) (by omega) w)) | ((first | apply b_ | apply a_ | apply i_); exact z_; intro _) | ((first | apply p_ | apply JO_yes | apply GC_t); exact z_) | (apply n_; exact z_) | (apply GC_f; exact z_) | (apply GX_block_on; exact z_) | (apply c_; exact z_; all_goals intro _))
  rename_i p
  refine GC_loop0 (fun k => y.vats.length - k) (fun k => [(1, .pointer (some ⟨p, 0, none⟩)), (3, .int .i64 (manyK y k)), (4, .int .i64 (k : Int))]) (fun k => k ≤ y.vats.length) 0 ⟨rfl, rfl, rfl, trivial⟩ (by omega) ?_
  intro k hk'
  by_cases hlt : k < y.vats.length
  · have e1 := manyK_bd hs hn k hk'
    have e0 := pow10_3 (k := k) (by omega)
    have e2 := szV_bd hn hlt
    have e3 := mul_bd (m := 5000) (by omega) (by omega) (by omega) e2.2 (a := manyK y k)
    have e4 := hn k hlt
    simp only [szV] at e3
    repeat' (first | apply s_ | (apply JO_ob; exact rfl; first | exact ob1 | exact Ob_call rfl (fun w hw => c140 _ _ (by omega) (by omega) (by omega) w) | exact Ob_mul rfl rfl (by omega)) | ((first | apply b_ | apply a_ | apply i_); exact z_; intro _) | ((first | apply p_ | apply JO_yes | apply GC_t); exact z_) | (apply n_; exact z_) | (apply GC_f; exact z_) | (apply GX_block_on; exact z_) | (apply c_; exact z_; all_goals intro _))
    exact GX_loop0 (k + 1) ⟨rfl, rfl, rfl, trivial⟩ (by omega) (by omega)
  · repeat' (first | apply s_ | (apply JO_ob; exact rfl; first | exact ob1) | ((first | apply b_ | apply a_ | apply i_); exact z_; intro _) | ((first | apply p_ | apply JO_yes | apply GC_t); exact z_) | (apply n_; exact z_) | (apply GC_f; exact z_) | (apply GX_block_on; exact z_) | (apply c_; exact z_; all_goals intro _))
    refine GX_ex rfl rfl mem_ ?_
    rw [show k = y.vats.length by omega]; rfl
theorem c138 (w : World) (d e : Value) (y : Bt) (h : BtA All w d e y) (hl : y.smps.length ≤ 30) : Ex 138 [btV d e y] w (.int .i64 ((2 ^ y.smps.length : Nat) - 1 : Int)) := by
  have i1 := h.vats.v1
  have i2 := h.smps.v1
  have ha := h.smps
  have h2 := pow63 (i := y.smps.length) (by omega)
  have h3 : (0 : Int) ≤ ((2 ^ y.smps.length : Nat) : Int) := Int.natCast_nonneg _
  refine Rt_of Tryz.func138 rfl Tryz.ntmps138 rfl ?_
  repeat' (first | apply s_ | (apply JO_ob; exact rfl; first | exact ob1 | exact Ob_convert rfl (wrapU (Int.natCast_nonneg _) (by omega)) | exact Ob_shl1 rfl rfl (by omega)) | ((first | apply b_ | apply a_ | apply i_); exact z_; intro _) | ((first | apply p_ | apply JO_yes | apply GC_t); exact z_) | (apply n_; exact z_) | (apply GC_f; exact z_) | (apply GX_block_on; exact z_) | (apply c_; exact z_; all_goals intro _))
  (first | exact GX_ex rfl rfl mem_ rfl | exact GX_exc rfl rfl mem_ rfl mem_ rfl)
abbrev crV (v : Value) (c : Crs) : Value := .agg #[.int .i64 c.sun, v]
theorem c151 (w : World) (v : Value) (c : Crs) (vat : Int) (h : Arr All w 1 encI v c.needs) (h0 : 0 ≤ vat) (h1 : vat < (c.needs.length : Int)) (hs : 0 ≤ c.sun ∧ c.sun ≤ 4) (hn : 0 ≤ nth c.needs vat.toNat ∧ nth c.needs vat.toNat ≤ 9) :
    Ex 151 [crV v c, .int .i64 vat] w (.int .i64 (whenC c vat)) := by
  have i1 := h.v1
  refine Rt_of Tryz.func151 rfl Tryz.ntmps151 rfl ?_
  repeat' (first | apply s_ | ((first | apply JO_ob | apply GD_ex | apply GL_ex); exact rfl; first | exact ob1) | ((first | apply b_ | apply a_ | apply i_); exact z_; intro _) | ((first | apply p_ | apply JO_yes | apply GC_t); exact z_) | (apply n_; exact z_) | (apply GC_f; exact z_) | (apply GX_block_on; exact z_) | refine GC_drawA (id := 1) [0, 1, 2, 3, 4, 5, 6, 7, 8] [] (by kernel_rfl) ?_ | ((first | apply GD_at | apply GL_at | apply GD_no | apply GL_no); exact rfl) | apply DFin_0 | (apply q1_; exact z_) | (apply q0_; exact z_) | (apply q2_; exact z_) | (apply c_; exact z_; all_goals intro _) | (apply g_; exact z_; all_goals intro _))
  (first | exact GX_ex rfl rfl mem_ rfl | exact GX_exc rfl rfl mem_ rfl mem_ rfl)
theorem c108 (w : World) (d e v : Value) (y : Bt) (c : Crs) (vat hour : Int) (h : BtA All w d e y) (hv : Arr All w 1 encI v c.needs) (hB : OkB y) (hc : InC y c) (h0 : 0 ≤ vat) (h1 : vat < (y.vats.length : Int)) (hh : 0 ≤ hour ∧ hour ≤ 9) :
    Ex 108 [btV d e y, crV v c, .int .i64 vat, .int .i64 hour] w (.int .i64 (lostC y c vat hour)) := by
  have i1 := h.vats.v1
  have i2 := h.smps.v1
  have i3 := hv.v1
  have ha := h.vats
  have hs := hB.sun
  have e1 := hc.sun
  have e2 := hc.needs vat.toNat (by omega)
  have e3 := hB.v vat.toNat (by omega)
  have e4 := hc.len
  have e5 : 0 ≤ whenC c vat ∧ whenC c vat ≤ 13 := by simp only [whenC]; omega
  have m1 := mul_bd (a := max 0 (whenC c vat - hour)) (b := (nth y.vats vat.toNat).early) (m := 13) (n := 20) (by omega) (by omega) (by omega) (by omega)
  have m2 := mul_bd (a := max 0 (hour - whenC c vat)) (b := (nth y.vats vat.toNat).late) (m := 13) (n := 20) (by omega) (by omega) (by omega) (by omega)
  refine Rt_of Tryz.func108 rfl Tryz.ntmps108 rfl ?_
  repeat' (first | apply s_ | ((first | apply JO_ob | apply GD_ex | apply GL_ex); exact rfl; first | exact ob1 | exact Ob_call rfl (fun w hw => c151 w v c vat (hw.arr (.head _) hv) h0 (by omega) (by omega) (by omega)) | exact Ob_mul rfl rfl (by omega)) | ((first | apply b_ | apply a_ | apply i_); exact z_; intro _) | ((first | apply p_ | apply JO_yes | apply GC_t); exact z_) | (apply n_; exact z_) | (apply GC_f; exact z_) | (apply GX_block_on; exact z_) | refine GC_drawA (id := 1) [0, 1, 2, 3, 4, 5, 6, 7, 8, 9, 10, 11] [] (by kernel_rfl) ?_ | refine GC_drawA (id := 2) [0, 1, 2, 3, 4, 5, 6, 7, 8, 9, 10, 11, 12, 13, 14, 15, 16, 17, 18, 19] [] (by kernel_rfl) ?_ | ((first | apply GD_at | apply GL_at | apply GD_no | apply GL_no); exact rfl) | apply DFin_0 | (apply q1_; exact z_) | (apply q0_; exact z_) | (apply q2_; exact z_) | (apply c_; exact z_; all_goals intro _) | (apply g_; exact z_; all_goals intro _))
  (first | exact GX_ex rfl rfl mem_ rfl | exact GX_exc rfl rfl mem_ rfl mem_ rfl)
end Go.Proofs.YtkbaaikidhbfmaaGreat
/- Contracts: the reference of the layer 3, a course by its number. No statement is proved here. -/
set_option linter.unusedVariables false
namespace Go.Proofs.YtkbaaikidhbfmaaGreat
open Go.RowKit
theorem c136 (w : World) (d e : Value) (y : Bt) (m : Int) (h : BtA All w d e y) (hs : 0 ≤ y.sun.1 ∧ y.sun.1 ≤ y.sun.2 ∧ y.sun.2 ≤ 4) (hn : OkN y.vats) (hl : y.vats.length ≤ 3) (h0 : 0 ≤ m) (h1 : m ≤ 1000000) :
    Rt 136 [btV d e y, .int .i64 m] w fun v w' => Keep w w' ∧ ∃ v', v = crV v' (nthC y m) ∧ Arr (New w) w' 1 encI v' (nthC y m).needs := by
  have i1 := h.vats.v1
  have i2 := h.smps.v1
  have ha := h.vats
  have m0 := Int.emod_nonneg m (b := y.sun.2 - y.sun.1 + 1) (by omega)
  have m1 := Int.emod_lt_of_pos m (b := y.sun.2 - y.sun.1 + 1) (by omega)
  refine Rt_of Tryz.func136 rfl Tryz.ntmps136 rfl ?_
  repeat' (first | apply s_ | ((first | apply JO_ob | apply GD_ex | apply GL_ex); exact rfl; first | exact ob1 | exact Ob_call rfl (fun w hw => c140 _ _ (by omega) (by omega) (by omega) w) | exact Ob_rem rfl rfl (by omega) (by omega) | exact Ob_quo rfl rfl (by omega) (by omega) (by omega)) | ((first | apply b_ | apply a_ | apply i_); exact z_; intro _) | ((first | apply p_ | apply JO_yes | apply GC_t); exact z_) | (apply n_; exact z_) | (apply GC_f; exact z_) | (apply GX_block_on; exact z_) | refine GC_drawB (id := 1) [] [0, 1, 2, 3, 4, 5, 6, 7, 8, 9] [10, 11] _ (by kernel_rfl) (List.Sublist.refl _) ?_ | refine GC_drawB (id := 7) [2, 3, 4, 5, 6, 7, 8] [0, 1] [9, 10, 11, 12] _ (by kernel_rfl) (List.Sublist.refl _) ?_ | ((first | apply GD_at | apply GL_at | apply GD_no | apply GL_no); exact rfl) | apply DFin_0 | (apply q1_; exact z_) | (apply q0_; exact z_) | (apply q2_; exact z_) | (apply c_; exact z_; all_goals intro _) | (apply g_; exact z_; all_goals intro _))
  rename_i p2 p4 p5
  refine GC_loop (α := Nat × Value × List Value) (fun s => y.vats.length - s.1) (fun s => [(2, .pointer (some ⟨p2, 0, none⟩)), (4, .pointer (some ⟨p4, 0, none⟩)), (5, .pointer (some ⟨p5, 0, none⟩)), (1, .int .i64 (divK y m s.1)), (6, .int .i64 (s.1 : Int))]) (fun _ => [((fun _ => True), w)])
    (fun s => (p5, .cells #[.int .i64 (y.sun.1 + m % szR y.sun), s.2.1] 84) :: (p4, .cells #[.int .i64 0, .slice none 0 0] 84) :: (p2, .cells #[.int .i64 y.sun.1, .int .i64 y.sun.2, d, .int .i64 y.last, e] 32) :: rowH s.2.1 3 (((List.range s.1).map (digK y m)).flatMap encI ++ s.2.2))
    (fun s => s.1 ≤ y.vats.length ∧ Own 1 encI s.2.1 ((List.range s.1).map (digK y m)) s.2.2) (0, .slice none 0 0, []) ⟨rfl, rfl, rfl, rfl, rfl, trivial⟩ ⟨Nat.zero_le _, Own.nil fun _ => rfl⟩ (fun w hw => hw) ?_
  rintro ⟨k, v1, s1⟩ ⟨hk, ho1⟩
  simp only at hk ho1 ⊢
  have j1 := ho1.v1
  by_cases hlt : k < y.vats.length
  · have e1 := divK_bd hs hn h0 k hk
    have e2 := szV_bd hn hlt
    have e4 := hn k hlt
    have e5 := digK_bd hn (n := m) hlt
    simp only [szV] at e2
    simp only [digK, szV] at e5
    repeat' (first | apply s_ | ((first | apply JO_ob | apply GD_ex | apply GL_ex); exact rfl; first | exact ob1 | exact Ob_call rfl (fun w hw => c140 _ _ (by omega) (by omega) (by omega) w) | exact Ob_rem rfl rfl (by omega) (by omega) | exact Ob_quo rfl rfl (by omega) (by omega) (by omega)) | ((first | apply b_ | apply a_ | apply i_); exact z_; intro _) | ((first | apply p_ | apply JO_yes | apply GC_t); exact z_) | (apply n_; exact z_) | (apply GC_f; exact z_) | (apply GX_block_on; exact z_) | refine GC_drawB (id := 1) [] [0, 1, 2, 3, 4, 5, 6, 7, 8, 9] [10, 11] _ (by kernel_rfl) (List.Sublist.refl _) ?_ | refine GC_drawB (id := 7) [2, 3, 4, 5, 6, 7, 8] [0, 1] [9, 10, 11, 12] _ (by kernel_rfl) (List.Sublist.refl _) ?_ | ((first | apply GD_at | apply GL_at | apply GD_no | apply GL_no); exact rfl) | apply DFin_0 | (apply q1_; exact z_) | (apply q0_; exact z_) | (apply q2_; exact z_) | (apply c_; exact z_; all_goals intro _) | (apply g_; exact z_; all_goals intro _))
    refine JO_append (xs := (List.range k).map (digK y m)) (ys := [digK y m k]) [_, _, _, _, _] rfl rfl rfl ho1 (List.Perm.refl _) (fun w hw => hw.slOwn mem_ rfl) rfl (by simp; omega) ?_
    intro v2 s2 ho2
    have j2 := ho2.v1
    have e6 : (List.range k).map (digK y m) ++ [digK y m k] = (List.range (k + 1)).map (digK y m) := by simp [List.range_succ]
    rw [e6] at ho2 ⊢
    repeat' (first | apply s_ | ((first | apply JO_ob | apply GD_ex | apply GL_ex); exact rfl; first | exact ob1 | exact Ob_call rfl (fun w hw => c140 _ _ (by omega) (by omega) (by omega) w) | exact Ob_quo rfl rfl (by omega) (by omega) (by omega)) | ((first | apply b_ | apply a_ | apply i_); exact z_; intro _) | ((first | apply p_ | apply JO_yes | apply GC_t); exact z_) | (apply n_; exact z_) | (apply GC_f; exact z_) | (apply GX_block_on; exact z_) | refine GC_drawB (id := 1) [] [0, 1, 2, 3, 4, 5, 6, 7, 8, 9] [10, 11] _ (by kernel_rfl) (List.Sublist.refl _) ?_ | refine GC_drawB (id := 7) [2, 3, 4, 5, 6, 7, 8] [0, 1] [9, 10, 11, 12] _ (by kernel_rfl) (List.Sublist.refl _) ?_ | ((first | apply GD_at | apply GL_at | apply GD_no | apply GL_no); exact rfl) | apply DFin_0 | (apply q1_; exact z_) | (apply q0_; exact z_) | (apply q2_; exact z_) | (apply c_; exact z_; all_goals intro _) | (apply g_; exact z_; all_goals intro _))
    exact GX_loop (k + 1, v2, s2) ⟨rfl, rfl, rfl, rfl, rfl, trivial⟩ (by simp only; omega) ⟨by simp only; omega, ho2⟩ fun w hw => hw.weak (fun r h => h) (List.Sublist.cons _ (List.Sublist.cons _ (List.Sublist.refl _)))
  · have hkl : k = y.vats.length := by omega
    subst hkl
    repeat' (first | apply s_ | ((first | apply JO_ob | apply GD_ex | apply GL_ex); exact rfl; first | exact ob1) | ((first | apply b_ | apply a_ | apply i_); exact z_; intro _) | ((first | apply p_ | apply JO_yes | apply GC_t); exact z_) | (apply n_; exact z_) | (apply GC_f; exact z_) | (apply GX_block_on; exact z_) | refine GC_drawB (id := 1) [] [0, 1, 2, 3, 4, 5, 6, 7, 8, 9] [10, 11] _ (by kernel_rfl) (List.Sublist.refl _) ?_ | refine GC_drawB (id := 7) [2, 3, 4, 5, 6, 7, 8] [0, 1] [9, 10, 11, 12] _ (by kernel_rfl) (List.Sublist.refl _) ?_ | ((first | apply GD_at | apply GL_at | apply GD_no | apply GL_no); exact rfl) | apply DFin_0 | (apply q1_; exact z_) | (apply q0_; exact z_) | (apply q2_; exact z_) | (apply c_; exact z_; all_goals intro _) | (apply g_; exact z_; all_goals intro _))
    refine GX_retc rfl rfl mem_ rfl fun w' hw' => ⟨hw'.kp mem_, _, rfl, ?_⟩
    exact ho1.ret (A := [_, _, _]) (by decide) hw' mem_
end Go.Proofs.YtkbaaikidhbfmaaGreat
/- Contracts: the reference of the layer 3, what is right. No statement is proved here. -/
set_option linter.unusedVariables false
set_option linter.unusedSimpArgs false
namespace Go.Proofs.YtkbaaikidhbfmaaGreat
open Go.RowKit
theorem run_eq4 (a b : Bool) (w : World) : (Op.equal 4 (.bool a) (.bool b)).run P w = .ok (a == b) w := by
  cases a <;> cases b <;> kernel_rfl
theorem Ob_eqb {b0 : World} {R : Rgs} {H : Hp} {fr : Slots} {dst : Option Nat} {g : Option (Nat × Bool)} {ty : TypeId} {ps : String} {af : Array Edge} {yt : TypeId} {x y : Operand} {a b : Bool} (hx : ev fr x = some (.bool a)) (hy : ev fr y = some (.bool b)) :
    Ob b0 R H ⟨dst, .binOp .eql 4 x y yt, ty, ps, af, g⟩ fr (.bool (a == b)) := .pure fun w f hf => by
  simp only [execOp]
  rw [hf x _ hx, hf y _ hy]
  have e4 : eqGuard .eql 4 x y (.bool a) (.bool b) = pure () := rfl
  have e3 : binOp .eql 4 (.bool a) (.bool b) = (do pure (.bool (← Op.equal 4 (.bool a) (.bool b)))) := rfl
  rw [e4, e3]
  simp only [Sem.run_bind, Sem.run_pure, Result.andThen, run_eq4]
/-- Sample i is right in a course. -/
def okC (y : Bt) (c : Crs) (i : Nat) : Bool := decide (whenC c (nth y.smps i).vat ≤ (nth y.smps i).hour) == (nth y.smps i).done
def rightC (y : Bt) (c : Crs) : Nat := rbits (okC y c) y.smps.length
def okAllC (y : Bt) (c : Crs) : Bool := (List.range y.smps.length).all (okC y c)
theorem rightC_full (y : Bt) (c : Crs) : rightC y c = 2 ^ y.smps.length - 1 ↔ okAllC y c = true := by
  unfold rightC okAllC
  rw [rbits_full]
  simp
theorem c137 (w : World) (d e v : Value) (y : Bt) (c : Crs) (h : BtA All w d e y) (hv : Arr All w 1 encI v c.needs) (hB : OkB y) (hc : InC y c) : Ex 137 [btV d e y, crV v c] w (.int .i64 ((rightC y c : Nat) : Int)) := by
  have i1 := h.vats.v1
  have i2 := h.smps.v1
  have i4 := hv.v1
  have ha := h.smps
  have s5 := hB.s5
  have hs := hB.sun
  have f1 := hc.sun
  have f2 := hc.len
  refine Rt_of Tryz.func137 rfl Tryz.ntmps137 rfl ?_
  repeat' (first | apply s_ | ((first | apply JO_ob | apply GD_ex | apply GL_ex); exact rfl; first | exact ob1) | ((first | apply b_ | apply a_ | apply i_); exact z_; intro _) | ((first | apply p_ | apply JO_yes | apply GC_t); exact z_) | (apply n_; exact z_) | (apply GC_f; exact z_) | (apply GX_block_on; exact z_) | refine GC_drawA (id := 6) [0, 1, 2, 3, 4, 5, 6, 7] [] (by kernel_rfl) ?_ | ((first | apply GD_at | apply GL_at | apply GD_no | apply GL_no); exact rfl) | apply DFin_0 | (apply q1_; exact z_) | (apply q0_; exact z_) | (apply q2_; exact z_) | (apply c_; exact z_; all_goals intro _) | (apply g_; exact z_; all_goals intro _))
  rename_i p q
  refine GC_loop0 (fun k => y.smps.length - k) (fun k => [(2, .pointer (some ⟨p, 0, none⟩)), (3, .pointer (some ⟨q, 0, none⟩)), (5, .int .i64 ((rbits (okC y c) k : Nat) : Int)), (6, .int .i64 (k : Int))]) (fun k => k ≤ y.smps.length) 0 ⟨rfl, rfl, rfl, rfl, trivial⟩ (by omega) ?_
  intro k hk'
  by_cases hlt : k < y.smps.length
  · have e1 := hB.s k hlt
    have e2 := hc.needs (nth y.smps k).vat.toNat (by omega)
    have e4 := hB.v (nth y.smps k).vat.toNat (by omega)
    have e3 := rbits_lt (okC y c) k
    repeat' (first | apply s_ | ((first | apply JO_ob | apply GD_ex | apply GL_ex); exact rfl; first | exact ob1 | exact Ob_call rfl (fun w hw => c151 w v c _ (hw.arr (.head _) hv) e1.1.1 (by omega) (by omega) (by omega)) | exact Ob_cmp rfl rfl rfl | exact Ob_eqb rfl rfl) | ((first | apply b_ | apply a_ | apply i_); exact z_; intro _) | ((first | apply p_ | apply JO_yes | apply GC_t); exact z_) | (apply n_; exact z_) | (apply GC_f; exact z_) | (apply GX_block_on; exact z_) | refine GC_drawA (id := 6) [0, 1, 2, 3, 4, 5, 6, 7] [] (by kernel_rfl) ?_ | ((first | apply GD_at | apply GL_at | apply GD_no | apply GL_no); exact rfl) | apply DFin_0 | (apply q1_; exact z_) | (apply q0_; exact z_) | (apply q2_; exact z_))
    have hd : (decide (whenC c (nth y.smps k).vat ≤ (nth y.smps k).hour) == (nth y.smps k).done) = okC y c k := rfl
    rw [hd]
    cases hcc : okC y c k
    · repeat' (first | apply s_ | ((first | apply JO_ob | apply GD_ex | apply GL_ex); exact rfl; first | exact ob1) | ((first | apply b_ | apply a_ | apply i_); exact z_; intro _) | ((first | apply p_ | apply JO_yes | apply GC_t); exact z_) | (apply n_; exact z_) | (apply GC_f; exact z_) | (apply GX_block_on; exact z_) | refine GC_drawA (id := 6) [0, 1, 2, 3, 4, 5, 6, 7] [] (by kernel_rfl) ?_ | ((first | apply GD_at | apply GL_at | apply GD_no | apply GL_no); exact rfl) | apply DFin_0 | (apply q1_; exact z_) | (apply q0_; exact z_) | (apply q2_; exact z_) | (apply c_; exact z_; all_goals intro _) | (apply g_; exact z_; all_goals intro _))
      refine GX_loop (k + 1) ⟨rfl, rfl, ?_, rfl, trivial⟩ (by omega) (by omega) (fun w hw => hw.weak (fun r h => h) (List.Sublist.cons _ (List.Sublist.refl _)))
      rw [show rbits (okC y c) (k + 1) = rbits (okC y c) k by simp [rbits, hcc]]; rfl
    · repeat' (first | apply s_ | ((first | apply JO_ob | apply GD_ex | apply GL_ex); exact rfl; first | exact ob1 | exact Ob_convert rfl (wrapU (by omega) (by omega)) | exact Ob_shl1 rfl rfl (by omega) | exact Ob_orbit rfl rfl e3 (by omega)) | ((first | apply b_ | apply a_ | apply i_); exact z_; intro _) | ((first | apply p_ | apply JO_yes | apply GC_t); exact z_) | (apply n_; exact z_) | (apply GC_f; exact z_) | (apply GX_block_on; exact z_) | refine GC_drawA (id := 6) [0, 1, 2, 3, 4, 5, 6, 7] [] (by kernel_rfl) ?_ | ((first | apply GD_at | apply GL_at | apply GD_no | apply GL_no); exact rfl) | apply DFin_0 | (apply q1_; exact z_) | (apply q0_; exact z_) | (apply q2_; exact z_) | (apply c_; exact z_; all_goals intro _) | (apply g_; exact z_; all_goals intro _))
      refine GX_loop (k + 1) ⟨rfl, rfl, ?_, rfl, trivial⟩ (by omega) (by omega) (fun w hw => hw.weak (fun r h => h) (List.Sublist.cons _ (List.Sublist.refl _)))
      rw [show rbits (okC y c) (k + 1) = rbits (okC y c) k + 2 ^ k by simp [rbits, hcc]]; rfl
  · repeat' (first | apply s_ | ((first | apply JO_ob | apply GD_ex | apply GL_ex); exact rfl; first | exact ob1) | ((first | apply b_ | apply a_ | apply i_); exact z_; intro _) | ((first | apply p_ | apply JO_yes | apply GC_t); exact z_) | (apply n_; exact z_) | (apply GC_f; exact z_) | (apply GX_block_on; exact z_) | refine GC_drawA (id := 6) [0, 1, 2, 3, 4, 5, 6, 7] [] (by kernel_rfl) ?_ | ((first | apply GD_at | apply GL_at | apply GD_no | apply GL_no); exact rfl) | apply DFin_0 | (apply q1_; exact z_) | (apply q0_; exact z_) | (apply q2_; exact z_) | (apply c_; exact z_; all_goals intro _) | (apply g_; exact z_; all_goals intro _))
    refine GX_ex rfl rfl mem_ ?_
    rw [show k = y.smps.length by omega]; rfl
end Go.Proofs.YtkbaaikidhbfmaaGreat
/- Contracts: the reference of the layer 3, all truths. No statement is proved here. -/
set_option linter.unusedVariables false
namespace Go.Proofs.YtkbaaikidhbfmaaGreat
open Go.RowKit
/-- A course as it lies in a slice: its sun, and its slice of needs. -/
def encX (p : Int × Value) : List Value := [.int .i64 p.1, p.2]
structure CNest (G : Nat → Prop) (w : World) (v : Value) (es : List (Int × Value)) (cs : List Crs) : Prop where
  len : es.length = cs.length
  arr : Arr G w 2 encX v es
  row : ∀ i, i < cs.length → (nth es i).1 = (nth cs i).sun ∧ Arr G w 1 encI (nth es i).2 (nth cs i).needs
theorem nthC_in {y : Bt} (h : OkB y) (n : Int) : InC y (nthC y n) := by
  have hs := h.sun
  have m0 := Int.emod_nonneg n (b := szR y.sun) (by simp only [szR]; omega)
  have m1 := Int.emod_lt_of_pos n (b := szR y.sun) (by simp only [szR]; omega)
  refine ⟨?_, by simp [nthC], fun j hj => ?_⟩
  · simp only [nthC, szR] at *; omega
  · have := digK_bd h.n (n := n) hj
    have e : nth (nthC y n).needs j = digK y n j := by simp [nthC, nth, hj]
    rw [e]; exact this
/-- The truths among the first n. -/
def truths3To (y : Bt) (n : Nat) : List Crs := ((List.range n).map fun (n : Nat) => nthC y (n : Int)).filter (okAllC y)
def truths3 (y : Bt) : List Crs := truths3To y (many3 y).toNat
theorem truths3To_yes {y : Bt} {n : Nat} (h : okAllC y (nthC y (n : Int)) = true) : truths3To y (n + 1) = truths3To y n ++ [nthC y (n : Int)] := by
  simp [truths3To, List.range_succ, h]
theorem truths3To_no {y : Bt} {n : Nat} (h : okAllC y (nthC y (n : Int)) = false) : truths3To y (n + 1) = truths3To y n := by
  simp [truths3To, List.range_succ, h]
theorem truths3To_len (y : Bt) (n : Nat) : (truths3To y n).length ≤ n := by
  unfold truths3To
  exact Nat.le_trans (List.length_filter_le _ _) (by simp)
theorem c98 (w : World) (d e : Value) (y : Bt) (h : BtA All w d e y) (ho : OkB y) :
    Rt 98 [btV d e y] w fun v w' => Keep w w' ∧ ∃ es, CNest (New w) w' v es (truths3 y) := by
  have i1 := h.vats.v1
  have i3 := h.smps.v1
  have s5 := ho.s5
  have v3 := ho.v3
  have hs := ho.sun
  have hm := manyK_bd hs ho.n y.vats.length (Nat.le_refl _)
  have hp := pow10_3 v3
  have hmm : manyK y y.vats.length = many3 y := rfl
  rw [hmm] at hm
  refine Rt_of Tryz.func98 rfl Tryz.ntmps98 rfl ?_
  repeat' (first | apply s_ | ((first | apply JO_ob | apply GD_ex | apply GL_ex); exact rfl; first | exact ob1) | ((first | apply b_ | apply a_ | apply i_); exact z_; intro _) | ((first | apply p_ | apply JO_yes | apply GC_t); exact z_) | (apply n_; exact z_) | (apply GC_f; exact z_) | (apply GX_block_on; exact z_) | refine GC_drawA (id := 6) [0, 1, 2, 3, 4, 5] [] (by kernel_rfl) ?_ | ((first | apply GD_at | apply GL_at | apply GD_no | apply GL_no); exact rfl) | apply DFin_0 | (apply q1_; exact z_) | (apply q0_; exact z_) | (apply q2_; exact z_) | (apply c_; exact z_; all_goals intro _) | (apply g_; exact z_; all_goals intro _))
  rename_i p
  let Hf : Value → List (Int × Value) → List Value → Hp := fun v es s2 => (p, .cells #[.int .i64 y.sun.1, .int .i64 y.sun.2, d, .int .i64 y.last, e] 32) :: rowH v 84 (es.flatMap encX ++ s2)
  refine GC_loopw (α := Nat × Value × List (Int × Value) × List Value × World) (fun s => (many3 y).toNat - s.1) (fun s => [(1, .pointer (some ⟨p, 0, none⟩)), (3, s.2.1), (4, .int .i64 (s.1 : Int))])
    (fun s => [(OffN w (Hf s.2.1 s.2.2.1 s.2.2.2.1), s.2.2.2.2), ((fun _ => True), w)]) (fun s => Hf s.2.1 s.2.2.1 s.2.2.2.1)
    (fun s => (s.1 : Int) ≤ many3 y ∧ Own 2 encX s.2.1 s.2.2.1 s.2.2.2.1 ∧ s.2.2.1.length = (truths3To y s.1).length ∧ ∀ i, i < (truths3To y s.1).length → (nth s.2.2.1 i).1 = (nth (truths3To y s.1) i).sun ∧ Arr (OffN w (Hf s.2.1 s.2.2.1 s.2.2.2.1)) s.2.2.2.2 1 encI (nth s.2.2.1 i).2 (nth (truths3To y s.1) i).needs) ?_ ?_
  · intro u hu
    exact ⟨(0, .slice none 0 0, [], [], u), ⟨rfl, rfl, rfl, trivial⟩, ⟨by simp only; omega, Own.nil fun _ => rfl, rfl, fun i hi => absurd hi (Nat.not_lt_zero i)⟩, hu.offN⟩
  rintro ⟨k, v2, es, s2, u⟩ ⟨hk, ho2, hl2, hrows⟩
  simp only at hk ho2 hl2 hrows ⊢
  have j2 := ho2.v1
  have htl := truths3To_len y k
  by_cases hlt : (k : Int) < many3 y
  · simp only [Hf]
    repeat' (first | apply s_ | ((first | apply JO_ob | apply GD_ex | apply GL_ex); exact rfl; first | exact ob1 | exact Ob_call rfl (fun w hw => c100 w d e y (hw.bt mem_ h) hs ho.n v3)) | ((first | apply b_ | apply a_ | apply i_); exact z_; intro _) | ((first | apply p_ | apply JO_yes | apply GC_t); exact z_) | (apply n_; exact z_) | (apply GC_f; exact z_) | (apply GX_block_on; exact z_) | refine GC_drawA (id := 6) [0, 1, 2, 3, 4, 5] [] (by kernel_rfl) ?_ | ((first | apply GD_at | apply GL_at | apply GD_no | apply GL_no); exact rfl) | apply DFin_0 | (apply q1_; exact z_) | (apply q0_; exact z_) | (apply q2_; exact z_) | (apply c_; exact z_; all_goals intro _) | (apply g_; exact z_; all_goals intro _))
    refine JO_call (S := fun w0 r w' => ∃ v', r = crV v' (nthC y (k : Int)) ∧ Arr (New w0) w' 1 encI v' (nthC y (k : Int)).needs) rfl rfl (fun w5 hw5 => c136 w5 d e y (k : Int) (hw5.bt mem_ h) hs ho.n v3 (by omega) (by omega)) ?_
    rintro _ u0 u1 hu0 hu1 hk01 ⟨r, rfl, hS⟩
    have ir2 := hS.v1
    repeat' (first | apply s_ | ((first | apply JO_ob | apply GD_ex | apply GL_ex); exact rfl; first | exact ob1 | exact Ob_call rfl (fun w hw => c137 w d e r y (nthC y (k : Int)) (hw.bt mem_ h) ((hw.arr mem_ hS).weaken fun _ _ _ => trivial) ho (nthC_in ho _)) | exact Ob_call rfl (fun w hw => c138 w d e y (hw.bt mem_ h) (by omega))) | ((first | apply b_ | apply a_ | apply i_); exact z_; intro _) | ((first | apply p_ | apply JO_yes | apply GC_t); exact z_) | (apply n_; exact z_) | (apply GC_f; exact z_) | (apply GX_block_on; exact z_) | refine GC_drawA (id := 6) [0, 1, 2, 3, 4, 5] [] (by kernel_rfl) ?_ | ((first | apply GD_at | apply GL_at | apply GD_no | apply GL_no); exact rfl) | apply DFin_0 | (apply q1_; exact z_) | (apply q0_; exact z_) | (apply q2_; exact z_) | (apply c_; exact z_; all_goals intro _) | (apply g_; exact z_; all_goals intro _))
    · rename_i hc
      have hok : okAllC y (nthC y (k : Int)) = true := (rightC_full y _).1 (by have := Nat.two_pow_pos y.smps.length; omega)
      refine JO_append (xs := es) (ys := [((nthC y (k : Int)).sun, r)]) [_, _, _] rfl rfl rfl ho2 (List.Perm.refl _) (fun w hw => hw.slOwn mem_ rfl) (VA.o (cs := [.int .i64 (nthC y (k : Int)).sun, r])) (by simp; omega) ?_
      intro v3' s3 ho3
      have j3 := ho3.v1
      repeat' (first | apply s_ | ((first | apply JO_ob | apply GD_ex | apply GL_ex); exact rfl; first | exact ob1) | ((first | apply b_ | apply a_ | apply i_); exact z_; intro _) | ((first | apply p_ | apply JO_yes | apply GC_t); exact z_) | (apply n_; exact z_) | (apply GC_f; exact z_) | (apply GX_block_on; exact z_) | refine GC_drawA (id := 6) [0, 1, 2, 3, 4, 5] [] (by kernel_rfl) ?_ | ((first | apply GD_at | apply GL_at | apply GD_no | apply GL_no); exact rfl) | apply DFin_0 | (apply q1_; exact z_) | (apply q0_; exact z_) | (apply q2_; exact z_) | (apply c_; exact z_; all_goals intro _) | (apply g_; exact z_; all_goals intro _))
      refine GX_loopw fun w5 hw5 => ?_
      have hw6 := hw5.weak (R := _) (H := Hf v3' (es ++ [((nthC y (k : Int)).sun, r)]) s3) (fun r h => h) (List.Sublist.cons _ (List.Sublist.cons _ (List.Sublist.refl _)))
      refine ⟨(k + 1, v3', es ++ [((nthC y (k : Int)).sun, r)], s3, w5), ⟨rfl, rfl, rfl, trivial⟩, (by simp only; omega), ⟨by simp only; omega, ho3, by simp [hl2, truths3To_yes hok], fun i hi => ?_⟩, hw6.offN.weak (fun r h => ?_) (List.Sublist.refl _)⟩
      · simp only [truths3To_yes hok, List.length_append, List.length_singleton] at hi ⊢
        rcases Nat.lt_or_ge i (truths3To y k).length with hik | hik
        · rw [nth_app_l (by omega), nth_app_l hik]
          exact ⟨(hrows i hik).1, hw6.toOff (.tail _ (.head _)) (fun b hb => hb.1) (hrows i hik).2⟩
        · have e : i = (truths3To y k).length := by omega
          rw [nth_app_last (by omega), nth_app_last e]
          exact ⟨rfl, hw6.toOff (.head _) (fun b hb => Nat.le_trans hu0.b0le hb) hS⟩
      · simp only [List.mem_cons, List.not_mem_nil, or_false] at h ⊢
        rcases h with h | h
        · exact .inl h
        · exact .inr (.inr (.inr h))
    · rename_i hc
      have hok : okAllC y (nthC y (k : Int)) = false := by
        rw [← Bool.not_eq_true]
        intro h
        have := (rightC_full y _).2 h
        have := Nat.two_pow_pos y.smps.length
        omega
      refine GX_loopw fun w5 hw5 => ?_
      have hw6 := hw5.weak (R := _) (H := Hf v2 es s2) (fun r h => h) (List.Sublist.cons _ (List.Sublist.refl _))
      refine ⟨(k + 1, v2, es, s2, w5), ⟨rfl, rfl, rfl, trivial⟩, (by simp only; omega), ⟨by simp only; omega, ho2, by simp only [truths3To_no hok]; exact hl2, fun i hi => ?_⟩, hw6.offN.weak (fun r h => ?_) (List.Sublist.refl _)⟩
      · simp only [truths3To_no hok] at hi ⊢
        exact ⟨(hrows i hi).1, hw6.toOff (.tail _ (.head _)) (fun b hb => hb.1) (hrows i hi).2⟩
      · simp only [List.mem_cons, List.not_mem_nil, or_false] at h ⊢
        rcases h with h | h
        · exact .inl h
        · exact .inr (.inr (.inr h))
  · simp only [Hf]
    repeat' (first | apply s_ | ((first | apply JO_ob | apply GD_ex | apply GL_ex); exact rfl; first | exact ob1 | exact Ob_call rfl (fun w hw => c100 w d e y (hw.bt mem_ h) hs ho.n v3)) | ((first | apply b_ | apply a_ | apply i_); exact z_; intro _) | ((first | apply p_ | apply JO_yes | apply GC_t); exact z_) | (apply n_; exact z_) | (apply GC_f; exact z_) | (apply GX_block_on; exact z_) | refine GC_drawA (id := 6) [0, 1, 2, 3, 4, 5] [] (by kernel_rfl) ?_ | ((first | apply GD_at | apply GL_at | apply GD_no | apply GL_no); exact rfl) | apply DFin_0 | (apply q1_; exact z_) | (apply q0_; exact z_) | (apply q2_; exact z_) | (apply c_; exact z_; all_goals intro _) | (apply g_; exact z_; all_goals intro _))
    have hkl : k = (many3 y).toNat := by omega
    have et : truths3To y k = truths3 y := by rw [hkl]; rfl
    rw [et] at hl2 hrows
    refine GX_freeze (A := [(p, .cells #[.int .i64 y.sun.1, .int .i64 y.sun.2, d, .int .i64 y.last, e] 32)]) ho2 (by decide) ?_
    intro G2 w2 hV hG2
    refine GX_ret1 rfl rfl fun w' hw' => ⟨hw'.kp mem_, es, hl2, ?_, fun i hi => ?_⟩
    · exact hV.new hG2 (.tail _ (.head _)) (.head _) hw'
    · exact ⟨(hrows i hi).1, (hw'.arr (.tail _ (.head _)) (hrows i hi).2).weaken fun b hb _ => hb.1⟩
end Go.Proofs.YtkbaaikidhbfmaaGreat
/- Contracts: the reference of the layer 9, mud; endings. No statement is proved here. -/
set_option linter.unusedVariables false
namespace Go.Proofs.YtkbaaikidhbfmaaGreat
open Go.RowKit
def areEnd (y : Bt) (l : List Int) : Bool := l.all (fun x => decide (0 ≤ x ∧ x ≤ y.last)) && decide (l.length = y.vats.length)
theorem c57 (w : World) (d e v : Value) (y : Bt) (l : List Int) (h : BtA All w d e y) (hv : Arr All w 1 encI v l) : Ex 57 [btV d e y, v] w (.bool (areEnd y l)) := by
  have i1 := h.vats.v1
  have i2 := h.smps.v1
  have i3 := hv.v1
  have ha := h.vats
  have b1 := hv.bound
  refine Rt_of Tryz.func57 rfl Tryz.ntmps57 rfl ?_
  repeat' (first | apply s_ | ((first | apply JO_ob | apply GD_ex | apply GL_ex); exact rfl; first | exact ob1) | ((first | apply b_ | apply a_ | apply i_); exact z_; intro _) | ((first | apply p_ | apply JO_yes | apply GC_t); exact z_) | (apply n_; exact z_) | (apply GC_f; exact z_) | (apply GX_block_on; exact z_) | refine GC_drawA (id := 4) [0, 1, 2, 3, 4, 5, 6, 7] [] (by kernel_rfl) ?_ | ((first | apply GD_at | apply GL_at | apply GD_no | apply GL_no); exact rfl) | apply DFin_0 | (apply q1_; exact z_) | (apply q0_; exact z_) | (apply q2_; exact z_) | (apply c_; exact z_; all_goals intro _) | (apply g_; exact z_; all_goals intro _))
  rename_i p
  refine GC_loop0 (fun k => l.length - k) (fun k => [(2, .pointer (some ⟨p, 0, none⟩)), (1, v), (5, .int .i64 (k : Int))]) (fun k => k ≤ l.length ∧ ∀ j, j < k → decide (0 ≤ nth l j ∧ nth l j ≤ y.last) = true) 0 ⟨rfl, rfl, rfl, trivial⟩ ⟨by omega, fun j hj => absurd hj (Nat.not_lt_zero j)⟩ ?_
  rintro k ⟨hk, hno⟩
  by_cases hlt : k < l.length
  · repeat' (first | apply s_ | ((first | apply JO_ob | apply GD_ex | apply GL_ex); exact rfl; first | exact ob1 | exact Ob_call rfl (fun w hw => c110 _ _ _ w)) | ((first | apply b_ | apply a_ | apply i_); exact z_; intro _) | ((first | apply p_ | apply JO_yes | apply GC_t); exact z_) | (apply n_; exact z_) | (apply GC_f; exact z_) | (apply GX_block_on; exact z_) | refine GC_drawA (id := 4) [0, 1, 2, 3, 4, 5, 6, 7] [] (by kernel_rfl) ?_ | ((first | apply GD_at | apply GL_at | apply GD_no | apply GL_no); exact rfl) | apply DFin_0 | (apply q1_; exact z_) | (apply q0_; exact z_) | (apply q2_; exact z_) | (apply c_; exact z_; all_goals intro _) | (apply g_; exact z_; all_goals intro _))
    cases hf : decide (0 ≤ nth l k ∧ nth l k ≤ y.last)
    · repeat' (first | apply s_ | ((first | apply JO_ob | apply GD_ex | apply GL_ex); exact rfl; first | exact ob1) | ((first | apply b_ | apply a_ | apply i_); exact z_; intro _) | ((first | apply p_ | apply JO_yes | apply GC_t); exact z_) | (apply n_; exact z_) | (apply GC_f; exact z_) | (apply GX_block_on; exact z_) | refine GC_drawA (id := 4) [0, 1, 2, 3, 4, 5, 6, 7] [] (by kernel_rfl) ?_ | ((first | apply GD_at | apply GL_at | apply GD_no | apply GL_no); exact rfl) | apply DFin_0 | (apply q1_; exact z_) | (apply q0_; exact z_) | (apply q2_; exact z_) | (apply c_; exact z_; all_goals intro _) | (apply g_; exact z_; all_goals intro _))
      refine GX_ex rfl rfl mem_ ?_
      simp only [areEnd]
      rw [all_not hlt hf, Bool.false_and]
    · repeat' (first | apply s_ | ((first | apply JO_ob | apply GD_ex | apply GL_ex); exact rfl; first | exact ob1) | ((first | apply b_ | apply a_ | apply i_); exact z_; intro _) | ((first | apply p_ | apply JO_yes | apply GC_t); exact z_) | (apply n_; exact z_) | (apply GC_f; exact z_) | (apply GX_block_on; exact z_) | refine GC_drawA (id := 4) [0, 1, 2, 3, 4, 5, 6, 7] [] (by kernel_rfl) ?_ | ((first | apply GD_at | apply GL_at | apply GD_no | apply GL_no); exact rfl) | apply DFin_0 | (apply q1_; exact z_) | (apply q0_; exact z_) | (apply q2_; exact z_) | (apply c_; exact z_; all_goals intro _) | (apply g_; exact z_; all_goals intro _))
      refine GX_loop0 (k + 1) ⟨rfl, rfl, rfl, trivial⟩ (by omega) ⟨by omega, fun j hj => ?_⟩
      rcases Nat.lt_or_ge j k with h | h
      · exact hno j h
      · rw [show j = k by omega]; exact hf
  · have hA : (l.all fun x => decide (0 ≤ x ∧ x ≤ y.last)) = true := all_nth.2 fun j hj => hno j (by omega)
    repeat' (first | apply s_ | ((first | apply JO_ob | apply GD_ex | apply GL_ex); exact rfl; first | exact ob1) | ((first | apply b_ | apply a_ | apply i_); exact z_; intro _) | ((first | apply p_ | apply JO_yes | apply GC_t); exact z_) | (apply n_; exact z_) | (apply GC_f; exact z_) | (apply GX_block_on; exact z_) | refine GC_drawA (id := 4) [0, 1, 2, 3, 4, 5, 6, 7] [] (by kernel_rfl) ?_ | ((first | apply GD_at | apply GL_at | apply GD_no | apply GL_no); exact rfl) | apply DFin_0 | (apply q1_; exact z_) | (apply q0_; exact z_) | (apply q2_; exact z_) | (apply c_; exact z_; all_goals intro _) | (apply g_; exact z_; all_goals intro _))
    all_goals
      refine GX_ex rfl rfl mem_ ?_
      simp only [areEnd, hA, Bool.true_and]
      first
      | exact dT (by omega)
      | exact dF (by omega)
def mudR (k : Wk) (bs : List Int) (c : Crs) (vat : Int) : Int := max 0 (dot bs (nth k.yard.vats vat.toNat) - lostC k.beat c vat (nth k.ends vat.toNat))
theorem lostC_bd {y : Bt} {c : Crs} {vat hour : Int} (hB : OkB y) (hc : InC y c) (h0 : 0 ≤ vat) (h1 : vat < (y.vats.length : Int)) (hh : 0 ≤ hour ∧ hour ≤ 9) : 0 ≤ lostC y c vat hour ∧ lostC y c vat hour ≤ 520 := by
  have hs := hB.sun
  have e1 := hc.sun
  have e2 := hc.needs vat.toNat (by omega)
  have e3 := hB.v vat.toNat (by omega)
  have e5 : 0 ≤ whenC c vat ∧ whenC c vat ≤ 13 := by simp only [whenC]; omega
  have m1 := mul_bd (a := max 0 (whenC c vat - hour)) (b := (nth y.vats vat.toNat).early) (m := 13) (n := 20) (by omega) (by omega) (by omega) (by omega)
  have m2 := mul_bd (a := max 0 (hour - whenC c vat)) (b := (nth y.vats vat.toNat).late) (m := 13) (n := 20) (by omega) (by omega) (by omega) (by omega)
  simp only [lostC]; omega
/-- What the laws know of valid works. -/
structure OkW (k : Wk) : Prop where
  y : OkY k.yard
  b : OkB k.beat
  len : k.beat.vats.length = k.yard.vats.length
  ends : areEnd k.beat k.ends = true
theorem OkW.end_ {k : Wk} (h : OkW k) {i : Nat} (hi : i < k.yard.vats.length) : i < k.ends.length ∧ 0 ≤ nth k.ends i ∧ nth k.ends i ≤ 9 := by
  have := h.ends
  simp only [areEnd, Bool.and_eq_true, decide_eq_true_eq] at this
  have hl := h.len
  have h2 : i < k.ends.length := by omega
  have h3 := all_nth.1 this.1 i h2
  have h4 := h.b.l
  simp only [decide_eq_true_eq] at h3
  omega
theorem c50 (w : World) (a b c : Value) (hs : List Value) (d e f v n : Value) (k : Wk) (bs : List Int) (cr : Crs) (vat : Int) (h : WkA All w a b c hs d e f k) (hv : Arr All w 1 encI v bs) (hn : Arr All w 1 encI n cr.needs) (ho : OkW k)
    (hl : bs.length = k.yard.fields.length) (hb : Bd 20 bs) (hc : InC k.beat cr) (h0 : 0 ≤ vat) (h1 : vat < (k.yard.vats.length : Int)) :
    Ex 50 [wkV a b c d e f k, .agg #[v, .int .i64 cr.sun, n], .int .i64 vat] w (.int .i64 (mudR k bs cr vat)) := by
  have i1 := h.yard.fields.v1
  have i2 := h.yard.vats.arr.v1
  have i3 := h.yard.smps.v1
  have i4 := h.beat.vats.v1
  have i5 := h.beat.smps.v1
  have i6 := h.ends.v1
  have i7 := hv.v1
  have i8 := hn.v1
  have he := h.ends
  have hlen := ho.len
  have f5 := ho.y.f5
  have e1 := ho.y.v vat.toNat (by omega)
  have e2 := ho.end_ (i := vat.toNat) (by omega)
  have e3 := lostC_bd ho.b hc h0 (by omega) e2.2
  have e4 := dotN_bd hb e1.2 (by omega) bs.length (Nat.le_refl _)
  have e5 : dotN bs (nth k.yard.vats vat.toNat) bs.length = dot bs (nth k.yard.vats vat.toNat) := rfl
  rw [e5] at e4
  refine Rt_of Tryz.func50 rfl Tryz.ntmps50 rfl ?_
  repeat' (first | apply s_ | ((first | apply JO_ob | apply GD_ex | apply GL_ex); exact rfl; first | exact ob1 | exact Ob_call rfl (fun w hw => c107 w a b c v hs k.yard bs vat (hw.yd (.head _) h.yard) (hw.arr (.head _) hv) h0 h1 (by omega) (by omega) hb e1.2) | exact Ob_call rfl (fun w hw => c108 w d e n k.beat cr vat _ (hw.bt (.head _) h.beat) (hw.arr (.head _) hn) ho.b hc h0 (by omega) e2.2)) | ((first | apply b_ | apply a_ | apply i_); exact z_; intro _) | ((first | apply p_ | apply JO_yes | apply GC_t); exact z_) | (apply n_; exact z_) | (apply GC_f; exact z_) | (apply GX_block_on; exact z_) | refine GC_drawA (id := 1) [0, 1, 2, 3, 4, 5, 6, 7, 8, 9, 10, 11, 12, 13, 14, 15, 16, 17, 18, 19] [] (by kernel_rfl) ?_ | ((first | apply GD_at | apply GL_at | apply GD_no | apply GL_no); exact rfl) | apply DFin_0 | (apply q1_; exact z_) | (apply q0_; exact z_) | (apply q2_; exact z_) | (apply c_; exact z_; all_goals intro _) | (apply g_; exact z_; all_goals intro _))
  (first | exact GX_ex rfl rfl mem_ rfl | exact GX_exc rfl rfl mem_ rfl mem_ rfl)
end Go.Proofs.YtkbaaikidhbfmaaGreat
/- Contracts: the reference of the layer 9, hours. No statement is proved here. -/
set_option linter.unusedVariables false
namespace Go.Proofs.YtkbaaikidhbfmaaGreat
open Go.RowKit
/-- What is pressed in so many hours. -/
def pr (f n : Int) : Int := f * n * (n + 1) / 2
theorem pr_ge {f : Int} (hf : 1 ≤ f) (k : Nat) : (k : Int) ≤ pr f k := by
  have h0 : 1 * (k : Int) ≤ f * k := Int.mul_le_mul_of_nonneg_right hf (Int.natCast_nonneg k)
  rw [Int.one_mul] at h0
  have h1 : (k : Int) * (k + 1) ≤ f * k * (k + 1) := Int.mul_le_mul_of_nonneg_right h0 (by omega)
  have h2 : (k : Int) * (k + 1) = k * k + k := by rw [Int.mul_add, Int.mul_one]
  have h3 : ((k : Nat) : Int) ≤ ((k * k : Nat) : Int) := Int.ofNat_le.2 (Nat.le_mul_self k)
  rw [Int.natCast_mul] at h3
  simp only [pr]
  omega
/-- The first hour, from n on, at which so much is pressed. -/
def hoursFrom (f m : Int) : Nat → Nat → Nat
  | 0, n => n
  | fuel + 1, n => if pr f (n : Int) < m then hoursFrom f m fuel (n + 1) else n
def hoursR (f m : Int) : Nat := hoursFrom f m 1000 0
theorem c51 (w : World) (f n : Int) (hf : 1 ≤ f ∧ f ≤ 9) (hn : 0 ≤ n ∧ n ≤ 1000) : Ex 51 [.int .i64 f, .int .i64 n] w (.int .i64 (pr f n)) := by
  have e1 := mul_bd (m := 9) (n := 1000) (by omega) hf.2 hn.1 hn.2
  have e2 := mul_bd (a := f * n) (b := n + 1) (m := 9000) (n := 1001) (by omega) (by omega) (by omega) (by omega)
  refine Rt_of Tryz.func51 rfl Tryz.ntmps51 rfl ?_
  repeat' (first | apply s_ | (apply JO_ob; exact rfl; first | exact ob1 | exact Ob_mul rfl rfl (by omega) | exact Ob_quo rfl rfl (by omega) (by omega) (by omega)) | ((first | apply b_ | apply a_ | apply i_); exact z_; intro _) | ((first | apply p_ | apply JO_yes | apply GC_t); exact z_) | (apply n_; exact z_) | (apply GC_f; exact z_) | (apply GX_block_on; exact z_) | (apply c_; exact z_; all_goals intro _))
  (first | exact GX_ex rfl rfl mem_ rfl | exact GX_exc rfl rfl mem_ rfl mem_ rfl)
theorem c87 (w : World) (f m : Int) (hf : 1 ≤ f ∧ f ≤ 9) (hm : 0 ≤ m ∧ m ≤ 900) : Ex 87 [.int .i64 f, .int .i64 m] w (.int .i64 (hoursR f m : Int)) := by
  refine Rt_of Tryz.func87 rfl Tryz.ntmps87 rfl ?_
  repeat' (first | apply s_ | (apply JO_ob; exact rfl; first | exact ob1) | ((first | apply b_ | apply a_ | apply i_); exact z_; intro _) | ((first | apply p_ | apply JO_yes | apply GC_t); exact z_) | (apply n_; exact z_) | (apply GC_f; exact z_) | (apply GX_block_on; exact z_) | (apply c_; exact z_; all_goals intro _))
  refine GC_loop0 (fun k => 1000 - k) (fun k => [(0, .int .i64 f), (1, .int .i64 m), (5, .int .i64 (k : Int))]) (fun k => (k : Int) ≤ m ∧ hoursFrom f m (1000 - k) k = hoursR f m) 0 ⟨rfl, rfl, rfl, trivial⟩ ⟨by omega, rfl⟩ ?_
  rintro k ⟨hk, hh⟩
  have hge := pr_ge hf.1 k
  have hs : 1000 - k = (1000 - (k + 1)) + 1 := by omega
  rw [hs] at hh
  simp only [hoursFrom] at hh
  repeat' (first | apply s_ | (apply JO_ob; exact rfl; first | exact ob1 | exact Ob_call rfl (fun w hw => c51 w f _ hf (by omega))) | ((first | apply b_ | apply a_ | apply i_); exact z_; intro _) | ((first | apply p_ | apply JO_yes | apply GC_t); exact z_) | (apply n_; exact z_) | (apply GC_f; exact z_) | (apply GX_block_on; exact z_) | (apply c_; exact z_; all_goals intro _))
  · rename_i hlt
    rw [if_pos hlt] at hh
    exact GX_loop0 (k + 1) ⟨rfl, rfl, rfl, trivial⟩ (by omega) ⟨by omega, hh⟩
  · rename_i hlt
    rw [if_neg hlt] at hh
    refine GX_ex rfl rfl mem_ ?_
    rw [hh]
end Go.Proofs.YtkbaaikidhbfmaaGreat
/- Contracts: the reference of the layer 3, its error. No statement is proved here. -/
set_option linter.unusedVariables false
namespace Go.Proofs.YtkbaaikidhbfmaaGreat
open Go.RowKit
def bigB (y : Bt) : Bool := decide (9 < y.last) || decide (3 < y.vats.length) || decide (5 < y.smps.length)
def isSun (y : Bt) : Bool := decide (0 ≤ y.last) && decide (0 ≤ y.sun.1 ∧ y.sun.1 ≤ y.sun.2 ∧ y.sun.2 ≤ 4)
def isBV (v : BV) : Bool := decide (0 ≤ v.lo ∧ v.lo ≤ v.hi ∧ v.hi ≤ 9) && (decide (0 ≤ v.early ∧ v.early ≤ 20) && decide (0 ≤ v.late ∧ v.late ≤ 20))
def isBS (n : Nat) (l : Int) (s : BS) : Bool := decide (0 ≤ s.vat ∧ s.vat ≤ (n : Int) - 1) && decide (0 ≤ s.hour ∧ s.hour ≤ l)
/-- The error of a beating. -/
def fault3 (y : Bt) : Int := if bigB y = true then 3 else if (isSun y && y.vats.all isBV && y.smps.all (isBS y.vats.length y.last)) = false then 1 else if 200 < many3 y then 3 else 0
theorem okN_of {vs : List BV} (h : vs.all isBV = true) : OkN vs := fun i hi => by
  have := all_nth.1 h i hi
  simp only [isBV, Bool.and_eq_true, decide_eq_true_eq] at this
  exact this.1
theorem c97 (w : World) (d e : Value) (y : Bt) (h : BtA All w d e y) : Ex 97 [btV d e y] w (.int .i64 (fault3 y)) := by
  have i1 := h.vats.v1
  have i3 := h.smps.v1
  have ha := h.vats
  have hc := h.smps
  have b1 := ha.bound
  have b3 := hc.bound
  have big : ∀ (hx : 9 < y.last ∨ 3 < y.vats.length ∨ 5 < y.smps.length), fault3 y = 3 := fun hx => by
    have : bigB y = true := by simp [bigB]; omega
    simp [fault3, this]
  refine Rt_of Tryz.func97 rfl Tryz.ntmps97 rfl ?_
  repeat' (first | apply s_ | (apply JO_ob; exact rfl; first | exact ob1) | ((first | apply b_ | apply a_ | apply i_); exact z_; intro _) | ((first | apply p_ | apply JO_yes | apply GC_t); exact z_) | (apply n_; exact z_) | (apply GC_f; exact z_) | (apply GX_block_on; exact z_))
  by_cases x1 : 9 < y.last
  · repeat' (first | apply s_ | (apply JO_ob; exact rfl; first | exact ob1) | ((first | apply b_ | apply a_ | apply i_); exact z_; intro _) | ((first | apply p_ | apply JO_yes | apply GC_t); exact z_) | (apply n_; exact z_) | (apply GC_f; exact z_) | (apply GX_block_on; exact z_) | (apply c_; exact z_; all_goals intro _))
    refine GX_ex rfl rfl mem_ ?_
    rw [big (by omega)]
  by_cases x2 : 3 < y.vats.length
  · repeat' (first | apply s_ | (apply JO_ob; exact rfl; first | exact ob1) | ((first | apply b_ | apply a_ | apply i_); exact z_; intro _) | ((first | apply p_ | apply JO_yes | apply GC_t); exact z_) | (apply n_; exact z_) | (apply GC_f; exact z_) | (apply GX_block_on; exact z_) | (apply c_; exact z_; all_goals intro _))
    refine GX_ex rfl rfl mem_ ?_
    rw [big (by omega)]
  by_cases x3 : 5 < y.smps.length
  · repeat' (first | apply s_ | (apply JO_ob; exact rfl; first | exact ob1) | ((first | apply b_ | apply a_ | apply i_); exact z_; intro _) | ((first | apply p_ | apply JO_yes | apply GC_t); exact z_) | (apply n_; exact z_) | (apply GC_f; exact z_) | (apply GX_block_on; exact z_) | (apply c_; exact z_; all_goals intro _))
    refine GX_ex rfl rfl mem_ ?_
    rw [big (by omega)]
  have hbig : bigB y = false := by simp [bigB]; omega
  have bad : (isSun y = false ∨ y.vats.all isBV = false ∨ y.smps.all (isBS y.vats.length y.last) = false) → fault3 y = 1 := fun hx => by
    rcases hx with hx | hx | hx <;> simp [fault3, hbig, hx]
  by_cases x4 : y.last < 0
  · repeat' (first | apply s_ | (apply JO_ob; exact rfl; first | exact ob1) | ((first | apply b_ | apply a_ | apply i_); exact z_; intro _) | ((first | apply p_ | apply JO_yes | apply GC_t); exact z_) | (apply n_; exact z_) | (apply GC_f; exact z_) | (apply GX_block_on; exact z_) | (apply c_; exact z_; all_goals intro _))
    refine GX_ex rfl rfl mem_ ?_
    rw [bad (.inl (by simp only [isSun]; rw [decide_eq_false (by omega), Bool.false_and]))]
  repeat' (first | apply s_ | (apply JO_ob; exact rfl; first | exact ob1 | exact Ob_call rfl (fun w hw => c135 _ _ _ w)) | ((first | apply b_ | apply a_ | apply i_); exact z_; intro _) | ((first | apply p_ | apply JO_yes | apply GC_t); exact z_) | (apply n_; exact z_) | (apply GC_f; exact z_) | (apply GX_block_on; exact z_) | (apply c_; exact z_; all_goals intro _))
  cases hsun : decide (0 ≤ y.sun.1 ∧ y.sun.1 ≤ y.sun.2 ∧ y.sun.2 ≤ 4)
  · repeat' (first | apply s_ | (apply JO_ob; exact rfl; first | exact ob1) | ((first | apply b_ | apply a_ | apply i_); exact z_; intro _) | ((first | apply p_ | apply JO_yes | apply GC_t); exact z_) | (apply n_; exact z_) | (apply GC_f; exact z_) | (apply GX_block_on; exact z_) | (apply c_; exact z_; all_goals intro _))
    refine GX_ex rfl rfl mem_ ?_
    rw [bad (.inl (by simp only [isSun]; rw [hsun, Bool.and_false]))]
  have hSun : isSun y = true := by simp only [isSun]; rw [hsun, decide_eq_true (by omega)]; rfl
  have hs := of_decide_eq_true hsun
  repeat' (first | apply s_ | (apply JO_ob; exact rfl; first | exact ob1) | ((first | apply b_ | apply a_ | apply i_); exact z_; intro _) | ((first | apply p_ | apply JO_yes | apply GC_t); exact z_) | (apply n_; exact z_) | (apply GC_f; exact z_) | (apply GX_block_on; exact z_) | (apply c_; exact z_; all_goals intro _))
  rename_i p
  refine GC_loop0 (fun k => y.vats.length - k) (fun k => [(1, .pointer (some ⟨p, 0, none⟩)), (3, .int .i64 (k : Int))]) (fun k => k ≤ y.vats.length ∧ ∀ j, j < k → isBV (nth y.vats j) = true) 0 ⟨rfl, rfl, trivial⟩ ⟨by omega, fun j hj => absurd hj (Nat.not_lt_zero j)⟩ ?_
  rintro k ⟨hk, hno⟩
  by_cases hlt : k < y.vats.length
  · repeat' (first | apply s_ | (apply JO_ob; exact rfl; first | exact ob1 | exact Ob_call rfl (fun w hw => c135 _ _ _ w)) | ((first | apply b_ | apply a_ | apply i_); exact z_; intro _) | ((first | apply p_ | apply JO_yes | apply GC_t); exact z_) | (apply n_; exact z_) | (apply GC_f; exact z_) | (apply GX_block_on; exact z_) | (apply c_; exact z_; all_goals intro _))
    cases hf1 : decide (0 ≤ (nth y.vats k).lo ∧ (nth y.vats k).lo ≤ (nth y.vats k).hi ∧ (nth y.vats k).hi ≤ 9)
    · repeat' (first | apply s_ | (apply JO_ob; exact rfl; first | exact ob1) | ((first | apply b_ | apply a_ | apply i_); exact z_; intro _) | ((first | apply p_ | apply JO_yes | apply GC_t); exact z_) | (apply n_; exact z_) | (apply GC_f; exact z_) | (apply GX_block_on; exact z_) | (apply c_; exact z_; all_goals intro _))
      refine GX_ex rfl rfl mem_ ?_
      rw [bad (.inr (.inl (all_not hlt (by simp only [isBV, hf1, Bool.false_and]))))]
    · repeat' (first | apply s_ | (apply JO_ob; exact rfl; first | exact ob1 | exact Ob_call rfl (fun w hw => c110 _ _ _ w)) | ((first | apply b_ | apply a_ | apply i_); exact z_; intro _) | ((first | apply p_ | apply JO_yes | apply GC_t); exact z_) | (apply n_; exact z_) | (apply GC_f; exact z_) | (apply GX_block_on; exact z_) | (apply c_; exact z_; all_goals intro _))
      cases hf2 : decide (0 ≤ (nth y.vats k).early ∧ (nth y.vats k).early ≤ 20)
      · repeat' (first | apply s_ | (apply JO_ob; exact rfl; first | exact ob1) | ((first | apply b_ | apply a_ | apply i_); exact z_; intro _) | ((first | apply p_ | apply JO_yes | apply GC_t); exact z_) | (apply n_; exact z_) | (apply GC_f; exact z_) | (apply GX_block_on; exact z_) | (apply c_; exact z_; all_goals intro _))
        refine GX_ex rfl rfl mem_ ?_
        rw [bad (.inr (.inl (all_not hlt (by simp only [isBV, hf2, Bool.false_and, Bool.and_false]))))]
      · repeat' (first | apply s_ | (apply JO_ob; exact rfl; first | exact ob1 | exact Ob_call rfl (fun w hw => c110 _ _ _ w)) | ((first | apply b_ | apply a_ | apply i_); exact z_; intro _) | ((first | apply p_ | apply JO_yes | apply GC_t); exact z_) | (apply n_; exact z_) | (apply GC_f; exact z_) | (apply GX_block_on; exact z_) | (apply c_; exact z_; all_goals intro _))
        cases hf3 : decide (0 ≤ (nth y.vats k).late ∧ (nth y.vats k).late ≤ 20)
        · repeat' (first | apply s_ | (apply JO_ob; exact rfl; first | exact ob1) | ((first | apply b_ | apply a_ | apply i_); exact z_; intro _) | ((first | apply p_ | apply JO_yes | apply GC_t); exact z_) | (apply n_; exact z_) | (apply GC_f; exact z_) | (apply GX_block_on; exact z_) | (apply c_; exact z_; all_goals intro _))
          refine GX_ex rfl rfl mem_ ?_
          rw [bad (.inr (.inl (all_not hlt (by simp only [isBV, hf3, Bool.and_false]))))]
        · repeat' (first | apply s_ | (apply JO_ob; exact rfl; first | exact ob1) | ((first | apply b_ | apply a_ | apply i_); exact z_; intro _) | ((first | apply p_ | apply JO_yes | apply GC_t); exact z_) | (apply n_; exact z_) | (apply GC_f; exact z_) | (apply GX_block_on; exact z_) | (apply c_; exact z_; all_goals intro _))
          refine GX_loop (k + 1) ⟨rfl, rfl, trivial⟩ (by omega) ⟨by omega, fun j hj => ?_⟩ (fun w hw => hw.weak (fun r h => h) (List.Sublist.cons _ (List.Sublist.refl _)))
          rcases Nat.lt_or_ge j k with h | h
          · exact hno j h
          · rw [show j = k by omega]; simp only [isBV, hf1, hf2, hf3, Bool.and_true]
  have hV : y.vats.all isBV = true := all_nth.2 fun j hj => hno j (by omega)
  repeat' (first | apply s_ | (apply JO_ob; exact rfl; first | exact ob1) | ((first | apply b_ | apply a_ | apply i_); exact z_; intro _) | ((first | apply p_ | apply JO_yes | apply GC_t); exact z_) | (apply n_; exact z_) | (apply GC_f; exact z_) | (apply GX_block_on; exact z_) | (apply c_; exact z_; all_goals intro _))
  refine GC_loop0 (fun k => y.smps.length - k) (fun k => [(1, .pointer (some ⟨p, 0, none⟩)), (5, .int .i64 (k : Int))]) (fun k => k ≤ y.smps.length ∧ ∀ j, j < k → isBS y.vats.length y.last (nth y.smps j) = true) 0 ⟨rfl, rfl, trivial⟩ ⟨by omega, fun j hj => absurd hj (Nat.not_lt_zero j)⟩ ?_
  rintro k ⟨hk, hno⟩
  by_cases hlt : k < y.smps.length
  · repeat' (first | apply s_ | (apply JO_ob; exact rfl; first | exact ob1 | exact Ob_call rfl (fun w hw => c110 _ _ _ w)) | ((first | apply b_ | apply a_ | apply i_); exact z_; intro _) | ((first | apply p_ | apply JO_yes | apply GC_t); exact z_) | (apply n_; exact z_) | (apply GC_f; exact z_) | (apply GX_block_on; exact z_) | (apply c_; exact z_; all_goals intro _))
    cases hf1 : decide (0 ≤ (nth y.smps k).vat ∧ (nth y.smps k).vat ≤ (y.vats.length : Int) - 1)
    · repeat' (first | apply s_ | (apply JO_ob; exact rfl; first | exact ob1) | ((first | apply b_ | apply a_ | apply i_); exact z_; intro _) | ((first | apply p_ | apply JO_yes | apply GC_t); exact z_) | (apply n_; exact z_) | (apply GC_f; exact z_) | (apply GX_block_on; exact z_) | (apply c_; exact z_; all_goals intro _))
      refine GX_ex rfl rfl mem_ ?_
      rw [bad (.inr (.inr (all_not hlt (by simp only [isBS, hf1, Bool.false_and]))))]
    · repeat' (first | apply s_ | (apply JO_ob; exact rfl; first | exact ob1 | exact Ob_call rfl (fun w hw => c110 _ _ _ w)) | ((first | apply b_ | apply a_ | apply i_); exact z_; intro _) | ((first | apply p_ | apply JO_yes | apply GC_t); exact z_) | (apply n_; exact z_) | (apply GC_f; exact z_) | (apply GX_block_on; exact z_) | (apply c_; exact z_; all_goals intro _))
      cases hf2 : decide (0 ≤ (nth y.smps k).hour ∧ (nth y.smps k).hour ≤ y.last)
      · repeat' (first | apply s_ | (apply JO_ob; exact rfl; first | exact ob1) | ((first | apply b_ | apply a_ | apply i_); exact z_; intro _) | ((first | apply p_ | apply JO_yes | apply GC_t); exact z_) | (apply n_; exact z_) | (apply GC_f; exact z_) | (apply GX_block_on; exact z_) | (apply c_; exact z_; all_goals intro _))
        refine GX_ex rfl rfl mem_ ?_
        rw [bad (.inr (.inr (all_not hlt (by simp only [isBS, hf2, Bool.and_false]))))]
      · repeat' (first | apply s_ | (apply JO_ob; exact rfl; first | exact ob1) | ((first | apply b_ | apply a_ | apply i_); exact z_; intro _) | ((first | apply p_ | apply JO_yes | apply GC_t); exact z_) | (apply n_; exact z_) | (apply GC_f; exact z_) | (apply GX_block_on; exact z_) | (apply c_; exact z_; all_goals intro _))
        refine GX_loop (k + 1) ⟨rfl, rfl, trivial⟩ (by omega) ⟨by omega, fun j hj => ?_⟩ (fun w hw => hw.weak (fun r h => h) (List.Sublist.cons _ (List.Sublist.refl _)))
        rcases Nat.lt_or_ge j k with h | h
        · exact hno j h
        · rw [show j = k by omega]; simp only [isBS, hf1, hf2, Bool.and_true]
  have hS : y.smps.all (isBS y.vats.length y.last) = true := all_nth.2 fun j hj => hno j (by omega)
  have hmm := manyK_bd hs (okN_of hV) y.vats.length (Nat.le_refl _)
  have hp := pow10_3 (k := y.vats.length) (by omega)
  repeat' (first | apply s_ | (apply JO_ob; exact rfl; first | exact ob1 | exact Ob_call rfl (fun w hw => c100 w d e y (hw.bt mem_ h) hs (okN_of hV) (by omega))) | ((first | apply b_ | apply a_ | apply i_); exact z_; intro _) | ((first | apply p_ | apply JO_yes | apply GC_t); exact z_) | (apply n_; exact z_) | (apply GC_f; exact z_) | (apply GX_block_on; exact z_) | (apply c_; exact z_; all_goals intro _))
  · refine GX_ex rfl rfl mem_ ?_
    rename_i hm
    simp [fault3, hbig, hSun, hV, hS, hm]
  · refine GX_ex rfl rfl mem_ ?_
    rename_i hm
    simp only [fault3, hbig, hSun, hV, hS, Bool.and_true, Bool.true_eq_false, Bool.false_eq_true, if_false]
    rw [if_neg hm]
/-- What a beating without an error is. -/
theorem okB_of {y : Bt} (h : fault3 y = 0) : OkB y ∧ many3 y ≤ 200 := by
  unfold fault3 at h
  split at h
  · cases h
  split at h
  · cases h
  split at h
  · cases h
  rename_i h1 h2 h3
  simp only [bigB, Bool.or_eq_true, decide_eq_true_eq, not_or] at h1
  rw [Bool.not_eq_false, Bool.and_eq_true, Bool.and_eq_true] at h2
  obtain ⟨⟨hF, hV⟩, hS⟩ := h2
  simp only [isSun, Bool.and_eq_true, decide_eq_true_eq] at hF
  refine ⟨⟨by omega, by omega, by omega, hF.2, fun j hj => ?_, fun i hi => ?_⟩, by omega⟩
  · have := all_nth.1 hV j hj
    simp only [isBV, Bool.and_eq_true, decide_eq_true_eq] at this
    exact this
  · have := all_nth.1 hS i hi
    simp only [isBS, Bool.and_eq_true, decide_eq_true_eq] at this
    omega
end Go.Proofs.YtkbaaikidhbfmaaGreat
/- Contracts: the reference of the layer 9, its error. No statement is proved here. -/
set_option linter.unusedVariables false
namespace Go.Proofs.YtkbaaikidhbfmaaGreat
open Go.RowKit
def isNum (k : Wk) : Bool := decide (1 ≤ k.boxes ∧ k.boxes ≤ 3) && (decide (1 ≤ k.force ∧ k.force ≤ 9) && (decide (0 ≤ k.last ∧ k.last ≤ 99) && decide (1 ≤ k.cake ∧ k.cake ≤ 50)))
/-- The error of works. -/
def fault9 (k : Wk) : Int :=
  if fault1 k.yard ≠ 0 then fault1 k.yard else if (truths1 k.yard).length = 0 then 11 else if fault3 k.beat ≠ 0 then fault3 k.beat else if (truths3 k.beat).length = 0 then 11
  else if k.beat.vats.length ≠ k.yard.vats.length then 1 else if areEnd k.beat k.ends = false then 1 else if isNum k = false then 1 else if 6000 < many1 k.yard.fields * many3 k.beat then 3 else 0
theorem c42 (w : World) (a b c : Value) (hs : List Value) (d e f : Value) (k : Wk) (h : WkA All w a b c hs d e f k) : Ex 42 [wkV a b c d e f k] w (.int .i64 (fault9 k)) := by
  have i1 := h.yard.fields.v1
  have i2 := h.yard.vats.arr.v1
  have i3 := h.yard.smps.v1
  have i4 := h.beat.vats.v1
  have i5 := h.beat.smps.v1
  have i6 := h.ends.v1
  have ha := h.beat.vats
  have hl := h.yard.vats.len
  refine Rt_of Tryz.func42 rfl Tryz.ntmps42 rfl ?_
  repeat' (first | apply s_ | ((first | apply JO_ob | apply GD_ex | apply GL_ex); exact rfl; first | exact ob1 | exact Ob_call rfl (fun w hw => c95 w a b c hs k.yard (hw.yd (.head _) h.yard))) | ((first | apply b_ | apply a_ | apply i_); exact z_; intro _) | ((first | apply p_ | apply JO_yes | apply GC_t); exact z_) | (apply n_; exact z_) | (apply GC_f; exact z_) | (apply GX_block_on; exact z_) | refine GC_drawA (id := 11) [0, 1, 2, 3, 4, 5, 6, 7, 8, 9, 10, 11, 12, 13, 14] [] (by kernel_rfl) ?_ | refine GC_drawA (id := 15) [0, 1, 2, 3, 4, 5, 6, 7] [] (by kernel_rfl) ?_ | ((first | apply GD_at | apply GL_at | apply GD_no | apply GL_no); exact rfl) | apply DFin_0 | (apply q1_; exact z_) | (apply q0_; exact z_) | (apply q2_; exact z_) | (apply c_; exact z_; all_goals intro _) | (apply g_; exact z_; all_goals intro _))
  · rename_i q x1
    refine GX_ex rfl rfl mem_ ?_
    rw [fault9, if_pos x1]
  rename_i q x1
  have y1 : fault1 k.yard = 0 := by omega
  obtain ⟨oy, om⟩ := okY_of y1
  refine JO_call (S := fun w0 r w' => ∃ hs', Nest (New w0) w' r hs' (truths1 k.yard)) rfl rfl (fun w5 hw5 => c96 w5 a b c hs k.yard (hw5.yd mem_ h.yard) oy) ?_
  rintro r1 u0 u1 hu0 hu1 hk01 ⟨hs1, hN1⟩
  have n1 := hN1.arr
  have n2 := hN1.len
  have n3 := n1.v1
  repeat' (first | apply s_ | ((first | apply JO_ob | apply GD_ex | apply GL_ex); exact rfl; first | exact ob1 | exact Ob_call rfl (fun w hw => c97 w d e k.beat (hw.bt mem_ h.beat))) | ((first | apply b_ | apply a_ | apply i_); exact z_; intro _) | ((first | apply p_ | apply JO_yes | apply GC_t); exact z_) | (apply n_; exact z_) | (apply GC_f; exact z_) | (apply GX_block_on; exact z_) | refine GC_drawA (id := 11) [0, 1, 2, 3, 4, 5, 6, 7, 8, 9, 10, 11, 12, 13, 14] [] (by kernel_rfl) ?_ | refine GC_drawA (id := 15) [0, 1, 2, 3, 4, 5, 6, 7] [] (by kernel_rfl) ?_ | ((first | apply GD_at | apply GL_at | apply GD_no | apply GL_no); exact rfl) | apply DFin_0 | (apply q1_; exact z_) | (apply q0_; exact z_) | (apply q2_; exact z_) | (apply c_; exact z_; all_goals intro _) | (apply g_; exact z_; all_goals intro _))
  · refine GX_ex rfl rfl mem_ ?_
    rw [fault9, if_neg (by omega), if_pos (by omega)]
  · refine GX_ex rfl rfl mem_ ?_
    rename_i x2 x3
    rw [fault9, if_neg (by omega), if_neg (by omega), if_pos x3]
  rename_i x2 x3
  have y3 : fault3 k.beat = 0 := by omega
  obtain ⟨ob, obm⟩ := okB_of y3
  refine JO_call (S := fun w0 r w' => ∃ es, CNest (New w0) w' r es (truths3 k.beat)) rfl rfl (fun w5 hw5 => c98 w5 d e k.beat (hw5.bt mem_ h.beat) ob) ?_
  rintro r2 u2 u3 hu2 hu3 hk23 ⟨es, hN2⟩
  have m1 := hN2.arr
  have m2 := hN2.len
  have m3 := m1.v1
  repeat' (first | apply s_ | ((first | apply JO_ob | apply GD_ex | apply GL_ex); exact rfl; first | exact ob1 | exact Ob_call rfl (fun w hw => c26 w a b c _ _ d _ e f _ _ _ _ (hw.arr mem_ h.yard.vats.arr)) | exact Ob_call rfl (fun w hw => c57 w d e f k.beat k.ends (hw.bt mem_ h.beat) (hw.arr mem_ h.ends))) | ((first | apply b_ | apply a_ | apply i_); exact z_; intro _) | ((first | apply p_ | apply JO_yes | apply GC_t); exact z_) | (apply n_; exact z_) | (apply GC_f; exact z_) | (apply GX_block_on; exact z_) | refine GC_drawA (id := 11) [0, 1, 2, 3, 4, 5, 6, 7, 8, 9, 10, 11, 12, 13, 14] [] (by kernel_rfl) ?_ | refine GC_drawA (id := 15) [0, 1, 2, 3, 4, 5, 6, 7] [] (by kernel_rfl) ?_ | ((first | apply GD_at | apply GL_at | apply GD_no | apply GL_no); exact rfl) | apply DFin_0 | (apply q1_; exact z_) | (apply q0_; exact z_) | (apply q2_; exact z_) | (apply c_; exact z_; all_goals intro _) | (apply g_; exact z_; all_goals intro _))
  · refine GX_ex rfl rfl mem_ ?_
    rw [fault9, if_neg (by omega), if_neg (by omega), if_neg (by omega), if_pos (by omega)]
  · refine GX_ex rfl rfl mem_ ?_
    rw [fault9, if_neg (by omega), if_neg (by omega), if_neg (by omega), if_neg (by omega), if_pos (by omega)]
  rename_i x4 x5
  have hrest : fault9 k = if areEnd k.beat k.ends = false then 1 else if isNum k = false then 1 else if 6000 < many1 k.yard.fields * many3 k.beat then 3 else 0 := by
    rw [fault9, if_neg (by omega), if_neg (by omega), if_neg (by omega), if_neg (by omega), if_neg (by omega)]
  have bad : isNum k = false → areEnd k.beat k.ends = true → fault9 k = 1 := fun g1 g2 => by rw [hrest, g1, g2]; rfl
  cases hE : areEnd k.beat k.ends
  · repeat' (first | apply s_ | ((first | apply JO_ob | apply GD_ex | apply GL_ex); exact rfl; first | exact ob1) | ((first | apply b_ | apply a_ | apply i_); exact z_; intro _) | ((first | apply p_ | apply JO_yes | apply GC_t); exact z_) | (apply n_; exact z_) | (apply GC_f; exact z_) | (apply GX_block_on; exact z_) | refine GC_drawA (id := 11) [0, 1, 2, 3, 4, 5, 6, 7, 8, 9, 10, 11, 12, 13, 14] [] (by kernel_rfl) ?_ | refine GC_drawA (id := 15) [0, 1, 2, 3, 4, 5, 6, 7] [] (by kernel_rfl) ?_ | ((first | apply GD_at | apply GL_at | apply GD_no | apply GL_no); exact rfl) | apply DFin_0 | (apply q1_; exact z_) | (apply q0_; exact z_) | (apply q2_; exact z_) | (apply c_; exact z_; all_goals intro _) | (apply g_; exact z_; all_goals intro _))
    refine GX_ex rfl rfl mem_ ?_
    rw [hrest, if_pos hE]
  repeat' (first | apply s_ | ((first | apply JO_ob | apply GD_ex | apply GL_ex); exact rfl; first | exact ob1 | exact Ob_call rfl (fun w hw => c47 _ _ _ w)) | ((first | apply b_ | apply a_ | apply i_); exact z_; intro _) | ((first | apply p_ | apply JO_yes | apply GC_t); exact z_) | (apply n_; exact z_) | (apply GC_f; exact z_) | (apply GX_block_on; exact z_) | refine GC_drawA (id := 11) [0, 1, 2, 3, 4, 5, 6, 7, 8, 9, 10, 11, 12, 13, 14] [] (by kernel_rfl) ?_ | refine GC_drawA (id := 15) [0, 1, 2, 3, 4, 5, 6, 7] [] (by kernel_rfl) ?_ | ((first | apply GD_at | apply GL_at | apply GD_no | apply GL_no); exact rfl) | apply DFin_0 | (apply q1_; exact z_) | (apply q0_; exact z_) | (apply q2_; exact z_) | (apply c_; exact z_; all_goals intro _) | (apply g_; exact z_; all_goals intro _))
  cases g0 : decide (1 ≤ k.boxes ∧ k.boxes ≤ 3)
  · repeat' (first | apply s_ | ((first | apply JO_ob | apply GD_ex | apply GL_ex); exact rfl; first | exact ob1) | ((first | apply b_ | apply a_ | apply i_); exact z_; intro _) | ((first | apply p_ | apply JO_yes | apply GC_t); exact z_) | (apply n_; exact z_) | (apply GC_f; exact z_) | (apply GX_block_on; exact z_) | refine GC_drawA (id := 11) [0, 1, 2, 3, 4, 5, 6, 7, 8, 9, 10, 11, 12, 13, 14] [] (by kernel_rfl) ?_ | refine GC_drawA (id := 15) [0, 1, 2, 3, 4, 5, 6, 7] [] (by kernel_rfl) ?_ | ((first | apply GD_at | apply GL_at | apply GD_no | apply GL_no); exact rfl) | apply DFin_0 | (apply q1_; exact z_) | (apply q0_; exact z_) | (apply q2_; exact z_) | (apply c_; exact z_; all_goals intro _) | (apply g_; exact z_; all_goals intro _))
    refine GX_ex rfl rfl mem_ ?_
    rw [bad (by simp only [isNum, g0, Bool.false_and, Bool.and_false]) hE]
  repeat' (first | apply s_ | ((first | apply JO_ob | apply GD_ex | apply GL_ex); exact rfl; first | exact ob1 | exact Ob_call rfl (fun w hw => c47 _ _ _ w)) | ((first | apply b_ | apply a_ | apply i_); exact z_; intro _) | ((first | apply p_ | apply JO_yes | apply GC_t); exact z_) | (apply n_; exact z_) | (apply GC_f; exact z_) | (apply GX_block_on; exact z_) | refine GC_drawA (id := 11) [0, 1, 2, 3, 4, 5, 6, 7, 8, 9, 10, 11, 12, 13, 14] [] (by kernel_rfl) ?_ | refine GC_drawA (id := 15) [0, 1, 2, 3, 4, 5, 6, 7] [] (by kernel_rfl) ?_ | ((first | apply GD_at | apply GL_at | apply GD_no | apply GL_no); exact rfl) | apply DFin_0 | (apply q1_; exact z_) | (apply q0_; exact z_) | (apply q2_; exact z_) | (apply c_; exact z_; all_goals intro _) | (apply g_; exact z_; all_goals intro _))
  cases g1 : decide (1 ≤ k.force ∧ k.force ≤ 9)
  · repeat' (first | apply s_ | ((first | apply JO_ob | apply GD_ex | apply GL_ex); exact rfl; first | exact ob1) | ((first | apply b_ | apply a_ | apply i_); exact z_; intro _) | ((first | apply p_ | apply JO_yes | apply GC_t); exact z_) | (apply n_; exact z_) | (apply GC_f; exact z_) | (apply GX_block_on; exact z_) | refine GC_drawA (id := 11) [0, 1, 2, 3, 4, 5, 6, 7, 8, 9, 10, 11, 12, 13, 14] [] (by kernel_rfl) ?_ | refine GC_drawA (id := 15) [0, 1, 2, 3, 4, 5, 6, 7] [] (by kernel_rfl) ?_ | ((first | apply GD_at | apply GL_at | apply GD_no | apply GL_no); exact rfl) | apply DFin_0 | (apply q1_; exact z_) | (apply q0_; exact z_) | (apply q2_; exact z_) | (apply c_; exact z_; all_goals intro _) | (apply g_; exact z_; all_goals intro _))
    refine GX_ex rfl rfl mem_ ?_
    rw [bad (by simp only [isNum, g1, Bool.false_and, Bool.and_false]) hE]
  repeat' (first | apply s_ | ((first | apply JO_ob | apply GD_ex | apply GL_ex); exact rfl; first | exact ob1 | exact Ob_call rfl (fun w hw => c47 _ _ _ w)) | ((first | apply b_ | apply a_ | apply i_); exact z_; intro _) | ((first | apply p_ | apply JO_yes | apply GC_t); exact z_) | (apply n_; exact z_) | (apply GC_f; exact z_) | (apply GX_block_on; exact z_) | refine GC_drawA (id := 11) [0, 1, 2, 3, 4, 5, 6, 7, 8, 9, 10, 11, 12, 13, 14] [] (by kernel_rfl) ?_ | refine GC_drawA (id := 15) [0, 1, 2, 3, 4, 5, 6, 7] [] (by kernel_rfl) ?_ | ((first | apply GD_at | apply GL_at | apply GD_no | apply GL_no); exact rfl) | apply DFin_0 | (apply q1_; exact z_) | (apply q0_; exact z_) | (apply q2_; exact z_) | (apply c_; exact z_; all_goals intro _) | (apply g_; exact z_; all_goals intro _))
  cases g2 : decide (0 ≤ k.last ∧ k.last ≤ 99)
  · repeat' (first | apply s_ | ((first | apply JO_ob | apply GD_ex | apply GL_ex); exact rfl; first | exact ob1) | ((first | apply b_ | apply a_ | apply i_); exact z_; intro _) | ((first | apply p_ | apply JO_yes | apply GC_t); exact z_) | (apply n_; exact z_) | (apply GC_f; exact z_) | (apply GX_block_on; exact z_) | refine GC_drawA (id := 11) [0, 1, 2, 3, 4, 5, 6, 7, 8, 9, 10, 11, 12, 13, 14] [] (by kernel_rfl) ?_ | refine GC_drawA (id := 15) [0, 1, 2, 3, 4, 5, 6, 7] [] (by kernel_rfl) ?_ | ((first | apply GD_at | apply GL_at | apply GD_no | apply GL_no); exact rfl) | apply DFin_0 | (apply q1_; exact z_) | (apply q0_; exact z_) | (apply q2_; exact z_) | (apply c_; exact z_; all_goals intro _) | (apply g_; exact z_; all_goals intro _))
    refine GX_ex rfl rfl mem_ ?_
    rw [bad (by simp only [isNum, g2, Bool.false_and, Bool.and_false]) hE]
  repeat' (first | apply s_ | ((first | apply JO_ob | apply GD_ex | apply GL_ex); exact rfl; first | exact ob1 | exact Ob_call rfl (fun w hw => c47 _ _ _ w)) | ((first | apply b_ | apply a_ | apply i_); exact z_; intro _) | ((first | apply p_ | apply JO_yes | apply GC_t); exact z_) | (apply n_; exact z_) | (apply GC_f; exact z_) | (apply GX_block_on; exact z_) | refine GC_drawA (id := 11) [0, 1, 2, 3, 4, 5, 6, 7, 8, 9, 10, 11, 12, 13, 14] [] (by kernel_rfl) ?_ | refine GC_drawA (id := 15) [0, 1, 2, 3, 4, 5, 6, 7] [] (by kernel_rfl) ?_ | ((first | apply GD_at | apply GL_at | apply GD_no | apply GL_no); exact rfl) | apply DFin_0 | (apply q1_; exact z_) | (apply q0_; exact z_) | (apply q2_; exact z_) | (apply c_; exact z_; all_goals intro _) | (apply g_; exact z_; all_goals intro _))
  cases g3 : decide (1 ≤ k.cake ∧ k.cake ≤ 50)
  · repeat' (first | apply s_ | ((first | apply JO_ob | apply GD_ex | apply GL_ex); exact rfl; first | exact ob1) | ((first | apply b_ | apply a_ | apply i_); exact z_; intro _) | ((first | apply p_ | apply JO_yes | apply GC_t); exact z_) | (apply n_; exact z_) | (apply GC_f; exact z_) | (apply GX_block_on; exact z_) | refine GC_drawA (id := 11) [0, 1, 2, 3, 4, 5, 6, 7, 8, 9, 10, 11, 12, 13, 14] [] (by kernel_rfl) ?_ | refine GC_drawA (id := 15) [0, 1, 2, 3, 4, 5, 6, 7] [] (by kernel_rfl) ?_ | ((first | apply GD_at | apply GL_at | apply GD_no | apply GL_no); exact rfl) | apply DFin_0 | (apply q1_; exact z_) | (apply q0_; exact z_) | (apply q2_; exact z_) | (apply c_; exact z_; all_goals intro _) | (apply g_; exact z_; all_goals intro _))
    refine GX_ex rfl rfl mem_ ?_
    rw [bad (by simp only [isNum, g3, Bool.false_and, Bool.and_false]) hE]
  have hnum : isNum k = true := by simp only [isNum, g0, g1, g2, g3, Bool.and_true]
  have z1 := manyN_bd oy.f k.yard.fields.length (Nat.le_refl _)
  have z2 : manyN k.yard.fields k.yard.fields.length = many1 k.yard.fields := rfl
  rw [z2] at z1
  have z3 := manyK_bd ob.sun ob.n k.beat.vats.length (Nat.le_refl _)
  have z4 : manyK k.beat k.beat.vats.length = many3 k.beat := rfl
  rw [z4] at z3
  have z5 := mul_bd (a := many1 k.yard.fields) (b := many3 k.beat) (m := 2000) (n := 200) (by omega) (by omega) (by omega) (by omega)
  have v3 := ob.v3
  have f5 := oy.f5
  repeat' (first | apply s_ | ((first | apply JO_ob | apply GD_ex | apply GL_ex); exact rfl; first | exact ob1 | exact Ob_call rfl (fun w hw => c99 w a b c hs k.yard (hw.yd mem_ h.yard) oy.f (by omega)) | exact Ob_call rfl (fun w hw => c100 w d e k.beat (hw.bt mem_ h.beat) ob.sun ob.n v3) | exact Ob_mul rfl rfl (by omega)) | ((first | apply b_ | apply a_ | apply i_); exact z_; intro _) | ((first | apply p_ | apply JO_yes | apply GC_t); exact z_) | (apply n_; exact z_) | (apply GC_f; exact z_) | (apply GX_block_on; exact z_) | refine GC_drawA (id := 11) [0, 1, 2, 3, 4, 5, 6, 7, 8, 9, 10, 11, 12, 13, 14] [] (by kernel_rfl) ?_ | refine GC_drawA (id := 15) [0, 1, 2, 3, 4, 5, 6, 7] [] (by kernel_rfl) ?_ | ((first | apply GD_at | apply GL_at | apply GD_no | apply GL_no); exact rfl) | apply DFin_0 | (apply q1_; exact z_) | (apply q0_; exact z_) | (apply q2_; exact z_) | (apply c_; exact z_; all_goals intro _) | (apply g_; exact z_; all_goals intro _))
  · rename_i hm
    refine GX_ex rfl rfl mem_ ?_
    rw [hrest, if_neg (by simp [hE]), if_neg (by simp [hnum]), if_pos hm]
  · rename_i hm
    refine GX_ex rfl rfl mem_ ?_
    rw [hrest, if_neg (by simp [hE]), if_neg (by simp [hnum]), if_neg hm]
end Go.Proofs.YtkbaaikidhbfmaaGreat
/- Contracts: plans of the reference 9. No statement is proved here. -/
set_option linter.unusedVariables false
namespace Go.Proofs.YtkbaaikidhbfmaaGreat
open Go.RowKit
def isPlan (k : Wk) (l : List Int) : Bool := l.all (fun x => decide (0 ≤ x ∧ x ≤ k.boxes - 1)) && decide (l.length = k.yard.vats.length)
theorem c36 (w : World) (a b c : Value) (hs : List Value) (d e f v : Value) (k : Wk) (l : List Int) (h : WkA All w a b c hs d e f k) (hv : Arr All w 1 encI v l) (hb : 1 ≤ k.boxes ∧ k.boxes ≤ 3) : Ex 36 [wkV a b c d e f k, v] w (.bool (isPlan k l)) := by
  have i1 := h.yard.fields.v1
  have i2 := h.yard.vats.arr.v1
  have i3 := h.yard.smps.v1
  have i4 := h.beat.vats.v1
  have i5 := h.beat.smps.v1
  have i6 := h.ends.v1
  have i7 := hv.v1
  have hl := h.yard.vats.len
  have b1 := hv.bound
  refine Rt_of Tryz.func36 rfl Tryz.ntmps36 rfl ?_
  repeat' (first | apply s_ | ((first | apply JO_ob | apply GD_ex | apply GL_ex); exact rfl; first | exact ob1) | ((first | apply b_ | apply a_ | apply i_); exact z_; intro _) | ((first | apply p_ | apply JO_yes | apply GC_t); exact z_) | (apply n_; exact z_) | (apply GC_f; exact z_) | (apply GX_block_on; exact z_) | refine GC_drawA (id := 4) [0, 1, 2, 3, 4, 5, 6, 7, 8] [] (by kernel_rfl) ?_ | ((first | apply GD_at | apply GL_at | apply GD_no | apply GL_no); exact rfl) | apply DFin_0 | (apply q1_; exact z_) | (apply q0_; exact z_) | (apply q2_; exact z_) | (apply c_; exact z_; all_goals intro _) | (apply g_; exact z_; all_goals intro _))
  rename_i p
  refine GC_loop0 (fun q => l.length - q) (fun q => [(2, .pointer (some ⟨p, 0, none⟩)), (1, v), (5, .int .i64 (q : Int))]) (fun q => q ≤ l.length ∧ ∀ j, j < q → decide (0 ≤ nth l j ∧ nth l j ≤ k.boxes - 1) = true) 0 ⟨rfl, rfl, rfl, trivial⟩ ⟨by omega, fun j hj => absurd hj (Nat.not_lt_zero j)⟩ ?_
  rintro q ⟨hk, hno⟩
  by_cases hlt : q < l.length
  · repeat' (first | apply s_ | ((first | apply JO_ob | apply GD_ex | apply GL_ex); exact rfl; first | exact ob1 | exact Ob_call rfl (fun w hw => c47 _ _ _ w)) | ((first | apply b_ | apply a_ | apply i_); exact z_; intro _) | ((first | apply p_ | apply JO_yes | apply GC_t); exact z_) | (apply n_; exact z_) | (apply GC_f; exact z_) | (apply GX_block_on; exact z_) | refine GC_drawA (id := 4) [0, 1, 2, 3, 4, 5, 6, 7, 8] [] (by kernel_rfl) ?_ | ((first | apply GD_at | apply GL_at | apply GD_no | apply GL_no); exact rfl) | apply DFin_0 | (apply q1_; exact z_) | (apply q0_; exact z_) | (apply q2_; exact z_) | (apply c_; exact z_; all_goals intro _) | (apply g_; exact z_; all_goals intro _))
    cases hf : decide (0 ≤ nth l q ∧ nth l q ≤ k.boxes - 1)
    · repeat' (first | apply s_ | ((first | apply JO_ob | apply GD_ex | apply GL_ex); exact rfl; first | exact ob1) | ((first | apply b_ | apply a_ | apply i_); exact z_; intro _) | ((first | apply p_ | apply JO_yes | apply GC_t); exact z_) | (apply n_; exact z_) | (apply GC_f; exact z_) | (apply GX_block_on; exact z_) | refine GC_drawA (id := 4) [0, 1, 2, 3, 4, 5, 6, 7, 8] [] (by kernel_rfl) ?_ | ((first | apply GD_at | apply GL_at | apply GD_no | apply GL_no); exact rfl) | apply DFin_0 | (apply q1_; exact z_) | (apply q0_; exact z_) | (apply q2_; exact z_) | (apply c_; exact z_; all_goals intro _) | (apply g_; exact z_; all_goals intro _))
      refine GX_ex rfl rfl mem_ ?_
      simp only [isPlan]
      rw [all_not hlt hf, Bool.false_and]
    · repeat' (first | apply s_ | ((first | apply JO_ob | apply GD_ex | apply GL_ex); exact rfl; first | exact ob1) | ((first | apply b_ | apply a_ | apply i_); exact z_; intro _) | ((first | apply p_ | apply JO_yes | apply GC_t); exact z_) | (apply n_; exact z_) | (apply GC_f; exact z_) | (apply GX_block_on; exact z_) | refine GC_drawA (id := 4) [0, 1, 2, 3, 4, 5, 6, 7, 8] [] (by kernel_rfl) ?_ | ((first | apply GD_at | apply GL_at | apply GD_no | apply GL_no); exact rfl) | apply DFin_0 | (apply q1_; exact z_) | (apply q0_; exact z_) | (apply q2_; exact z_) | (apply c_; exact z_; all_goals intro _) | (apply g_; exact z_; all_goals intro _))
      refine GX_loop0 (q + 1) ⟨rfl, rfl, rfl, trivial⟩ (by omega) ⟨by omega, fun j hj => ?_⟩
      rcases Nat.lt_or_ge j q with h | h
      · exact hno j h
      · rw [show j = q by omega]; exact hf
  · have hA : (l.all fun x => decide (0 ≤ x ∧ x ≤ k.boxes - 1)) = true := all_nth.2 fun j hj => hno j (by omega)
    repeat' (first | apply s_ | ((first | apply JO_ob | apply GD_ex | apply GL_ex); exact rfl; first | exact ob1 | exact Ob_call rfl (fun w hw => c26 w a b c _ _ d _ e f _ _ _ _ (hw.arr mem_ h.yard.vats.arr))) | ((first | apply b_ | apply a_ | apply i_); exact z_; intro _) | ((first | apply p_ | apply JO_yes | apply GC_t); exact z_) | (apply n_; exact z_) | (apply GC_f; exact z_) | (apply GX_block_on; exact z_) | refine GC_drawA (id := 4) [0, 1, 2, 3, 4, 5, 6, 7, 8] [] (by kernel_rfl) ?_ | ((first | apply GD_at | apply GL_at | apply GD_no | apply GL_no); exact rfl) | apply DFin_0 | (apply q1_; exact z_) | (apply q0_; exact z_) | (apply q2_; exact z_) | (apply c_; exact z_; all_goals intro _) | (apply g_; exact z_; all_goals intro _))
    all_goals
      refine GX_ex rfl rfl mem_ ?_
      simp only [isPlan, hA, Bool.true_and]
      first
      | exact dT (by omega)
      | exact dF (by omega)
end Go.Proofs.YtkbaaikidhbfmaaGreat
/- Contracts: the error as the laws ask it. No statement is proved here. -/
set_option linter.unusedVariables false
namespace Go.Proofs.YtkbaaikidhbfmaaGreat
open Go.RowKit
theorem fault1_bd (y : Yd) : 0 ≤ fault1 y ∧ fault1 y ≤ 11 := by
  unfold fault1; split
  · omega
  split
  · omega
  split <;> omega
theorem fault3_bd (y : Bt) : 0 ≤ fault3 y ∧ fault3 y ≤ 11 := by
  unfold fault3; split
  · omega
  split
  · omega
  split <;> omega
theorem fault9_bd (k : Wk) : 0 ≤ fault9 k ∧ fault9 k ≤ 11 := by
  have h1 := fault1_bd k.yard
  have h3 := fault3_bd k.beat
  unfold fault9; split
  · omega
  split
  · omega
  split
  · omega
  split
  · omega
  split
  · omega
  split
  · omega
  split
  · omega
  split <;> omega
theorem c72 (w : World) (a b c : Value) (hs : List Value) (d e f : Value) (k : Wk) (h : WkA All w a b c hs d e f k) : Ex 72 [wkV a b c d e f k] w (.int .i64 (fault9 k)) := by
  have i1 := h.yard.fields.v1
  have i2 := h.yard.vats.arr.v1
  have i3 := h.yard.smps.v1
  have i4 := h.beat.vats.v1
  have i5 := h.beat.smps.v1
  have i6 := h.ends.v1
  have hf := fault9_bd k
  refine Rt_of Tryz.func72 rfl Tryz.ntmps72 rfl ?_
  repeat' (first | apply s_ | (apply JO_ob; exact rfl; first | exact ob1 | exact Ob_call rfl (fun w hw => c42 w a b c hs d e f k (hw.wk (.head _) h)) | exact Ob_convert rfl (wrapI (by omega) (by omega))) | ((first | apply b_ | apply a_ | apply i_); exact z_; intro _) | ((first | apply p_ | apply JO_yes | apply GC_t); exact z_) | (apply n_; exact z_) | (apply GC_f; exact z_) | (apply GX_block_on; exact z_) | (apply c_; exact z_; all_goals intro _))
  (first | exact GX_ex rfl rfl mem_ rfl | exact GX_exc rfl rfl mem_ rfl mem_ rfl)
end Go.Proofs.YtkbaaikidhbfmaaGreat
/- Contracts: works that a law can use. No statement is proved here. -/
set_option linter.unusedVariables false
namespace Go.Proofs.YtkbaaikidhbfmaaGreat
open Go.RowKit
def readyW (k : Wk) : Bool := thinW k && decide (fault9 k = 0)
theorem c48 (w : World) (a b c : Value) (hs : List Value) (d e f : Value) (k : Wk) (h : WkA All w a b c hs d e f k) : Ex 48 [wkV a b c d e f k] w (.bool (readyW k)) := by
  have i1 := h.yard.fields.v1
  have i2 := h.yard.vats.arr.v1
  have i3 := h.yard.smps.v1
  have i4 := h.beat.vats.v1
  have i5 := h.beat.smps.v1
  have i6 := h.ends.v1
  have ht := c20 w a b c hs d e f k h
  refine Rt_of Tryz.func48 rfl Tryz.ntmps48 rfl ?_
  repeat' (first | apply s_ | (apply JO_ob; exact rfl; first | exact ob1 | exact Ob_call rfl (fun w hw => c20 w a b c hs d e f k (hw.wk (.head _) h))) | ((first | apply b_ | apply a_ | apply i_); exact z_; intro _) | ((first | apply p_ | apply JO_yes | apply GC_t); exact z_) | (apply n_; exact z_) | (apply GC_f; exact z_) | (apply GX_block_on; exact z_))
  cases hT : thinW k
  · repeat' (first | apply s_ | (apply JO_ob; exact rfl; first | exact ob1) | ((first | apply b_ | apply a_ | apply i_); exact z_; intro _) | ((first | apply p_ | apply JO_yes | apply GC_t); exact z_) | (apply n_; exact z_) | (apply GC_f; exact z_) | (apply GX_block_on; exact z_) | (apply c_; exact z_; all_goals intro _))
    refine GX_ex rfl rfl mem_ ?_
    simp only [readyW, hT, Bool.false_and]
  · repeat' (first | apply s_ | (apply JO_ob; exact rfl; first | exact ob1 | exact Ob_call rfl (fun w hw => c72 w a b c hs d e f k (hw.wk (.head _) h))) | ((first | apply b_ | apply a_ | apply i_); exact z_; intro _) | ((first | apply p_ | apply JO_yes | apply GC_t); exact z_) | (apply n_; exact z_) | (apply GC_f; exact z_) | (apply GX_block_on; exact z_) | (apply c_; exact z_; all_goals intro _))
    all_goals
      refine GX_ex rfl rfl mem_ ?_
      simp only [readyW, hT, Bool.true_and]
      first
      | exact dT (by omega)
      | exact dF (by omega)
end Go.Proofs.YtkbaaikidhbfmaaGreat
