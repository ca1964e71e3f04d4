/- The walks of the functions that the laws of the chapter 09 reach, and what they compute, part 1. No statement is proved here; no condition. -/
import Derived.Test.YtkbaaikidhbfmaaGreatProg
import Derived.WalkKit
import Derived.KernelRfl
import Derived.RangeFuncNested
import Derived.RangeFuncLeaves
import Derived.OrdersIn
import Derived.Laws.AppendOwn
import Derived.Laws.MakeOwn
/- The engine: judgements over the walk's own rules, with a frame that is a list of what is known of its slots. No statement is proved here. -/
set_option linter.unusedVariables false
namespace Go.Proofs.YtkbaaikidhbfmaaGreat
open Go.RowKit

noncomputable abbrev P : Program := Tryz.prog

/-- The wide fence, in a round or in none. -/
def FW (ρ : Option Nat) : Fence := { Fence.wide with round := ρ }
theorem FW_room (ρ : Option Nat) (n : Nat) : (FW ρ).room n := fun _ h => by simp [FW, Fence.wide] at h
theorem FW_fn (ρ : Option Nat) (f : FuncId) : (FW ρ).fn f := trivial
theorem FW_depth (ρ : Option Nat) : (FW ρ).depth.isSome = true → 1 ≤ 0 := fun h => by simp [FW, Fence.wide] at h

abbrev Slots := List (Nat × Value)
def look : Slots → Nat → Option Value
  | [], _ => none
  | (d, v) :: r, t => cond (Nat.beq t d) (some v) (look r t)
def ev (fr : Slots) : Operand → Option Value
  | .tmp t => look fr t
  | .const v => some v
  | .global g => some (.pointer (some ⟨g, 0, none⟩))
  | .func f => some (.func (.func f) #[] #[])
def evs (fr : Slots) : List Operand → Option (List Value)
  | [] => some []
  | x :: xs => match ev fr x with
    | some v => match evs fr xs with
      | some vs => some (v :: vs)
      | none => none
    | none => none
/-- The array of the slots holds what the list says. -/
structure Rep (n : Nat) (fr : Slots) (A : Array Value) : Prop where
  size : A.size = n
  at_ : ∀ t v, look fr t = some v → A.getD t undef = v
def Sub : Slots → Slots → Prop
  | [], _ => True
  | (t, v) :: r, fr => look fr t = some v ∧ Sub r fr

theorem look_cons (d : Nat) (v : Value) (r : Slots) (t : Nat) : look ((d, v) :: r) t = if t = d then some v else look r t := by
  simp only [look]
  by_cases h : t = d
  · subst h; simp
  · have : Nat.beq t d = false := by
      cases hb : Nat.beq t d with
      | false => rfl
      | true => exact absurd (Nat.eq_of_beq_eq_true hb) h
    simp [this, h]
theorem Sub.look {a b : Slots} (h : Sub a b) : ∀ t v, look a t = some v → look b t = some v := by
  induction a with
  | nil => intro t v hh; simp [Go.Proofs.YtkbaaikidhbfmaaGreat.look] at hh
  | cons p r ih =>
    obtain ⟨d, u⟩ := p
    intro t v hh
    rw [look_cons] at hh
    split at hh
    · rename_i e; cases hh; subst e; exact h.1
    · exact ih h.2 t v hh
theorem Rep.sub {n : Nat} {a b : Slots} {A : Array Value} (h : Rep n b A) (hs : Sub a b) : Rep n a A :=
  ⟨h.size, fun t v hv => h.at_ t v (hs.look t v hv)⟩
theorem Rep.put {n d : Nat} {fr : Slots} {A : Array Value} (v : Value) (h : Rep n fr A) (hd : Nat.blt d n = true) : Rep n ((d, v) :: fr) (A.setIfInBounds d v) := by
  have hd' : d < A.size := by rw [h.size]; simpa using hd
  refine ⟨by simp [h.size], fun t u hu => ?_⟩
  rw [look_cons] at hu
  split at hu
  · rename_i e; cases hu; subst e
    simp [Array.getD, hd']
  · rename_i e
    have := h.at_ t u hu
    simp only [Array.getD_eq_getD_getElem?] at this ⊢
    rw [Array.getElem?_setIfInBounds_ne (fun h => e h.symm)]
    exact this
theorem Rep.ev {n : Nat} {fr : Slots} {A : Array Value} {D : List Deferred} (h : Rep n fr A) {x : Operand} {v : Value} (hx : ev fr x = some v) : ({ tmps := A, defers := D } : Act).eval x = v := by
  cases x with
  | tmp t => exact h.at_ t v hx
  | const u => simpa [Go.Proofs.YtkbaaikidhbfmaaGreat.ev, Act.eval] using hx
  | global g => simpa [Go.Proofs.YtkbaaikidhbfmaaGreat.ev, Act.eval] using hx
  | func f => simpa [Go.Proofs.YtkbaaikidhbfmaaGreat.ev, Act.eval] using hx
theorem Rep.evs {n : Nat} {fr : Slots} {A : Array Value} {D : List Deferred} (h : Rep n fr A) : ∀ {xs : List Operand} {vs : List Value}, evs fr xs = some vs → xs.map ({ tmps := A, defers := D } : Act).eval = vs
  | [], vs, e => by simp [Go.Proofs.YtkbaaikidhbfmaaGreat.evs] at e; simp [e]
  | x :: xs, vs, e => by
    simp only [Go.Proofs.YtkbaaikidhbfmaaGreat.evs] at e
    split at e
    · rename_i v hv
      split at e
      · rename_i us hus
        cases e
        simp [h.ev (D := D) hv, h.evs (D := D) hus]
      · cases e
    · cases e

/-! ### The judgements -/
abbrev Post := Exit → Act → World → Prop
def QX (n : Nat) (D : List Deferred) (Q : Post) (e : Exit) (fr : Slots) (w : World) : Prop := ∀ A, Rep n fr A → Q e ⟨A, D⟩ w
def C (ρ : Option Nat) (n : Nat) (D : List Deferred) (c : Code) (Q : Post) (fr : Slots) (w : World) : Prop := ∀ A, Rep n fr A → c.wpIn (FW ρ) 0 P Q ⟨A, D⟩ w

section code
variable {ρ : Option Nat} {n : Nat} {D : List Deferred} {Q : Post} {fr : Slots} {w : World}
theorem C_seq {x y : Code} (h : C ρ n D x (Exit.then (fun a w => y.wpIn (FW ρ) 0 P Q a w) Q) fr w) : C ρ n D (.seq x y) Q fr w := fun A hA => wpIn_seq (h A hA)
theorem C_skip (h : QX n D Q .normal fr w) : C ρ n D .skip Q fr w := fun A hA => wpIn_skip (h A hA)
theorem C_label {l : Nat} (h : QX n D Q .normal fr w) : C ρ n D (.label l) Q fr w := fun A hA => wpIn_label (h A hA)
theorem C_exit {id : Nat} (h : QX n D Q (.exit id) fr w) : C ρ n D (.exit id) Q fr w := fun A hA => wpIn_exit (h A hA)
theorem C_ret (h : QX n D Q .ret fr w) : C ρ n D .ret Q fr w := fun A hA => wpIn_ret (h A hA)
theorem C_block {id : Nat} {c : Code} (h : C ρ n D c (Exit.inBlock id Q) fr w) : C ρ n D (.block id c) Q fr w := fun A hA => wpIn_block (h A hA)
theorem C_cond_t {c : Operand} {x y : Code} (hc : ev fr c = some (.bool true)) (h : C ρ n D x Q fr w) : C ρ n D (.cond c x y) Q fr w :=
  fun A hA => wpIn_cond_true (hA.ev hc) (h A hA)
theorem C_cond_f {c : Operand} {x y : Code} (hc : ev fr c = some (.bool false)) (h : C ρ n D y Q fr w) : C ρ n D (.cond c x y) Q fr w :=
  fun A hA => wpIn_cond_false (hA.ev hc) (h A hA)
theorem C_cond {c : Operand} {x y : Code} {b : Bool} (hc : ev fr c = some (.bool b)) (h1 : b = true → C ρ n D x Q fr w) (h2 : b = false → C ρ n D y Q fr w) : C ρ n D (.cond c x y) Q fr w :=
  fun A hA => wpIn_cond_split (hA.ev hc) (fun h => h1 h A hA) (fun h => h2 h A hA)
theorem C_sub {c : Code} {fr' : Slots} (hs : Sub fr' fr) (h : C ρ n D c Q fr' w) : C ρ n D c Q fr w := fun A hA => h A (hA.sub hs)
theorem C_loop {c : Code} {α : Type} (m : α → Nat) (F : α → Slots) (I : α → World → Prop) (a0 : α) (hs : Sub (F a0) fr) (h0 : I a0 w)
    (hstep : ∀ a w, I a w → C ρ n D c (Exit.then (fun A w' => ∃ a', m a' < m a ∧ (Rep n (F a') A.tmps ∧ A.defers = D) ∧ I a' w') Q) (F a) w) : C ρ n D (.loop c) Q fr w := by
  intro A hA b k cs hro hb hr
  have key : ∀ j a A w, m a = j → Rep n (F a) A → I a w →
      ∃ e a' w', Q e a' w' ∧ ArrivesIn (Machine.fenced P (FW ρ)) P (lone (b.atR ⟨A, D⟩ (.code c :: .inLoop c :: k)) cs w) b k cs e a' w' := by
    intro j
    induction j using Nat.strongRecOn with
    | _ j ih =>
      intro a A w hn hA hI
      obtain ⟨e, a₁, w₁, hq, harr⟩ := hstep a w hI A hA b (.inLoop c :: k) cs hro hb hr
      cases e with
      | normal =>
        obtain ⟨a', hlt, ⟨hA', hD⟩, hI₁⟩ := hq
        obtain ⟨B, D'⟩ := a₁
        subst hD
        obtain ⟨e₂, a₂, w₂, hq₂, harr₂⟩ := ih (m a') (hn ▸ hlt) a' B w₁ rfl hA' hI₁
        exact ⟨e₂, a₂, w₂, hq₂, .of_steps (StepsIn.trans harr (.one (fenced_calm hb hr rfl) stepR_inLoop)) harr₂⟩
      | exit id => exact ⟨_, a₁, w₁, hq, .pass (x := .inLoop c) rfl (fun _ _ => .inl (by simp)) harr⟩
      | goto l => exact ⟨_, a₁, w₁, hq, .pass (x := .inLoop c) rfl (fun _ _ => .inl (by simp)) harr⟩
      | ret => exact ⟨_, a₁, w₁, hq, .pass (x := .inLoop c) rfl (fun _ _ => .inl (by simp)) harr⟩
      | panic ch => exact ⟨_, a₁, w₁, hq, .pass (x := .inLoop c) rfl (fun _ _ => .inl (by simp)) harr⟩
      | outgrown => exact ⟨_, a₁, w₁, hq, .pass (x := .inLoop c) rfl (fun _ _ => .inl (by simp)) harr⟩
  obtain ⟨e, a', w', hq, harr⟩ := key _ a0 A w rfl (hA.sub hs) h0
  exact ⟨e, a', w', hq, .of_steps (.one (fenced_calm hb hr rfl) stepR_loop) harr⟩

theorem QX_then {y : Code} {Q' : Post} (h : C ρ n D y Q fr w) : QX n D (Exit.then (fun a w => y.wpIn (FW ρ) 0 P Q a w) Q') .normal fr w := h
theorem QX_then_exit {K : Act → World → Prop} {id : Nat} (h : QX n D Q (.exit id) fr w) : QX n D (Exit.then K Q) (.exit id) fr w := h
theorem QX_then_ret {K : Act → World → Prop} (h : QX n D Q .ret fr w) : QX n D (Exit.then K Q) .ret fr w := h
theorem QX_block_normal {id : Nat} (h : QX n D Q .normal fr w) : QX n D (Exit.inBlock id Q) .normal fr w := h
theorem QX_block_ret {id : Nat} (h : QX n D Q .ret fr w) : QX n D (Exit.inBlock id Q) .ret fr w := h
theorem QX_block_here {id : Nat} (h : QX n D Q .normal fr w) : QX n D (Exit.inBlock id Q) (.exit id) fr w := fun A hA => by
  simp only [Exit.inBlock, if_true]; exact h A hA
theorem QX_block_on {id id' : Nat} (hne : Nat.beq id' id = false) (h : QX n D Q (.exit id') fr w) : QX n D (Exit.inBlock id Q) (.exit id') fr w := fun A hA => by
  have : id' ≠ id := fun e => by subst e; rw [Nat.beq_refl] at hne; cases hne
  simp only [Exit.inBlock, if_neg this]; exact h A hA
theorem QX_loop {α : Type} {m : α → Nat} {F : α → Slots} {I : α → World → Prop} {k : Nat} (a' : α) (hs : Sub (F a') fr) (hm : m a' < k) (hI : I a' w) :
    QX n D (Exit.then (fun A w' => ∃ a', m a' < k ∧ (Rep n (F a') A.tmps ∧ A.defers = D) ∧ I a' w') Q) .normal fr w :=
  fun A hA => ⟨a', hm, ⟨hA.sub hs, rfl⟩, hI⟩
end code
end Go.Proofs.YtkbaaikidhbfmaaGreat
/- The engine, second part: one operation; a list of operations in order; the heap as it is known. No statement is proved here. -/
set_option linter.unusedVariables false
set_option linter.unusedSimpArgs false
namespace Go.Proofs.YtkbaaikidhbfmaaGreat
open Go.RowKit

/-- A call that returns a value. -/
def Rt (f : FuncId) (args : List Value) (w : World) (S : Value → World → Prop) : Prop :=
  CallsIn (FW none) 0 P f args.toArray w fun e w' => ∃ v, e = .returned v ∧ S v w'
def Rnd (l : Nat) (f : FuncId) (tmps : Array Value) (asg body : Code) (w : World) (S : Value → World → Prop) : Prop :=
  RoundIn (FW none) 0 P l f tmps asg body w fun e w' => ∃ v, e = .returned v ∧ S v w'
theorem Rt.mono {f : FuncId} {args : List Value} {w : World} {S S' : Value → World → Prop} (h : Rt f args w S) (hs : ∀ v w', S v w' → S' v w') : Rt f args w S' :=
  CallsIn.mono h fun e w' ⟨v, he, hv⟩ => ⟨v, he, hs v w' hv⟩
theorem Rnd.mono {l : Nat} {f : FuncId} {tmps : Array Value} {asg body : Code} {w : World} {S S' : Value → World → Prop} (h : Rnd l f tmps asg body w S) (hs : ∀ v w', S v w' → S' v w') : Rnd l f tmps asg body w S' :=
  RoundIn.mono h fun e w' ⟨v, he, hv⟩ => ⟨v, he, hs v w' hv⟩

def Upon (K : Value → World → Prop) : Result Next → Prop
  | .ok (.value v) w' => K v w'
  | .ok .skip w' => K undef w'
  | .ok (.enter f args) w' => Rt f args.toList w' K
  | .ok (.round l f tmps asg body) w' => Rnd l f tmps asg body w' K
  | _ => False
theorem Upon.mono {K K' : Value → World → Prop} {r : Result Next} (h : Upon K r) (hk : ∀ v w', K v w' → K' v w') : Upon K' r := by
  cases r with
  | ok x w' => cases x <;> first | exact hk _ _ h | exact Rt.mono h hk | exact Rnd.mono h hk | exact h
  | halt x w' => exact h

/-- One operation, whatever the slots hold that are not known. -/
def St (o : Oper) (fr : Slots) (w : World) (K : Value → World → Prop) : Prop :=
  ∀ f : Operand → Value, (∀ x v, ev fr x = some v → f x = v) → Upon K ((execOp f o).run P w)
theorem St.mono {o : Oper} {fr : Slots} {w : World} {K K' : Value → World → Prop} (h : St o fr w K) (hk : ∀ v w', K v w' → K' v w') : St o fr w K' :=
  fun f hf => (h f hf).mono hk
theorem St.val {o : Oper} {fr : Slots} {w w' : World} {K : Value → World → Prop} {v : Value} (h : ∀ f : Operand → Value, (∀ x v, ev fr x = some v → f x = v) → (execOp f o).run P w = .ok (.value v) w') (hk : K v w') : St o fr w K :=
  fun f hf => by rw [h f hf]; exact hk
theorem St.skip {o : Oper} {fr : Slots} {w w' : World} {K : Value → World → Prop} (h : ∀ f : Operand → Value, (∀ x v, ev fr x = some v → f x = v) → (execOp f o).run P w = .ok .skip w') (hk : K undef w') : St o fr w K :=
  fun f hf => by rw [h f hf]; exact hk

def putS (fr : Slots) (d : Option Nat) (v : Value) : Slots := match d with | some d => (d, v) :: fr | none => fr
def dOk (n : Nat) (d : Option Nat) : Bool := match d with | some d => Nat.blt d n | none => true
/-- From one operation to the walk's own rule. -/
theorem wpIn_of_upon {ρ : Option Nat} {o : Oper} {a : Act} {w : World} {next : Act → World → Prop} {Q : Post} (hd : ∀ c, o.op ≠ .defer c)
    (h : Upon (fun v w' => next (a.put o.dst v) w') ((execOp a.eval o).run P w)) : o.wpIn (FW ρ) 0 P a w next Q := by
  refine ⟨fun f _ => trivial, ?_⟩
  rw [Oper.semAt_eq _ _ _ hd]
  generalize (execOp a.eval o).run P w = r at h ⊢
  cases r with
  | ok x w' =>
    cases x with
    | value v => exact h
    | skip => exact h
    | enter f args =>
      have h1 : Rt f args.toList w' (fun v w' => next (a.put o.dst v) w') := h
      unfold Rt at h1
      rw [Array.toArray_toList] at h1
      refine ⟨FW_depth ρ, ?_⟩
      have h2 : CallsIn (FW ρ) (0 - 1) P f args w' _ := h1
      exact CallsIn.mono h2 (by rintro e w'' ⟨v, rfl, hv⟩; exact hv)
    | round l f tmps asg body =>
      refine ⟨FW_depth ρ, ?_⟩
      have h2 : RoundIn (FW ρ) (0 - 1) P l f tmps asg body w' _ := h
      exact RoundIn.mono h2 (by rintro e w'' ⟨v, rfl, hv⟩; exact hv)
    | _ => exact h.elim
  | halt x w' => exact h.elim

/-! ### A list of operations, in order -/
def putA (A : Array Value) (d : Option Nat) (v : Value) : Array Value := match d with | some d => A.setIfInBounds d v | none => A
def valA (A : Array Value) : Operand → Value := ({ tmps := A, defers := [] } : Act).eval
theorem valA_eq (A : Array Value) (D : List Deferred) : ({ tmps := A, defers := D } : Act).eval = valA A := by funext x; cases x <;> rfl
theorem put_putA (A : Array Value) (D : List Deferred) (d : Option Nat) (v : Value) : ({ tmps := A, defers := D } : Act).put d v = ⟨putA A d v, D⟩ := by cases d <;> rfl
def dfr : Op → Bool | .defer _ => false | _ => true
theorem dfr_ne {op : Op} (h : dfr op = true) : ∀ c, op ≠ .defer c := fun c e => by subst e; cases h
/-- One operation out of an array of slots, by its guard. -/
def OpU (full : List Oper) (o : Oper) (K : Array Value → World → Prop) (A : Array Value) (w : World) : Prop :=
  dfr o.op = true ∧ if Region.wanted o (yielded full.toArray A) then Upon (fun v w' => K (putA A o.dst v) w') ((execOp (valA A) o).run P w) else K (putA A o.dst undef) w
theorem OpU.mono {full : List Oper} {o : Oper} {K K' : Array Value → World → Prop} {A : Array Value} {w : World} (h : OpU full o K A w) (hk : ∀ A w, K A w → K' A w) : OpU full o K' A w := by
  refine ⟨h.1, ?_⟩
  have h2 := h.2
  split at h2
  · rename_i hw; rw [if_pos hw]; exact h2.mono fun v w' hv => hk _ _ hv
  · rename_i hw; rw [if_neg hw]; exact hk _ _ h2
theorem OpU.wpIn {ρ : Option Nat} {D : List Deferred} {full : List Oper} {o : Oper} {K : Array Value → World → Prop} {A : Array Value} {w : World} {next : Act → World → Prop} {Q : Post} (h : OpU full o K A w) (hk : ∀ A w, K A w → next ⟨A, D⟩ w) :
    if Region.wanted o (yielded full.toArray A) then o.wpIn (FW ρ) 0 P ⟨A, D⟩ w next Q else (∀ f, o.about P w ({ tmps := A, defers := D } : Act).eval = some f → (FW ρ).fn f) ∧ next (({ tmps := A, defers := D } : Act).put o.dst undef) w := by
  have h2 := h.2
  split at h2
  · rename_i hw
    rw [if_pos hw]
    refine wpIn_of_upon (dfr_ne h.1) ?_
    rw [valA_eq]
    exact h2.mono fun v w' hv => by rw [put_putA]; exact hk _ _ hv
  · rename_i hw
    rw [if_neg hw]
    exact ⟨fun f _ => trivial, by rw [put_putA]; exact hk _ _ h2⟩
def ListU (full : List Oper) (Fin : Array Value → World → Prop) : List Oper → Array Value → World → Prop
  | [], A, w => Fin A w
  | o :: rest, A, w => OpU full o (ListU full Fin rest) A w
theorem ListU.wpIn {ρ : Option Nat} {D : List Deferred} {full : List Oper} {Q : Post} {Fin : Array Value → World → Prop} (hf : ∀ A w, Fin A w → Q .normal ⟨A, D⟩ w) : ∀ (l : List Oper) (A : Array Value) (w : World), ListU full Fin l A w →
    wpListIn (FW ρ) 0 P full.toArray Q l ⟨A, D⟩ w
  | [], A, w, h => hf A w h
  | o :: rest, A, w, h => by
    simp only [wpListIn]
    exact OpU.wpIn h (fun A w => ListU.wpIn hf rest A w)
def L (ρ : Option Nat) (n : Nat) (D : List Deferred) (full : List Oper) (Q : Post) (l : List Oper) (fr : Slots) (w : World) : Prop :=
  ∀ A, Rep n fr A → ListU full (fun A w => Q .normal ⟨A, D⟩ w) l A w
theorem Rep.putA {n : Nat} {fr : Slots} {A : Array Value} {d : Option Nat} (v : Value) (h : Rep n fr A) (hd : dOk n d = true) : Rep n (putS fr d v) (putA A d v) := by
  cases d with
  | none => exact h
  | some d => exact h.put v hd
/-- What a guard asks: the value of the slot of operation j. -/
def gval (full : List Oper) (fr : Slots) (j : Nat) : Option Value := match full[j]? with
  | some o => match o.dst with
    | some d => look fr d
    | none => none
  | none => none
theorem yielded_of {full : List Oper} {n : Nat} {fr : Slots} {A : Array Value} {j : Nat} {b : Bool} (hA : Rep n fr A) (h : gval full fr j = some (.bool b)) : yielded full.toArray A j = some b := by
  unfold gval at h
  split at h
  · rename_i o ho
    split at h
    · rename_i d hd
      have := hA.at_ d _ h
      have hb : (full.toArray[j]?).bind (·.dst) = some d := by simp [ho, hd]
      unfold yielded
      rw [hb]
      simp only [Option.bind_some]
      simp only [Array.getD_eq_getD_getElem?] at this
      cases hc : A[d]? with
      | none => rw [hc] at this; simp [undef] at this
      | some v => rw [hc] at this; simp only [Option.getD_some] at this; subst this; rfl
    · cases h
  · cases h

section
variable {ρ : Option Nat} {n : Nat} {D : List Deferred} {full : List Oper} {Q : Post} {rest : List Oper} {fr : Slots} {w : World}
theorem L_nil (h : QX n D Q .normal fr w) : L ρ n D full Q [] fr w := fun A hA => h A hA
theorem L_cons {o : Oper} (hg : o.guard = none) (hsel : ∀ c, o.op ≠ .defer c) (hd : dOk n o.dst = true)
    (h : St o fr w (fun v w' => L ρ n D full Q rest (putS fr o.dst v) w')) : L ρ n D full Q (o :: rest) fr w := by
  intro A hA
  refine ⟨by cases hop : o.op <;> first | rfl | exact absurd hop (hsel _), ?_⟩
  simp only [Region.wanted, hg, if_true]
  refine (h (valA A) (fun x v hx => hA.ev hx)).mono ?_
  intro v w' hl
  exact hl _ (hA.putA v hd)
/-- The guard says yes. -/
theorem L_yes {d : Option Nat} {op : Op} {ty : TypeId} {ps : String} {af : Array Edge} {j : Nat} {b : Bool} (hj : gval full fr j = some (.bool b))
    (h : L ρ n D full Q (⟨d, op, ty, ps, af, none⟩ :: rest) fr w) : L ρ n D full Q (⟨d, op, ty, ps, af, some (j, b)⟩ :: rest) fr w := by
  intro A hA
  have := h A hA
  refine ⟨this.1, ?_⟩
  have h2 := this.2
  simp only [Region.wanted, if_true, yielded_of hA hj, beq_self_eq_true] at h2 ⊢
  exact h2
theorem L_no {d : Option Nat} {op : Op} {ty : TypeId} {ps : String} {af : Array Edge} {j : Nat} {b : Bool} (hj : gval full fr j = some (.bool !b)) (hd : dOk n d = true) (hs : dfr op = true)
    (h : L ρ n D full Q rest (putS fr d undef) w) : L ρ n D full Q (⟨d, op, ty, ps, af, some (j, b)⟩ :: rest) fr w := by
  intro A hA
  have e : (some (!b) == some b) = false := by cases b <;> rfl
  refine ⟨hs, ?_⟩
  simp only [Region.wanted, yielded_of hA hj, e, Bool.false_eq_true, if_false]
  exact h _ (hA.putA undef hd)
theorem C_region {id : Nat} {l : List Oper} (h : L ρ n D l Q l fr w) : C ρ n D (.region id l.toArray false) Q fr w := fun A hA => wpIn_region_lit (ListU.wpIn (fun _ _ h => h) _ _ _ (h A hA))
end

/-! ### The heap as it is known -/
def Keep (w w' : World) : Prop := Below w.heap.size w w'
theorem Keep.refl (w : World) : Keep w w := Below.refl _ _
theorem Keep.trans {a b c : World} (h : Keep a b) (k : Keep b c) : Keep a c := Below.trans h (Below.mono k h.size)
abbrev Rgs := List ((Nat → Prop) × World)
abbrev Hp := List (Nat × Obj)
structure SH (b0 : World) (R : Rgs) (H : Hp) (w : World) : Prop where
  bas : Below 0 b0 w
  rng : ∀ r ∈ R, r.2.heap.size ≤ w.heap.size ∧ ∀ b, r.1 b → b < r.2.heap.size → w.heap[b]? = r.2.heap[b]?
  own : ∀ p ∈ H, w.heap[p.1]? = some p.2
  nd : H.Pairwise (fun p q => p.1 ≠ q.1)
  apt : ∀ p ∈ H, ∀ r ∈ R, r.1 p.1 → r.2.heap.size ≤ p.1
theorem SH.keep {b0 : World} {R : Rgs} {H : Hp} {w w' : World} (h : SH b0 R H w) (k : Keep w w') : SH b0 R H w' :=
  ⟨h.bas.trans (Below.mono k (Nat.zero_le _)), fun r hr => ⟨Nat.le_trans (h.rng r hr).1 k.size, fun b hb hlt => (k.block b (Nat.lt_of_lt_of_le hlt (h.rng r hr).1)).trans ((h.rng r hr).2 b hb hlt)⟩,
   fun p hp => (k.block p.1 (Array.getElem?_eq_some_iff.1 (h.own p hp)).1).trans (h.own p hp), h.nd, h.apt⟩
theorem SH.drew {b0 : World} {R : Rgs} {H : Hp} {w : World} (h : SH b0 R H w) : SH b0 R H { w with drawn := w.drawn + 1 } :=
  h.keep ⟨rfl, rfl, rfl, Nat.le_refl _, fun _ _ => rfl⟩
theorem SH.start (w : World) : SH w [(fun _ => True, w)] [] w :=
  ⟨Below.refl _ _, fun r hr => by simp at hr; subst hr; exact ⟨Nat.le_refl _, fun _ _ _ => rfl⟩, fun p hp => by simp at hp, .nil, fun p hp => by simp at hp⟩
theorem SH.lt {b0 : World} {R : Rgs} {H : Hp} {w : World} (h : SH b0 R H w) {p : Nat × Obj} (hp : p ∈ H) : p.1 < w.heap.size := (Array.getElem?_eq_some_iff.1 (h.own p hp)).1
/-- A new block. -/
theorem SH.new {b0 : World} {R : Rgs} {H : Hp} {w : World} (h : SH b0 R H w) (o : Obj) : SH b0 R ((w.heap.size, o) :: H) { w with heap := w.heap.push o } := by
  have hk : Keep w { w with heap := w.heap.push o } := ⟨rfl, rfl, rfl, by simp, fun k hk => by show (w.heap.push o)[k]? = _; rw [Array.getElem?_push, if_neg (by omega)]⟩
  have h' := h.keep hk
  refine ⟨h'.bas, h'.rng, ?_, ?_, ?_⟩
  · intro p hp
    rcases List.mem_cons.1 hp with rfl | hp
    · show (w.heap.push o)[w.heap.size]? = some o
      simp
    · exact h'.own p hp
  · exact List.pairwise_cons.2 ⟨fun p hp e => by have := h.lt hp; simp only at e; omega, h.nd⟩
  · intro p hp r hr hb
    rcases List.mem_cons.1 hp with rfl | hp
    · exact (h.rng r hr).1
    · exact h.apt p hp r hr hb
/-- A block of one's own is changed. -/
def setH (H : Hp) (i : Nat) (o : Obj) : Hp := match H, i with
  | [], _ => []
  | p :: r, 0 => (p.1, o) :: r
  | p :: r, i + 1 => p :: setH r i o
theorem setH_keys (H : Hp) (i : Nat) (o : Obj) : (setH H i o).map (·.1) = H.map (·.1) := by
  induction H generalizing i with
  | nil => rfl
  | cons p r ih => cases i with
    | zero => rfl
    | succ i => simp [setH, ih]
theorem mem_setH {H : Hp} {i : Nat} {o : Obj} {p : Nat × Obj} (hn : H.Pairwise (fun p q => p.1 ≠ q.1)) {q : Nat × Obj} (hq : H[i]? = some q) (hp : p ∈ setH H i o) : p = (q.1, o) ∨ (p ∈ H ∧ p.1 ≠ q.1) := by
  induction H generalizing i with
  | nil => simp at hq
  | cons x r ih =>
    have hn' := List.pairwise_cons.1 hn
    cases i with
    | zero =>
      simp at hq; subst hq
      simp only [setH, List.mem_cons] at hp
      rcases hp with rfl | hp
      · exact .inl rfl
      · exact .inr ⟨List.mem_cons_of_mem _ hp, fun e => hn'.1 p hp e.symm⟩
    | succ i =>
      simp at hq
      simp only [setH, List.mem_cons] at hp
      rcases hp with rfl | hp
      · exact .inr ⟨List.mem_cons_self .., hn'.1 q (List.mem_of_getElem? hq)⟩
      · rcases ih hn'.2 hq hp with h | ⟨h1, h2⟩
        · exact .inl h
        · exact .inr ⟨List.mem_cons_of_mem _ h1, h2⟩
theorem SH.upd {b0 : World} {R : Rgs} {H : Hp} {w w' : World} (h : SH b0 R H w) {i : Nat} {b : Nat} {o o' : Obj} (hi : H[i]? = some (b, o))
    (hos : w'.os = w.os) (htp : w'.tape = w.tape) (hou : w'.output = w.output) (hsz : w.heap.size ≤ w'.heap.size)
    (hoth : ∀ k, k < w.heap.size → k ≠ b → w'.heap[k]? = w.heap[k]?) (hb : w'.heap[b]? = some o') : SH b0 R (setH H i o') w' := by
  have hmem : (b, o) ∈ H := List.mem_of_getElem? hi
  refine ⟨h.bas.trans ⟨hos, htp, hou, hsz, fun k hk => absurd hk (Nat.not_lt_zero _)⟩, ?_, ?_, ?_, ?_⟩
  · intro r hr
    refine ⟨Nat.le_trans (h.rng r hr).1 hsz, fun k hk hlt => ?_⟩
    have hne : k ≠ b := fun e => by subst e; have := h.apt _ hmem r hr hk; simp only at this; omega
    exact (hoth k (Nat.lt_of_lt_of_le hlt (h.rng r hr).1) hne).trans ((h.rng r hr).2 k hk hlt)
  · intro p hp
    rcases mem_setH h.nd hi hp with rfl | ⟨hp, hne⟩
    · exact hb
    · exact (hoth p.1 (h.lt hp) hne).trans (h.own p hp)
  · have := h.nd
    have hk := setH_keys H i o'
    have e1 : ∀ l : Hp, l.Pairwise (fun p q => p.1 ≠ q.1) ↔ (l.map (·.1)).Pairwise (· ≠ ·) := fun l => by rw [List.pairwise_map]
    rw [e1, hk, ← e1]; exact this
  · intro p hp r hr hbk
    rcases mem_setH h.nd hi hp with rfl | ⟨hp, _⟩
    · exact h.apt _ hmem r hr hbk
    · exact h.apt p hp r hr hbk
/-- What is known of a world stays known while its blocks stand. -/
theorem SH.add {b0 : World} {R : Rgs} {H : Hp} {w : World} (h : SH b0 R H w) (G : Nat → Prop) (hG : ∀ p ∈ H, ¬ G p.1) : SH b0 ((G, w) :: R) H w :=
  ⟨h.bas, fun r hr => by
    rcases List.mem_cons.1 hr with rfl | hr
    · exact ⟨Nat.le_refl _, fun _ _ _ => rfl⟩
    · exact h.rng r hr, h.own, h.nd, fun p hp r hr hb => by
    rcases List.mem_cons.1 hr with rfl | hr
    · exact absurd hb (hG p hp)
    · exact h.apt p hp r hr hb⟩
theorem SH.below {b0 : World} {R : Rgs} {H : Hp} {w w0 : World} (h : SH b0 R H w) (hb : b0 = w0) {r : (Nat → Prop) × World} (hr : r ∈ R) (h1 : ∀ b, r.1 b) (h2 : r.2 = w0) : Keep w0 w := by
  subst hb; subst h2
  exact ⟨h.bas.os, h.bas.tape, h.bas.output, h.bas.size, fun k hk => (h.rng r hr).2 k (h1 k) hk⟩
end Go.Proofs.YtkbaaikidhbfmaaGreat
/- What the program's table says of its types and functions, as instances. Printed by wip/gentypes.py. No statement is proved here. -/
set_option linter.unusedVariables false
namespace Go.Proofs.YtkbaaikidhbfmaaGreat
open Go.RowKit

/-- A type of one cell, no struct and no array. -/
class TyOne (t : Nat) : Prop where
  h : ∀ w : World, (isAgg t).run P w = .ok false w
  s : ∀ w : World, (sizeOf t).run P w = .ok 1 w
/-- A struct or an array of n cells. -/
class TyAgg (t : Nat) (n : outParam Nat) : Prop where
  h : ∀ w : World, (isAgg t).run P w = .ok true w
  s : ∀ w : World, (sizeOf t).run P w = .ok n w
/-- The zero value's cells. -/
class TyZ (t : Nat) (z : outParam Value) : Prop where
  h : ∀ w : World, (zeroValue t).run P w = .ok z w
class TySl (t : Nat) (e sz by_ : outParam Nat) : Prop where
  h : P.underlying t = some (.slice e)
  s : ∀ w : World, (sizeOf e).run P w = .ok sz w
  b : (P.info? e).map (fun i => (i.bytes, i.size)) = some (by_, sz)
class TyArr (t : Nat) (len e sz : outParam Nat) : Prop where
  h : P.underlying t = some (.array len e)
  s : ∀ w : World, (sizeOf e).run P w = .ok sz w
class TyInt (t : Nat) (k : outParam IntKind) : Prop where
  h : P.underlying t = some (.int k)
class TyMap (t : Nat) (k e : outParam Nat) : Prop where
  h : P.underlying t = some (.map k e)
/-- Field f of struct t lies so many cells behind its begin. -/
class TyFld (t f : Nat) (off : outParam Nat) : Prop where
  h : ∀ (a : Addr) (w : World), (Instr.fieldAt t (.pointer (some a)) f).run P w = .ok (.pointer (some (a.add off))) w
theorem enters_f {f : FuncId} {fn : Func} {c : Code} (hf : P.funcs[f]? = some fn) (hn : (fn.name == "runtime.NumGoroutine") = false) (hb : fn.body = some c) (args : Array Value) (w : World) : (callFunc f args).run P w = .ok (.enter f args) w := by
  have hn2 : ¬ fn.name = "runtime.NumGoroutine" := by simpa using hn
  simp [callFunc, program, Sem.run_bind, Result.andThen, Sem.run, hf, hn2, hb]
theorem run_fieldAt_of {t f off n : Nat} {fs : Array Field} (h : P.underlying t = some (.struct fs)) (hz : (fs[f]?).bind (fun fd => (P.info? fd.type).map fun i => (fd.offset, i.size)) = some (off, n + 1)) (a : Addr) (w : World) :
    (Instr.fieldAt t (.pointer (some a)) f).run P w = .ok (.pointer (some (a.add off))) w := by
  cases hf : fs[f]? with
  | none => rw [hf] at hz; cases hz
  | some fd =>
    rw [hf] at hz
    cases hi : P.info? fd.type with
    | none => simp [hi] at hz
    | some i =>
      simp only [Option.bind_some, hi, Option.map_some, Option.some.injEq, Prod.mk.injEq] at hz
      simp [Instr.fieldAt, run_underlying h, hf, Instr.sureAddr, fieldPlace, sizeOf, typeInfo, program, hi, hz, Sem.run_bind, Result.andThen, Sem.run]
/-- A function that has a body. -/
class Ent (f : Nat) : Prop where
  h : ∀ (args : Array Value) (w : World), (callFunc f args).run P w = .ok (.enter f args) w

instance : TyOne 3 := ⟨fun _ => by kernel_rfl, fun _ => by kernel_rfl⟩
instance : TyZ 3 (.int .i64 0) := ⟨fun _ => by kernel_rfl⟩
instance : TyInt 3 .i64 := ⟨Tryz.underlying3⟩
instance : TyOne 4 := ⟨fun _ => by kernel_rfl, fun _ => by kernel_rfl⟩
instance : TyZ 4 (.bool false) := ⟨fun _ => by kernel_rfl⟩
instance : TyOne 5 := ⟨fun _ => by kernel_rfl, fun _ => by kernel_rfl⟩
instance : TyZ 5 (.int .u8 0) := ⟨fun _ => by kernel_rfl⟩
instance : TyInt 5 .u8 := ⟨Tryz.underlying5⟩
instance : TyOne 9 := ⟨fun _ => by kernel_rfl, fun _ => by kernel_rfl⟩
instance : TyOne 22 := ⟨fun _ => by kernel_rfl, fun _ => by kernel_rfl⟩
instance : TyZ 22 (.slice none 0 0) := ⟨fun _ => by kernel_rfl⟩
instance : TySl 22 61 2 16 := ⟨Tryz.underlying22, fun _ => by kernel_rfl, by kernel_rfl⟩
instance : TyOne 23 := ⟨fun _ => by kernel_rfl, fun _ => by kernel_rfl⟩
instance : TyZ 23 (.slice none 0 0) := ⟨fun _ => by kernel_rfl⟩
instance : TySl 23 33 1 24 := ⟨Tryz.underlying23, fun _ => by kernel_rfl, by kernel_rfl⟩
instance : TyOne 24 := ⟨fun _ => by kernel_rfl, fun _ => by kernel_rfl⟩
instance : TyZ 24 (.slice none 0 0) := ⟨fun _ => by kernel_rfl⟩
instance : TySl 24 102 3 24 := ⟨Tryz.underlying24, fun _ => by kernel_rfl, by kernel_rfl⟩
instance : TyAgg 25 3 := ⟨fun _ => by kernel_rfl, fun _ => by kernel_rfl⟩
instance : TyZ 25 (.agg #[.slice none 0 0, .slice none 0 0, .slice none 0 0]) := ⟨fun _ => by kernel_rfl⟩
instance : TyFld 25 0 0 := ⟨fun a w => run_fieldAt_of (n := 0) Tryz.underlying25 (by kernel_rfl) a w⟩
instance : TyFld 25 1 1 := ⟨fun a w => run_fieldAt_of (n := 0) Tryz.underlying25 (by kernel_rfl) a w⟩
instance : TyFld 25 2 2 := ⟨fun a w => run_fieldAt_of (n := 0) Tryz.underlying25 (by kernel_rfl) a w⟩
instance : TyAgg 26 3 := ⟨fun _ => by kernel_rfl, fun _ => by kernel_rfl⟩
instance : TyZ 26 (.agg #[.slice none 0 0, .slice none 0 0, .slice none 0 0]) := ⟨fun _ => by kernel_rfl⟩
instance : TyFld 26 0 0 := ⟨fun a w => run_fieldAt_of (n := 0) Tryz.underlying26 (by kernel_rfl) a w⟩
instance : TyFld 26 1 1 := ⟨fun a w => run_fieldAt_of (n := 0) Tryz.underlying26 (by kernel_rfl) a w⟩
instance : TyFld 26 2 2 := ⟨fun a w => run_fieldAt_of (n := 0) Tryz.underlying26 (by kernel_rfl) a w⟩
instance : TyAgg 27 2 := ⟨fun _ => by kernel_rfl, fun _ => by kernel_rfl⟩
instance : TyZ 27 (.agg #[.int .i64 0, .int .i64 0]) := ⟨fun _ => by kernel_rfl⟩
instance : TyFld 27 0 0 := ⟨fun a w => run_fieldAt_of (n := 0) Tryz.underlying27 (by kernel_rfl) a w⟩
instance : TyFld 27 1 1 := ⟨fun a w => run_fieldAt_of (n := 0) Tryz.underlying27 (by kernel_rfl) a w⟩
instance : TyAgg 28 2 := ⟨fun _ => by kernel_rfl, fun _ => by kernel_rfl⟩
instance : TyZ 28 (.agg #[.int .i64 0, .int .i64 0]) := ⟨fun _ => by kernel_rfl⟩
instance : TyFld 28 0 0 := ⟨fun a w => run_fieldAt_of (n := 0) Tryz.underlying28 (by kernel_rfl) a w⟩
instance : TyFld 28 1 1 := ⟨fun a w => run_fieldAt_of (n := 0) Tryz.underlying28 (by kernel_rfl) a w⟩
instance : TyOne 29 := ⟨fun _ => by kernel_rfl, fun _ => by kernel_rfl⟩
instance : TyZ 29 (.slice none 0 0) := ⟨fun _ => by kernel_rfl⟩
instance : TySl 29 108 4 32 := ⟨Tryz.underlying29, fun _ => by kernel_rfl, by kernel_rfl⟩
instance : TyOne 30 := ⟨fun _ => by kernel_rfl, fun _ => by kernel_rfl⟩
instance : TyZ 30 (.slice none 0 0) := ⟨fun _ => by kernel_rfl⟩
instance : TySl 30 104 3 24 := ⟨Tryz.underlying30, fun _ => by kernel_rfl, by kernel_rfl⟩
instance : TyAgg 31 5 := ⟨fun _ => by kernel_rfl, fun _ => by kernel_rfl⟩
instance : TyZ 31 (.agg #[.int .i64 0, .int .i64 0, .slice none 0 0, .int .i64 0, .slice none 0 0]) := ⟨fun _ => by kernel_rfl⟩
instance : TyFld 31 0 0 := ⟨fun a w => run_fieldAt_of (n := 1) Tryz.underlying31 (by kernel_rfl) a w⟩
instance : TyFld 31 1 2 := ⟨fun a w => run_fieldAt_of (n := 0) Tryz.underlying31 (by kernel_rfl) a w⟩
instance : TyFld 31 2 3 := ⟨fun a w => run_fieldAt_of (n := 0) Tryz.underlying31 (by kernel_rfl) a w⟩
instance : TyFld 31 3 4 := ⟨fun a w => run_fieldAt_of (n := 0) Tryz.underlying31 (by kernel_rfl) a w⟩
instance : TyAgg 32 5 := ⟨fun _ => by kernel_rfl, fun _ => by kernel_rfl⟩
instance : TyZ 32 (.agg #[.int .i64 0, .int .i64 0, .slice none 0 0, .int .i64 0, .slice none 0 0]) := ⟨fun _ => by kernel_rfl⟩
instance : TyFld 32 0 0 := ⟨fun a w => run_fieldAt_of (n := 1) Tryz.underlying32 (by kernel_rfl) a w⟩
instance : TyFld 32 1 2 := ⟨fun a w => run_fieldAt_of (n := 0) Tryz.underlying32 (by kernel_rfl) a w⟩
instance : TyFld 32 2 3 := ⟨fun a w => run_fieldAt_of (n := 0) Tryz.underlying32 (by kernel_rfl) a w⟩
instance : TyFld 32 3 4 := ⟨fun a w => run_fieldAt_of (n := 0) Tryz.underlying32 (by kernel_rfl) a w⟩
instance : TyOne 33 := ⟨fun _ => by kernel_rfl, fun _ => by kernel_rfl⟩
instance : TyZ 33 (.slice none 0 0) := ⟨fun _ => by kernel_rfl⟩
instance : TySl 33 3 1 8 := ⟨Tryz.underlying33, fun _ => by kernel_rfl, by kernel_rfl⟩
instance : TyAgg 34 13 := ⟨fun _ => by kernel_rfl, fun _ => by kernel_rfl⟩
instance : TyZ 34 (.agg #[.slice none 0 0, .slice none 0 0, .slice none 0 0, .int .i64 0, .int .i64 0, .slice none 0 0, .int .i64 0, .slice none 0 0, .slice none 0 0, .int .i64 0, .int .i64 0, .int .i64 0, .int .i64 0]) := ⟨fun _ => by kernel_rfl⟩
instance : TyFld 34 0 0 := ⟨fun a w => run_fieldAt_of (n := 2) Tryz.underlying34 (by kernel_rfl) a w⟩
instance : TyFld 34 1 3 := ⟨fun a w => run_fieldAt_of (n := 4) Tryz.underlying34 (by kernel_rfl) a w⟩
instance : TyFld 34 2 8 := ⟨fun a w => run_fieldAt_of (n := 0) Tryz.underlying34 (by kernel_rfl) a w⟩
instance : TyFld 34 3 9 := ⟨fun a w => run_fieldAt_of (n := 0) Tryz.underlying34 (by kernel_rfl) a w⟩
instance : TyFld 34 4 10 := ⟨fun a w => run_fieldAt_of (n := 0) Tryz.underlying34 (by kernel_rfl) a w⟩
instance : TyFld 34 5 11 := ⟨fun a w => run_fieldAt_of (n := 0) Tryz.underlying34 (by kernel_rfl) a w⟩
instance : TyFld 34 6 12 := ⟨fun a w => run_fieldAt_of (n := 0) Tryz.underlying34 (by kernel_rfl) a w⟩
instance : TyAgg 35 13 := ⟨fun _ => by kernel_rfl, fun _ => by kernel_rfl⟩
instance : TyZ 35 (.agg #[.slice none 0 0, .slice none 0 0, .slice none 0 0, .int .i64 0, .int .i64 0, .slice none 0 0, .int .i64 0, .slice none 0 0, .slice none 0 0, .int .i64 0, .int .i64 0, .int .i64 0, .int .i64 0]) := ⟨fun _ => by kernel_rfl⟩
instance : TyFld 35 0 0 := ⟨fun a w => run_fieldAt_of (n := 2) Tryz.underlying35 (by kernel_rfl) a w⟩
instance : TyFld 35 1 3 := ⟨fun a w => run_fieldAt_of (n := 4) Tryz.underlying35 (by kernel_rfl) a w⟩
instance : TyFld 35 2 8 := ⟨fun a w => run_fieldAt_of (n := 0) Tryz.underlying35 (by kernel_rfl) a w⟩
instance : TyFld 35 3 9 := ⟨fun a w => run_fieldAt_of (n := 0) Tryz.underlying35 (by kernel_rfl) a w⟩
instance : TyFld 35 4 10 := ⟨fun a w => run_fieldAt_of (n := 0) Tryz.underlying35 (by kernel_rfl) a w⟩
instance : TyFld 35 5 11 := ⟨fun a w => run_fieldAt_of (n := 0) Tryz.underlying35 (by kernel_rfl) a w⟩
instance : TyFld 35 6 12 := ⟨fun a w => run_fieldAt_of (n := 0) Tryz.underlying35 (by kernel_rfl) a w⟩
instance : TyOne 37 := ⟨fun _ => by kernel_rfl, fun _ => by kernel_rfl⟩
instance : TyZ 37 (.nilFunc) := ⟨fun _ => by kernel_rfl⟩
instance : TyOne 38 := ⟨fun _ => by kernel_rfl, fun _ => by kernel_rfl⟩
instance : TyZ 38 (.slice none 0 0) := ⟨fun _ => by kernel_rfl⟩
instance : TySl 38 59 2 16 := ⟨Tryz.underlying38, fun _ => by kernel_rfl, by kernel_rfl⟩
instance : TyOne 39 := ⟨fun _ => by kernel_rfl, fun _ => by kernel_rfl⟩
instance : TyZ 39 (.int .i64 0) := ⟨fun _ => by kernel_rfl⟩
instance : TyInt 39 .i64 := ⟨Tryz.underlying39⟩
instance : TyOne 42 := ⟨fun _ => by kernel_rfl, fun _ => by kernel_rfl⟩
instance : TyZ 42 (.slice none 0 0) := ⟨fun _ => by kernel_rfl⟩
instance : TySl 42 80 2 16 := ⟨Tryz.underlying42, fun _ => by kernel_rfl, by kernel_rfl⟩
instance : TyOne 43 := ⟨fun _ => by kernel_rfl, fun _ => by kernel_rfl⟩
instance : TyZ 43 (.slice none 0 0) := ⟨fun _ => by kernel_rfl⟩
instance : TySl 43 170 3 24 := ⟨Tryz.underlying43, fun _ => by kernel_rfl, by kernel_rfl⟩
instance : TyAgg 44 3 := ⟨fun _ => by kernel_rfl, fun _ => by kernel_rfl⟩
instance : TyZ 44 (.agg #[.slice none 0 0, .slice none 0 0, .slice none 0 0]) := ⟨fun _ => by kernel_rfl⟩
instance : TyFld 44 0 0 := ⟨fun a w => run_fieldAt_of (n := 0) Tryz.underlying44 (by kernel_rfl) a w⟩
instance : TyFld 44 1 1 := ⟨fun a w => run_fieldAt_of (n := 0) Tryz.underlying44 (by kernel_rfl) a w⟩
instance : TyFld 44 2 2 := ⟨fun a w => run_fieldAt_of (n := 0) Tryz.underlying44 (by kernel_rfl) a w⟩
instance : TyAgg 45 3 := ⟨fun _ => by kernel_rfl, fun _ => by kernel_rfl⟩
instance : TyZ 45 (.agg #[.slice none 0 0, .slice none 0 0, .slice none 0 0]) := ⟨fun _ => by kernel_rfl⟩
instance : TyFld 45 0 0 := ⟨fun a w => run_fieldAt_of (n := 0) Tryz.underlying45 (by kernel_rfl) a w⟩
instance : TyFld 45 1 1 := ⟨fun a w => run_fieldAt_of (n := 0) Tryz.underlying45 (by kernel_rfl) a w⟩
instance : TyFld 45 2 2 := ⟨fun a w => run_fieldAt_of (n := 0) Tryz.underlying45 (by kernel_rfl) a w⟩
instance : TyAgg 46 2 := ⟨fun _ => by kernel_rfl, fun _ => by kernel_rfl⟩
instance : TyZ 46 (.agg #[.int .i64 0, .int .i64 0]) := ⟨fun _ => by kernel_rfl⟩
instance : TyFld 46 0 0 := ⟨fun a w => run_fieldAt_of (n := 0) Tryz.underlying46 (by kernel_rfl) a w⟩
instance : TyFld 46 1 1 := ⟨fun a w => run_fieldAt_of (n := 0) Tryz.underlying46 (by kernel_rfl) a w⟩
instance : TyOne 47 := ⟨fun _ => by kernel_rfl, fun _ => by kernel_rfl⟩
instance : TyZ 47 (.slice none 0 0) := ⟨fun _ => by kernel_rfl⟩
instance : TySl 47 174 4 32 := ⟨Tryz.underlying47, fun _ => by kernel_rfl, by kernel_rfl⟩
instance : TyOne 48 := ⟨fun _ => by kernel_rfl, fun _ => by kernel_rfl⟩
instance : TyZ 48 (.slice none 0 0) := ⟨fun _ => by kernel_rfl⟩
instance : TySl 48 177 3 24 := ⟨Tryz.underlying48, fun _ => by kernel_rfl, by kernel_rfl⟩
instance : TyAgg 49 5 := ⟨fun _ => by kernel_rfl, fun _ => by kernel_rfl⟩
instance : TyZ 49 (.agg #[.int .i64 0, .int .i64 0, .slice none 0 0, .int .i64 0, .slice none 0 0]) := ⟨fun _ => by kernel_rfl⟩
instance : TyFld 49 0 0 := ⟨fun a w => run_fieldAt_of (n := 1) Tryz.underlying49 (by kernel_rfl) a w⟩
instance : TyFld 49 1 2 := ⟨fun a w => run_fieldAt_of (n := 0) Tryz.underlying49 (by kernel_rfl) a w⟩
instance : TyFld 49 2 3 := ⟨fun a w => run_fieldAt_of (n := 0) Tryz.underlying49 (by kernel_rfl) a w⟩
instance : TyFld 49 3 4 := ⟨fun a w => run_fieldAt_of (n := 0) Tryz.underlying49 (by kernel_rfl) a w⟩
instance : TyAgg 50 5 := ⟨fun _ => by kernel_rfl, fun _ => by kernel_rfl⟩
instance : TyZ 50 (.agg #[.int .i64 0, .int .i64 0, .slice none 0 0, .int .i64 0, .slice none 0 0]) := ⟨fun _ => by kernel_rfl⟩
instance : TyFld 50 0 0 := ⟨fun a w => run_fieldAt_of (n := 1) Tryz.underlying50 (by kernel_rfl) a w⟩
instance : TyFld 50 1 2 := ⟨fun a w => run_fieldAt_of (n := 0) Tryz.underlying50 (by kernel_rfl) a w⟩
instance : TyFld 50 2 3 := ⟨fun a w => run_fieldAt_of (n := 0) Tryz.underlying50 (by kernel_rfl) a w⟩
instance : TyFld 50 3 4 := ⟨fun a w => run_fieldAt_of (n := 0) Tryz.underlying50 (by kernel_rfl) a w⟩
instance : TyAgg 51 13 := ⟨fun _ => by kernel_rfl, fun _ => by kernel_rfl⟩
instance : TyZ 51 (.agg #[.slice none 0 0, .slice none 0 0, .slice none 0 0, .int .i64 0, .int .i64 0, .slice none 0 0, .int .i64 0, .slice none 0 0, .slice none 0 0, .int .i64 0, .int .i64 0, .int .i64 0, .int .i64 0]) := ⟨fun _ => by kernel_rfl⟩
instance : TyFld 51 0 0 := ⟨fun a w => run_fieldAt_of (n := 2) Tryz.underlying51 (by kernel_rfl) a w⟩
instance : TyFld 51 1 3 := ⟨fun a w => run_fieldAt_of (n := 4) Tryz.underlying51 (by kernel_rfl) a w⟩
instance : TyFld 51 2 8 := ⟨fun a w => run_fieldAt_of (n := 0) Tryz.underlying51 (by kernel_rfl) a w⟩
instance : TyFld 51 3 9 := ⟨fun a w => run_fieldAt_of (n := 0) Tryz.underlying51 (by kernel_rfl) a w⟩
instance : TyFld 51 4 10 := ⟨fun a w => run_fieldAt_of (n := 0) Tryz.underlying51 (by kernel_rfl) a w⟩
instance : TyFld 51 5 11 := ⟨fun a w => run_fieldAt_of (n := 0) Tryz.underlying51 (by kernel_rfl) a w⟩
instance : TyFld 51 6 12 := ⟨fun a w => run_fieldAt_of (n := 0) Tryz.underlying51 (by kernel_rfl) a w⟩
instance : TyAgg 52 13 := ⟨fun _ => by kernel_rfl, fun _ => by kernel_rfl⟩
instance : TyZ 52 (.agg #[.slice none 0 0, .slice none 0 0, .slice none 0 0, .int .i64 0, .int .i64 0, .slice none 0 0, .int .i64 0, .slice none 0 0, .slice none 0 0, .int .i64 0, .int .i64 0, .int .i64 0, .int .i64 0]) := ⟨fun _ => by kernel_rfl⟩
instance : TyFld 52 0 0 := ⟨fun a w => run_fieldAt_of (n := 2) Tryz.underlying52 (by kernel_rfl) a w⟩
instance : TyFld 52 1 3 := ⟨fun a w => run_fieldAt_of (n := 4) Tryz.underlying52 (by kernel_rfl) a w⟩
instance : TyFld 52 2 8 := ⟨fun a w => run_fieldAt_of (n := 0) Tryz.underlying52 (by kernel_rfl) a w⟩
instance : TyFld 52 3 9 := ⟨fun a w => run_fieldAt_of (n := 0) Tryz.underlying52 (by kernel_rfl) a w⟩
instance : TyFld 52 4 10 := ⟨fun a w => run_fieldAt_of (n := 0) Tryz.underlying52 (by kernel_rfl) a w⟩
instance : TyFld 52 5 11 := ⟨fun a w => run_fieldAt_of (n := 0) Tryz.underlying52 (by kernel_rfl) a w⟩
instance : TyFld 52 6 12 := ⟨fun a w => run_fieldAt_of (n := 0) Tryz.underlying52 (by kernel_rfl) a w⟩
instance : TyOne 54 := ⟨fun _ => by kernel_rfl, fun _ => by kernel_rfl⟩
instance : TyZ 54 (.slice none 0 0) := ⟨fun _ => by kernel_rfl⟩
instance : TySl 54 86 3 56 := ⟨Tryz.underlying54, fun _ => by kernel_rfl, by kernel_rfl⟩
instance : TyAgg 59 2 := ⟨fun _ => by kernel_rfl, fun _ => by kernel_rfl⟩
instance : TyZ 59 (.agg #[.int .i64 0, .int .i64 0]) := ⟨fun _ => by kernel_rfl⟩
instance : TyFld 59 0 0 := ⟨fun a w => run_fieldAt_of (n := 0) Tryz.underlying59 (by kernel_rfl) a w⟩
instance : TyFld 59 1 1 := ⟨fun a w => run_fieldAt_of (n := 0) Tryz.underlying59 (by kernel_rfl) a w⟩
instance : TyAgg 61 2 := ⟨fun _ => by kernel_rfl, fun _ => by kernel_rfl⟩
instance : TyZ 61 (.agg #[.int .i64 0, .int .i64 0]) := ⟨fun _ => by kernel_rfl⟩
instance : TyFld 61 0 0 := ⟨fun a w => run_fieldAt_of (n := 0) Tryz.underlying61 (by kernel_rfl) a w⟩
instance : TyFld 61 1 1 := ⟨fun a w => run_fieldAt_of (n := 0) Tryz.underlying61 (by kernel_rfl) a w⟩
instance : TyAgg 80 2 := ⟨fun _ => by kernel_rfl, fun _ => by kernel_rfl⟩
instance : TyZ 80 (.agg #[.int .i64 0, .int .i64 0]) := ⟨fun _ => by kernel_rfl⟩
instance : TyFld 80 0 0 := ⟨fun a w => run_fieldAt_of (n := 0) Tryz.underlying80 (by kernel_rfl) a w⟩
instance : TyFld 80 1 1 := ⟨fun a w => run_fieldAt_of (n := 0) Tryz.underlying80 (by kernel_rfl) a w⟩
instance : TyAgg 83 2 := ⟨fun _ => by kernel_rfl, fun _ => by kernel_rfl⟩
instance : TyZ 83 (.agg #[.int .i64 0, .slice none 0 0]) := ⟨fun _ => by kernel_rfl⟩
instance : TyFld 83 0 0 := ⟨fun a w => run_fieldAt_of (n := 0) Tryz.underlying83 (by kernel_rfl) a w⟩
instance : TyFld 83 1 1 := ⟨fun a w => run_fieldAt_of (n := 0) Tryz.underlying83 (by kernel_rfl) a w⟩
instance : TyAgg 84 2 := ⟨fun _ => by kernel_rfl, fun _ => by kernel_rfl⟩
instance : TyZ 84 (.agg #[.int .i64 0, .slice none 0 0]) := ⟨fun _ => by kernel_rfl⟩
instance : TyFld 84 0 0 := ⟨fun a w => run_fieldAt_of (n := 0) Tryz.underlying84 (by kernel_rfl) a w⟩
instance : TyFld 84 1 1 := ⟨fun a w => run_fieldAt_of (n := 0) Tryz.underlying84 (by kernel_rfl) a w⟩
instance : TyAgg 85 3 := ⟨fun _ => by kernel_rfl, fun _ => by kernel_rfl⟩
instance : TyZ 85 (.agg #[.slice none 0 0, .int .i64 0, .slice none 0 0]) := ⟨fun _ => by kernel_rfl⟩
instance : TyFld 85 0 0 := ⟨fun a w => run_fieldAt_of (n := 0) Tryz.underlying85 (by kernel_rfl) a w⟩
instance : TyFld 85 1 1 := ⟨fun a w => run_fieldAt_of (n := 1) Tryz.underlying85 (by kernel_rfl) a w⟩
instance : TyAgg 86 3 := ⟨fun _ => by kernel_rfl, fun _ => by kernel_rfl⟩
instance : TyZ 86 (.agg #[.slice none 0 0, .int .i64 0, .slice none 0 0]) := ⟨fun _ => by kernel_rfl⟩
instance : TyFld 86 0 0 := ⟨fun a w => run_fieldAt_of (n := 0) Tryz.underlying86 (by kernel_rfl) a w⟩
instance : TyFld 86 1 1 := ⟨fun a w => run_fieldAt_of (n := 1) Tryz.underlying86 (by kernel_rfl) a w⟩
instance : TyOne 90 := ⟨fun _ => by kernel_rfl, fun _ => by kernel_rfl⟩
instance : TyZ 90 (.int .u16 0) := ⟨fun _ => by kernel_rfl⟩
instance : TyInt 90 .u16 := ⟨Tryz.underlying90⟩
instance : TyOne 95 := ⟨fun _ => by kernel_rfl, fun _ => by kernel_rfl⟩
instance : TyZ 95 (.slice none 0 0) := ⟨fun _ => by kernel_rfl⟩
instance : TySl 95 90 1 2 := ⟨Tryz.underlying95, fun _ => by kernel_rfl, by kernel_rfl⟩
instance : TyAgg 101 3 := ⟨fun _ => by kernel_rfl, fun _ => by kernel_rfl⟩
instance : TyZ 101 (.agg #[.int .i64 0, .int .i64 0, .int .i64 0]) := ⟨fun _ => by kernel_rfl⟩
instance : TyFld 101 0 0 := ⟨fun a w => run_fieldAt_of (n := 0) Tryz.underlying101 (by kernel_rfl) a w⟩
instance : TyFld 101 1 1 := ⟨fun a w => run_fieldAt_of (n := 1) Tryz.underlying101 (by kernel_rfl) a w⟩
instance : TyAgg 102 3 := ⟨fun _ => by kernel_rfl, fun _ => by kernel_rfl⟩
instance : TyZ 102 (.agg #[.int .i64 0, .int .i64 0, .int .i64 0]) := ⟨fun _ => by kernel_rfl⟩
instance : TyFld 102 0 0 := ⟨fun a w => run_fieldAt_of (n := 0) Tryz.underlying102 (by kernel_rfl) a w⟩
instance : TyFld 102 1 1 := ⟨fun a w => run_fieldAt_of (n := 1) Tryz.underlying102 (by kernel_rfl) a w⟩
instance : TyAgg 103 3 := ⟨fun _ => by kernel_rfl, fun _ => by kernel_rfl⟩
instance : TyZ 103 (.agg #[.int .i64 0, .int .i64 0, .bool false]) := ⟨fun _ => by kernel_rfl⟩
instance : TyFld 103 0 0 := ⟨fun a w => run_fieldAt_of (n := 0) Tryz.underlying103 (by kernel_rfl) a w⟩
instance : TyFld 103 1 1 := ⟨fun a w => run_fieldAt_of (n := 0) Tryz.underlying103 (by kernel_rfl) a w⟩
instance : TyFld 103 2 2 := ⟨fun a w => run_fieldAt_of (n := 0) Tryz.underlying103 (by kernel_rfl) a w⟩
instance : TyAgg 104 3 := ⟨fun _ => by kernel_rfl, fun _ => by kernel_rfl⟩
instance : TyZ 104 (.agg #[.int .i64 0, .int .i64 0, .bool false]) := ⟨fun _ => by kernel_rfl⟩
instance : TyFld 104 0 0 := ⟨fun a w => run_fieldAt_of (n := 0) Tryz.underlying104 (by kernel_rfl) a w⟩
instance : TyFld 104 1 1 := ⟨fun a w => run_fieldAt_of (n := 0) Tryz.underlying104 (by kernel_rfl) a w⟩
instance : TyFld 104 2 2 := ⟨fun a w => run_fieldAt_of (n := 0) Tryz.underlying104 (by kernel_rfl) a w⟩
instance : TyAgg 107 4 := ⟨fun _ => by kernel_rfl, fun _ => by kernel_rfl⟩
instance : TyZ 107 (.agg #[.int .i64 0, .int .i64 0, .int .i64 0, .int .i64 0]) := ⟨fun _ => by kernel_rfl⟩
instance : TyFld 107 0 0 := ⟨fun a w => run_fieldAt_of (n := 1) Tryz.underlying107 (by kernel_rfl) a w⟩
instance : TyFld 107 1 2 := ⟨fun a w => run_fieldAt_of (n := 0) Tryz.underlying107 (by kernel_rfl) a w⟩
instance : TyFld 107 2 3 := ⟨fun a w => run_fieldAt_of (n := 0) Tryz.underlying107 (by kernel_rfl) a w⟩
instance : TyAgg 108 4 := ⟨fun _ => by kernel_rfl, fun _ => by kernel_rfl⟩
instance : TyZ 108 (.agg #[.int .i64 0, .int .i64 0, .int .i64 0, .int .i64 0]) := ⟨fun _ => by kernel_rfl⟩
instance : TyFld 108 0 0 := ⟨fun a w => run_fieldAt_of (n := 1) Tryz.underlying108 (by kernel_rfl) a w⟩
instance : TyFld 108 1 2 := ⟨fun a w => run_fieldAt_of (n := 0) Tryz.underlying108 (by kernel_rfl) a w⟩
instance : TyFld 108 2 3 := ⟨fun a w => run_fieldAt_of (n := 0) Tryz.underlying108 (by kernel_rfl) a w⟩
instance : TyOne 109 := ⟨fun _ => by kernel_rfl, fun _ => by kernel_rfl⟩
instance : TyZ 109 (.pointer none) := ⟨fun _ => by kernel_rfl⟩
instance : TyOne 123 := ⟨fun _ => by kernel_rfl, fun _ => by kernel_rfl⟩
instance : TyZ 123 (.pointer none) := ⟨fun _ => by kernel_rfl⟩
instance : TyAgg 124 1 := ⟨fun _ => by kernel_rfl, fun _ => by kernel_rfl⟩
instance : TyZ 124 (.agg #[.nilFunc]) := ⟨fun _ => by kernel_rfl⟩
instance : TyFld 124 0 0 := ⟨fun a w => run_fieldAt_of (n := 0) Tryz.underlying124 (by kernel_rfl) a w⟩
instance : TyAgg 125 1 := ⟨fun _ => by kernel_rfl, fun _ => by kernel_rfl⟩
instance : TyZ 125 (.agg #[.nilFunc]) := ⟨fun _ => by kernel_rfl⟩
instance : TyFld 125 0 0 := ⟨fun a w => run_fieldAt_of (n := 0) Tryz.underlying125 (by kernel_rfl) a w⟩
instance : TyOne 128 := ⟨fun _ => by kernel_rfl, fun _ => by kernel_rfl⟩
instance : TyZ 128 (.slice none 0 0) := ⟨fun _ => by kernel_rfl⟩
instance : TySl 128 46 2 16 := ⟨Tryz.underlying128, fun _ => by kernel_rfl, by kernel_rfl⟩
instance : TyOne 131 := ⟨fun _ => by kernel_rfl, fun _ => by kernel_rfl⟩
instance : TyZ 131 (.nilFunc) := ⟨fun _ => by kernel_rfl⟩
instance : TyOne 141 := ⟨fun _ => by kernel_rfl, fun _ => by kernel_rfl⟩
instance : TyZ 141 (.nilFunc) := ⟨fun _ => by kernel_rfl⟩
instance : TyOne 150 := ⟨fun _ => by kernel_rfl, fun _ => by kernel_rfl⟩
instance : TyZ 150 (.slice none 0 0) := ⟨fun _ => by kernel_rfl⟩
instance : TySl 150 84 2 32 := ⟨Tryz.underlying150, fun _ => by kernel_rfl, by kernel_rfl⟩
instance : TyOne 153 := ⟨fun _ => by kernel_rfl, fun _ => by kernel_rfl⟩
instance : TyZ 153 (.pointer none) := ⟨fun _ => by kernel_rfl⟩
instance : TyOne 157 := ⟨fun _ => by kernel_rfl, fun _ => by kernel_rfl⟩
instance : TyZ 157 (.pointer none) := ⟨fun _ => by kernel_rfl⟩
instance : TyAgg 162 1 := ⟨fun _ => by kernel_rfl, fun _ => by kernel_rfl⟩
instance : TyZ 162 (.agg #[.nilFunc]) := ⟨fun _ => by kernel_rfl⟩
instance : TyFld 162 0 0 := ⟨fun a w => run_fieldAt_of (n := 0) Tryz.underlying162 (by kernel_rfl) a w⟩
instance : TyAgg 163 1 := ⟨fun _ => by kernel_rfl, fun _ => by kernel_rfl⟩
instance : TyZ 163 (.agg #[.nilFunc]) := ⟨fun _ => by kernel_rfl⟩
instance : TyFld 163 0 0 := ⟨fun a w => run_fieldAt_of (n := 0) Tryz.underlying163 (by kernel_rfl) a w⟩
instance : TyAgg 169 3 := ⟨fun _ => by kernel_rfl, fun _ => by kernel_rfl⟩
instance : TyZ 169 (.agg #[.int .i64 0, .int .i64 0, .int .i64 0]) := ⟨fun _ => by kernel_rfl⟩
instance : TyFld 169 0 0 := ⟨fun a w => run_fieldAt_of (n := 0) Tryz.underlying169 (by kernel_rfl) a w⟩
instance : TyFld 169 1 1 := ⟨fun a w => run_fieldAt_of (n := 1) Tryz.underlying169 (by kernel_rfl) a w⟩
instance : TyAgg 170 3 := ⟨fun _ => by kernel_rfl, fun _ => by kernel_rfl⟩
instance : TyZ 170 (.agg #[.int .i64 0, .int .i64 0, .int .i64 0]) := ⟨fun _ => by kernel_rfl⟩
instance : TyFld 170 0 0 := ⟨fun a w => run_fieldAt_of (n := 0) Tryz.underlying170 (by kernel_rfl) a w⟩
instance : TyFld 170 1 1 := ⟨fun a w => run_fieldAt_of (n := 1) Tryz.underlying170 (by kernel_rfl) a w⟩
instance : TyAgg 173 4 := ⟨fun _ => by kernel_rfl, fun _ => by kernel_rfl⟩
instance : TyZ 173 (.agg #[.int .i64 0, .int .i64 0, .int .i64 0, .int .i64 0]) := ⟨fun _ => by kernel_rfl⟩
instance : TyFld 173 0 0 := ⟨fun a w => run_fieldAt_of (n := 1) Tryz.underlying173 (by kernel_rfl) a w⟩
instance : TyFld 173 1 2 := ⟨fun a w => run_fieldAt_of (n := 0) Tryz.underlying173 (by kernel_rfl) a w⟩
instance : TyFld 173 2 3 := ⟨fun a w => run_fieldAt_of (n := 0) Tryz.underlying173 (by kernel_rfl) a w⟩
instance : TyAgg 174 4 := ⟨fun _ => by kernel_rfl, fun _ => by kernel_rfl⟩
instance : TyZ 174 (.agg #[.int .i64 0, .int .i64 0, .int .i64 0, .int .i64 0]) := ⟨fun _ => by kernel_rfl⟩
instance : TyFld 174 0 0 := ⟨fun a w => run_fieldAt_of (n := 1) Tryz.underlying174 (by kernel_rfl) a w⟩
instance : TyFld 174 1 2 := ⟨fun a w => run_fieldAt_of (n := 0) Tryz.underlying174 (by kernel_rfl) a w⟩
instance : TyFld 174 2 3 := ⟨fun a w => run_fieldAt_of (n := 0) Tryz.underlying174 (by kernel_rfl) a w⟩
instance : TyAgg 177 3 := ⟨fun _ => by kernel_rfl, fun _ => by kernel_rfl⟩
instance : TyZ 177 (.agg #[.int .i64 0, .int .i64 0, .bool false]) := ⟨fun _ => by kernel_rfl⟩
instance : TyFld 177 0 0 := ⟨fun a w => run_fieldAt_of (n := 0) Tryz.underlying177 (by kernel_rfl) a w⟩
instance : TyFld 177 1 1 := ⟨fun a w => run_fieldAt_of (n := 0) Tryz.underlying177 (by kernel_rfl) a w⟩
instance : TyFld 177 2 2 := ⟨fun a w => run_fieldAt_of (n := 0) Tryz.underlying177 (by kernel_rfl) a w⟩
instance : TyAgg 180 1 := ⟨fun _ => by kernel_rfl, fun _ => by kernel_rfl⟩
instance : TyZ 180 (.agg #[.nilFunc]) := ⟨fun _ => by kernel_rfl⟩
instance : TyFld 180 0 0 := ⟨fun a w => run_fieldAt_of (n := 0) Tryz.underlying180 (by kernel_rfl) a w⟩
instance : TyAgg 181 1 := ⟨fun _ => by kernel_rfl, fun _ => by kernel_rfl⟩
instance : TyZ 181 (.agg #[.nilFunc]) := ⟨fun _ => by kernel_rfl⟩
instance : TyFld 181 0 0 := ⟨fun a w => run_fieldAt_of (n := 0) Tryz.underlying181 (by kernel_rfl) a w⟩
instance : TyOne 183 := ⟨fun _ => by kernel_rfl, fun _ => by kernel_rfl⟩
instance : TyZ 183 (.slice none 0 0) := ⟨fun _ => by kernel_rfl⟩
instance : TySl 183 38 1 24 := ⟨Tryz.underlying183, fun _ => by kernel_rfl, by kernel_rfl⟩
instance : TyOne 185 := ⟨fun _ => by kernel_rfl, fun _ => by kernel_rfl⟩
instance : TyZ 185 (.slice none 0 0) := ⟨fun _ => by kernel_rfl⟩
instance : TySl 185 195 3 24 := ⟨Tryz.underlying185, fun _ => by kernel_rfl, by kernel_rfl⟩
instance : TyOne 186 := ⟨fun _ => by kernel_rfl, fun _ => by kernel_rfl⟩
instance : TyZ 186 (.map none) := ⟨fun _ => by kernel_rfl⟩
instance : TyMap 186 190 3 := ⟨Tryz.underlying186⟩
instance : TyAgg 187 15 := ⟨fun _ => by kernel_rfl, fun _ => by kernel_rfl⟩
instance : TyZ 187 (.agg #[.slice none 0 0, .slice none 0 0, .slice none 0 0, .int .i64 0, .int .i64 0, .slice none 0 0, .int .i64 0, .slice none 0 0, .slice none 0 0, .int .i64 0, .int .i64 0, .int .i64 0, .int .i64 0, .slice none 0 0, .map none]) := ⟨fun _ => by kernel_rfl⟩
instance : TyFld 187 0 0 := ⟨fun a w => run_fieldAt_of (n := 12) Tryz.underlying187 (by kernel_rfl) a w⟩
instance : TyFld 187 1 13 := ⟨fun a w => run_fieldAt_of (n := 0) Tryz.underlying187 (by kernel_rfl) a w⟩
instance : TyFld 187 2 14 := ⟨fun a w => run_fieldAt_of (n := 0) Tryz.underlying187 (by kernel_rfl) a w⟩
instance : TyAgg 188 15 := ⟨fun _ => by kernel_rfl, fun _ => by kernel_rfl⟩
instance : TyZ 188 (.agg #[.slice none 0 0, .slice none 0 0, .slice none 0 0, .int .i64 0, .int .i64 0, .slice none 0 0, .int .i64 0, .slice none 0 0, .slice none 0 0, .int .i64 0, .int .i64 0, .int .i64 0, .int .i64 0, .slice none 0 0, .map none]) := ⟨fun _ => by kernel_rfl⟩
instance : TyFld 188 0 0 := ⟨fun a w => run_fieldAt_of (n := 12) Tryz.underlying188 (by kernel_rfl) a w⟩
instance : TyFld 188 1 13 := ⟨fun a w => run_fieldAt_of (n := 0) Tryz.underlying188 (by kernel_rfl) a w⟩
instance : TyFld 188 2 14 := ⟨fun a w => run_fieldAt_of (n := 0) Tryz.underlying188 (by kernel_rfl) a w⟩
instance : TyAgg 189 2 := ⟨fun _ => by kernel_rfl, fun _ => by kernel_rfl⟩
instance : TyZ 189 (.agg #[.int .i64 0, .int .i64 0]) := ⟨fun _ => by kernel_rfl⟩
instance : TyFld 189 0 0 := ⟨fun a w => run_fieldAt_of (n := 0) Tryz.underlying189 (by kernel_rfl) a w⟩
instance : TyFld 189 1 1 := ⟨fun a w => run_fieldAt_of (n := 0) Tryz.underlying189 (by kernel_rfl) a w⟩
instance : TyAgg 190 2 := ⟨fun _ => by kernel_rfl, fun _ => by kernel_rfl⟩
instance : TyZ 190 (.agg #[.int .i64 0, .int .i64 0]) := ⟨fun _ => by kernel_rfl⟩
instance : TyFld 190 0 0 := ⟨fun a w => run_fieldAt_of (n := 0) Tryz.underlying190 (by kernel_rfl) a w⟩
instance : TyFld 190 1 1 := ⟨fun a w => run_fieldAt_of (n := 0) Tryz.underlying190 (by kernel_rfl) a w⟩
instance : TyOne 192 := ⟨fun _ => by kernel_rfl, fun _ => by kernel_rfl⟩
instance : TyZ 192 (.map none) := ⟨fun _ => by kernel_rfl⟩
instance : TyMap 192 195 4 := ⟨Tryz.underlying192⟩
instance : TyAgg 194 3 := ⟨fun _ => by kernel_rfl, fun _ => by kernel_rfl⟩
instance : TyZ 194 (.agg #[.int .i64 0, .int .i64 0, .int .i64 0]) := ⟨fun _ => by kernel_rfl⟩
instance : TyArr 194 3 3 1 := ⟨Tryz.underlying194, fun _ => by kernel_rfl⟩
instance : TyAgg 195 3 := ⟨fun _ => by kernel_rfl, fun _ => by kernel_rfl⟩
instance : TyZ 195 (.agg #[.int .i64 0, .int .i64 0, .int .i64 0]) := ⟨fun _ => by kernel_rfl⟩
instance : TyArr 195 3 3 1 := ⟨Tryz.underlying195, fun _ => by kernel_rfl⟩
instance : TyOne 199 := ⟨fun _ => by kernel_rfl, fun _ => by kernel_rfl⟩
instance : TyZ 199 (.nilFunc) := ⟨fun _ => by kernel_rfl⟩
instance : TyAgg 201 2 := ⟨fun _ => by kernel_rfl, fun _ => by kernel_rfl⟩
instance : TyZ 201 (.agg #[.int .i64 0, .slice none 0 0]) := ⟨fun _ => by kernel_rfl⟩
instance : TyFld 201 0 0 := ⟨fun a w => run_fieldAt_of (n := 0) Tryz.underlying201 (by kernel_rfl) a w⟩
instance : TyFld 201 1 1 := ⟨fun a w => run_fieldAt_of (n := 0) Tryz.underlying201 (by kernel_rfl) a w⟩
instance : TyOne 204 := ⟨fun _ => by kernel_rfl, fun _ => by kernel_rfl⟩
instance : TyZ 204 (.int .u64 0) := ⟨fun _ => by kernel_rfl⟩
instance : TyInt 204 .u64 := ⟨Tryz.underlying204⟩
instance : TyOne 217 := ⟨fun _ => by kernel_rfl, fun _ => by kernel_rfl⟩
instance : TyZ 217 (.slice none 0 0) := ⟨fun _ => by kernel_rfl⟩
instance : TySl 217 236 3 24 := ⟨Tryz.underlying217, fun _ => by kernel_rfl, by kernel_rfl⟩
instance : TyAgg 218 6 := ⟨fun _ => by kernel_rfl, fun _ => by kernel_rfl⟩
instance : TyZ 218 (.agg #[.int .i64 0, .int .i64 0, .slice none 0 0, .int .i64 0, .slice none 0 0, .slice none 0 0]) := ⟨fun _ => by kernel_rfl⟩
instance : TyFld 218 0 0 := ⟨fun a w => run_fieldAt_of (n := 4) Tryz.underlying218 (by kernel_rfl) a w⟩
instance : TyFld 218 1 5 := ⟨fun a w => run_fieldAt_of (n := 0) Tryz.underlying218 (by kernel_rfl) a w⟩
instance : TyAgg 219 6 := ⟨fun _ => by kernel_rfl, fun _ => by kernel_rfl⟩
instance : TyZ 219 (.agg #[.int .i64 0, .int .i64 0, .slice none 0 0, .int .i64 0, .slice none 0 0, .slice none 0 0]) := ⟨fun _ => by kernel_rfl⟩
instance : TyFld 219 0 0 := ⟨fun a w => run_fieldAt_of (n := 4) Tryz.underlying219 (by kernel_rfl) a w⟩
instance : TyFld 219 1 5 := ⟨fun a w => run_fieldAt_of (n := 0) Tryz.underlying219 (by kernel_rfl) a w⟩
instance : TyOne 220 := ⟨fun _ => by kernel_rfl, fun _ => by kernel_rfl⟩
instance : TyZ 220 (.nilFunc) := ⟨fun _ => by kernel_rfl⟩
instance : TyOne 222 := ⟨fun _ => by kernel_rfl, fun _ => by kernel_rfl⟩
instance : TyZ 222 (.map none) := ⟨fun _ => by kernel_rfl⟩
instance : TyMap 222 233 3 := ⟨Tryz.underlying222⟩
instance : TyOne 223 := ⟨fun _ => by kernel_rfl, fun _ => by kernel_rfl⟩
instance : TyZ 223 (.slice none 0 0) := ⟨fun _ => by kernel_rfl⟩
instance : TySl 223 230 5 40 := ⟨Tryz.underlying223, fun _ => by kernel_rfl, by kernel_rfl⟩
instance : TyAgg 224 5 := ⟨fun _ => by kernel_rfl, fun _ => by kernel_rfl⟩
instance : TyZ 224 (.agg #[.slice none 0 0, .slice none 0 0, .slice none 0 0, .slice none 0 0, .map none]) := ⟨fun _ => by kernel_rfl⟩
instance : TyFld 224 0 0 := ⟨fun a w => run_fieldAt_of (n := 2) Tryz.underlying224 (by kernel_rfl) a w⟩
instance : TyFld 224 1 3 := ⟨fun a w => run_fieldAt_of (n := 0) Tryz.underlying224 (by kernel_rfl) a w⟩
instance : TyFld 224 2 4 := ⟨fun a w => run_fieldAt_of (n := 0) Tryz.underlying224 (by kernel_rfl) a w⟩
instance : TyAgg 225 5 := ⟨fun _ => by kernel_rfl, fun _ => by kernel_rfl⟩
instance : TyZ 225 (.agg #[.slice none 0 0, .slice none 0 0, .slice none 0 0, .slice none 0 0, .map none]) := ⟨fun _ => by kernel_rfl⟩
instance : TyFld 225 0 0 := ⟨fun a w => run_fieldAt_of (n := 2) Tryz.underlying225 (by kernel_rfl) a w⟩
instance : TyFld 225 1 3 := ⟨fun a w => run_fieldAt_of (n := 0) Tryz.underlying225 (by kernel_rfl) a w⟩
instance : TyFld 225 2 4 := ⟨fun a w => run_fieldAt_of (n := 0) Tryz.underlying225 (by kernel_rfl) a w⟩
instance : TyOne 227 := ⟨fun _ => by kernel_rfl, fun _ => by kernel_rfl⟩
instance : TyZ 227 (.nilFunc) := ⟨fun _ => by kernel_rfl⟩
instance : TyAgg 229 5 := ⟨fun _ => by kernel_rfl, fun _ => by kernel_rfl⟩
instance : TyZ 229 (.agg #[.int .i64 0, .int .i64 0, .int .i64 0, .int .i64 0, .int .i64 0]) := ⟨fun _ => by kernel_rfl⟩
instance : TyArr 229 5 3 1 := ⟨Tryz.underlying229, fun _ => by kernel_rfl⟩
instance : TyAgg 230 5 := ⟨fun _ => by kernel_rfl, fun _ => by kernel_rfl⟩
instance : TyZ 230 (.agg #[.int .i64 0, .int .i64 0, .int .i64 0, .int .i64 0, .int .i64 0]) := ⟨fun _ => by kernel_rfl⟩
instance : TyArr 230 5 3 1 := ⟨Tryz.underlying230, fun _ => by kernel_rfl⟩
instance : TyAgg 232 2 := ⟨fun _ => by kernel_rfl, fun _ => by kernel_rfl⟩
instance : TyZ 232 (.agg #[.int .i64 0, .int .i64 0]) := ⟨fun _ => by kernel_rfl⟩
instance : TyFld 232 0 0 := ⟨fun a w => run_fieldAt_of (n := 0) Tryz.underlying232 (by kernel_rfl) a w⟩
instance : TyFld 232 1 1 := ⟨fun a w => run_fieldAt_of (n := 0) Tryz.underlying232 (by kernel_rfl) a w⟩
instance : TyAgg 233 2 := ⟨fun _ => by kernel_rfl, fun _ => by kernel_rfl⟩
instance : TyZ 233 (.agg #[.int .i64 0, .int .i64 0]) := ⟨fun _ => by kernel_rfl⟩
instance : TyFld 233 0 0 := ⟨fun a w => run_fieldAt_of (n := 0) Tryz.underlying233 (by kernel_rfl) a w⟩
instance : TyFld 233 1 1 := ⟨fun a w => run_fieldAt_of (n := 0) Tryz.underlying233 (by kernel_rfl) a w⟩
instance : TyAgg 236 3 := ⟨fun _ => by kernel_rfl, fun _ => by kernel_rfl⟩
instance : TyZ 236 (.agg #[.int .i64 0, .int .i64 0, .int .i64 0]) := ⟨fun _ => by kernel_rfl⟩
instance : TyArr 236 3 3 1 := ⟨Tryz.underlying236, fun _ => by kernel_rfl⟩
instance : TyAgg 241 4 := ⟨fun _ => by kernel_rfl, fun _ => by kernel_rfl⟩
instance : TyZ 241 (.agg #[.int .i64 0, .int .i64 0, .int .i64 0, .int .i64 0]) := ⟨fun _ => by kernel_rfl⟩
instance : TyArr 241 4 3 1 := ⟨Tryz.underlying241, fun _ => by kernel_rfl⟩
instance : TyOne 245 := ⟨fun _ => by kernel_rfl, fun _ => by kernel_rfl⟩
instance : TyZ 245 (.int .u32 0) := ⟨fun _ => by kernel_rfl⟩
instance : TyInt 245 .u32 := ⟨Tryz.underlying245⟩
instance : TyOne 248 := ⟨fun _ => by kernel_rfl, fun _ => by kernel_rfl⟩
instance : TyZ 248 (.int .u64 0) := ⟨fun _ => by kernel_rfl⟩
instance : TyInt 248 .u64 := ⟨Tryz.underlying248⟩
instance : TyOne 251 := ⟨fun _ => by kernel_rfl, fun _ => by kernel_rfl⟩
instance : TyZ 251 (.nilFunc) := ⟨fun _ => by kernel_rfl⟩
instance : TyOne 253 := ⟨fun _ => by kernel_rfl, fun _ => by kernel_rfl⟩
instance : TyZ 253 (.nilFunc) := ⟨fun _ => by kernel_rfl⟩
instance : TyOne 256 := ⟨fun _ => by kernel_rfl, fun _ => by kernel_rfl⟩
instance : TyZ 256 (.nilFunc) := ⟨fun _ => by kernel_rfl⟩
instance : TyOne 258 := ⟨fun _ => by kernel_rfl, fun _ => by kernel_rfl⟩
instance : TyZ 258 (.nilFunc) := ⟨fun _ => by kernel_rfl⟩
instance : TyOne 260 := ⟨fun _ => by kernel_rfl, fun _ => by kernel_rfl⟩
instance : TyZ 260 (.nilFunc) := ⟨fun _ => by kernel_rfl⟩
instance : TyOne 262 := ⟨fun _ => by kernel_rfl, fun _ => by kernel_rfl⟩
instance : TyZ 262 (.nilFunc) := ⟨fun _ => by kernel_rfl⟩
instance : TyOne 266 := ⟨fun _ => by kernel_rfl, fun _ => by kernel_rfl⟩
instance : TyZ 266 (.nilFunc) := ⟨fun _ => by kernel_rfl⟩
instance : TyOne 267 := ⟨fun _ => by kernel_rfl, fun _ => by kernel_rfl⟩
instance : TyZ 267 (.nilFunc) := ⟨fun _ => by kernel_rfl⟩
instance : Ent 20 := ⟨enters_f Tryz.func20 (by kernel_rfl) rfl⟩
instance : Ent 21 := ⟨enters_f Tryz.func21 (by kernel_rfl) rfl⟩
instance : Ent 22 := ⟨enters_f Tryz.func22 (by kernel_rfl) rfl⟩
instance : Ent 23 := ⟨enters_f Tryz.func23 (by kernel_rfl) rfl⟩
instance : Ent 24 := ⟨enters_f Tryz.func24 (by kernel_rfl) rfl⟩
instance : Ent 25 := ⟨enters_f Tryz.func25 (by kernel_rfl) rfl⟩
instance : Ent 26 := ⟨enters_f Tryz.func26 (by kernel_rfl) rfl⟩
instance : Ent 27 := ⟨enters_f Tryz.func27 (by kernel_rfl) rfl⟩
instance : Ent 28 := ⟨enters_f Tryz.func28 (by kernel_rfl) rfl⟩
instance : Ent 29 := ⟨enters_f Tryz.func29 (by kernel_rfl) rfl⟩
instance : Ent 30 := ⟨enters_f Tryz.func30 (by kernel_rfl) rfl⟩
instance : Ent 31 := ⟨enters_f Tryz.func31 (by kernel_rfl) rfl⟩
instance : Ent 32 := ⟨enters_f Tryz.func32 (by kernel_rfl) rfl⟩
instance : Ent 33 := ⟨enters_f Tryz.func33 (by kernel_rfl) rfl⟩
instance : Ent 34 := ⟨enters_f Tryz.func34 (by kernel_rfl) rfl⟩
instance : Ent 35 := ⟨enters_f Tryz.func35 (by kernel_rfl) rfl⟩
instance : Ent 36 := ⟨enters_f Tryz.func36 (by kernel_rfl) rfl⟩
instance : Ent 37 := ⟨enters_f Tryz.func37 (by kernel_rfl) rfl⟩
instance : Ent 38 := ⟨enters_f Tryz.func38 (by kernel_rfl) rfl⟩
instance : Ent 39 := ⟨enters_f Tryz.func39 (by kernel_rfl) rfl⟩
instance : Ent 40 := ⟨enters_f Tryz.func40 (by kernel_rfl) rfl⟩
instance : Ent 41 := ⟨enters_f Tryz.func41 (by kernel_rfl) rfl⟩
instance : Ent 42 := ⟨enters_f Tryz.func42 (by kernel_rfl) rfl⟩
instance : Ent 43 := ⟨enters_f Tryz.func43 (by kernel_rfl) rfl⟩
instance : Ent 44 := ⟨enters_f Tryz.func44 (by kernel_rfl) rfl⟩
instance : Ent 45 := ⟨enters_f Tryz.func45 (by kernel_rfl) rfl⟩
instance : Ent 46 := ⟨enters_f Tryz.func46 (by kernel_rfl) rfl⟩
instance : Ent 47 := ⟨enters_f Tryz.func47 (by kernel_rfl) rfl⟩
instance : Ent 48 := ⟨enters_f Tryz.func48 (by kernel_rfl) rfl⟩
instance : Ent 49 := ⟨enters_f Tryz.func49 (by kernel_rfl) rfl⟩
instance : Ent 50 := ⟨enters_f Tryz.func50 (by kernel_rfl) rfl⟩
instance : Ent 51 := ⟨enters_f Tryz.func51 (by kernel_rfl) rfl⟩
instance : Ent 52 := ⟨enters_f Tryz.func52 (by kernel_rfl) rfl⟩
instance : Ent 53 := ⟨enters_f Tryz.func53 (by kernel_rfl) rfl⟩
instance : Ent 54 := ⟨enters_f Tryz.func54 (by kernel_rfl) rfl⟩
instance : Ent 55 := ⟨enters_f Tryz.func55 (by kernel_rfl) rfl⟩
instance : Ent 56 := ⟨enters_f Tryz.func56 (by kernel_rfl) rfl⟩
instance : Ent 57 := ⟨enters_f Tryz.func57 (by kernel_rfl) rfl⟩
instance : Ent 58 := ⟨enters_f Tryz.func58 (by kernel_rfl) rfl⟩
instance : Ent 59 := ⟨enters_f Tryz.func59 (by kernel_rfl) rfl⟩
instance : Ent 60 := ⟨enters_f Tryz.func60 (by kernel_rfl) rfl⟩
instance : Ent 61 := ⟨enters_f Tryz.func61 (by kernel_rfl) rfl⟩
instance : Ent 62 := ⟨enters_f Tryz.func62 (by kernel_rfl) rfl⟩
instance : Ent 63 := ⟨enters_f Tryz.func63 (by kernel_rfl) rfl⟩
instance : Ent 64 := ⟨enters_f Tryz.func64 (by kernel_rfl) rfl⟩
instance : Ent 65 := ⟨enters_f Tryz.func65 (by kernel_rfl) rfl⟩
instance : Ent 66 := ⟨enters_f Tryz.func66 (by kernel_rfl) rfl⟩
instance : Ent 67 := ⟨enters_f Tryz.func67 (by kernel_rfl) rfl⟩
instance : Ent 68 := ⟨enters_f Tryz.func68 (by kernel_rfl) rfl⟩
instance : Ent 69 := ⟨enters_f Tryz.func69 (by kernel_rfl) rfl⟩
instance : Ent 70 := ⟨enters_f Tryz.func70 (by kernel_rfl) rfl⟩
instance : Ent 71 := ⟨enters_f Tryz.func71 (by kernel_rfl) rfl⟩
instance : Ent 72 := ⟨enters_f Tryz.func72 (by kernel_rfl) rfl⟩
instance : Ent 73 := ⟨enters_f Tryz.func73 (by kernel_rfl) rfl⟩
instance : Ent 74 := ⟨enters_f Tryz.func74 (by kernel_rfl) rfl⟩
instance : Ent 75 := ⟨enters_f Tryz.func75 (by kernel_rfl) rfl⟩
instance : Ent 76 := ⟨enters_f Tryz.func76 (by kernel_rfl) rfl⟩
instance : Ent 77 := ⟨enters_f Tryz.func77 (by kernel_rfl) rfl⟩
instance : Ent 78 := ⟨enters_f Tryz.func78 (by kernel_rfl) rfl⟩
instance : Ent 79 := ⟨enters_f Tryz.func79 (by kernel_rfl) rfl⟩
instance : Ent 80 := ⟨enters_f Tryz.func80 (by kernel_rfl) rfl⟩
instance : Ent 81 := ⟨enters_f Tryz.func81 (by kernel_rfl) rfl⟩
instance : Ent 82 := ⟨enters_f Tryz.func82 (by kernel_rfl) rfl⟩
instance : Ent 83 := ⟨enters_f Tryz.func83 (by kernel_rfl) rfl⟩
instance : Ent 84 := ⟨enters_f Tryz.func84 (by kernel_rfl) rfl⟩
instance : Ent 85 := ⟨enters_f Tryz.func85 (by kernel_rfl) rfl⟩
instance : Ent 86 := ⟨enters_f Tryz.func86 (by kernel_rfl) rfl⟩
instance : Ent 87 := ⟨enters_f Tryz.func87 (by kernel_rfl) rfl⟩
instance : Ent 88 := ⟨enters_f Tryz.func88 (by kernel_rfl) rfl⟩
instance : Ent 89 := ⟨enters_f Tryz.func89 (by kernel_rfl) rfl⟩
instance : Ent 90 := ⟨enters_f Tryz.func90 (by kernel_rfl) rfl⟩
instance : Ent 91 := ⟨enters_f Tryz.func91 (by kernel_rfl) rfl⟩
instance : Ent 92 := ⟨enters_f Tryz.func92 (by kernel_rfl) rfl⟩
instance : Ent 93 := ⟨enters_f Tryz.func93 (by kernel_rfl) rfl⟩
instance : Ent 94 := ⟨enters_f Tryz.func94 (by kernel_rfl) rfl⟩
instance : Ent 95 := ⟨enters_f Tryz.func95 (by kernel_rfl) rfl⟩
instance : Ent 96 := ⟨enters_f Tryz.func96 (by kernel_rfl) rfl⟩
instance : Ent 97 := ⟨enters_f Tryz.func97 (by kernel_rfl) rfl⟩
instance : Ent 98 := ⟨enters_f Tryz.func98 (by kernel_rfl) rfl⟩
instance : Ent 99 := ⟨enters_f Tryz.func99 (by kernel_rfl) rfl⟩
instance : Ent 100 := ⟨enters_f Tryz.func100 (by kernel_rfl) rfl⟩
instance : Ent 101 := ⟨enters_f Tryz.func101 (by kernel_rfl) rfl⟩
instance : Ent 102 := ⟨enters_f Tryz.func102 (by kernel_rfl) rfl⟩
instance : Ent 103 := ⟨enters_f Tryz.func103 (by kernel_rfl) rfl⟩
instance : Ent 104 := ⟨enters_f Tryz.func104 (by kernel_rfl) rfl⟩
instance : Ent 105 := ⟨enters_f Tryz.func105 (by kernel_rfl) rfl⟩
instance : Ent 106 := ⟨enters_f Tryz.func106 (by kernel_rfl) rfl⟩
instance : Ent 107 := ⟨enters_f Tryz.func107 (by kernel_rfl) rfl⟩
instance : Ent 108 := ⟨enters_f Tryz.func108 (by kernel_rfl) rfl⟩
instance : Ent 109 := ⟨enters_f Tryz.func109 (by kernel_rfl) rfl⟩
instance : Ent 110 := ⟨enters_f Tryz.func110 (by kernel_rfl) rfl⟩
instance : Ent 111 := ⟨enters_f Tryz.func111 (by kernel_rfl) rfl⟩
instance : Ent 112 := ⟨enters_f Tryz.func112 (by kernel_rfl) rfl⟩
instance : Ent 113 := ⟨enters_f Tryz.func113 (by kernel_rfl) rfl⟩
instance : Ent 114 := ⟨enters_f Tryz.func114 (by kernel_rfl) rfl⟩
instance : Ent 115 := ⟨enters_f Tryz.func115 (by kernel_rfl) rfl⟩
instance : Ent 116 := ⟨enters_f Tryz.func116 (by kernel_rfl) rfl⟩
instance : Ent 117 := ⟨enters_f Tryz.func117 (by kernel_rfl) rfl⟩
instance : Ent 118 := ⟨enters_f Tryz.func118 (by kernel_rfl) rfl⟩
instance : Ent 119 := ⟨enters_f Tryz.func119 (by kernel_rfl) rfl⟩
instance : Ent 120 := ⟨enters_f Tryz.func120 (by kernel_rfl) rfl⟩
instance : Ent 121 := ⟨enters_f Tryz.func121 (by kernel_rfl) rfl⟩
instance : Ent 122 := ⟨enters_f Tryz.func122 (by kernel_rfl) rfl⟩
instance : Ent 123 := ⟨enters_f Tryz.func123 (by kernel_rfl) rfl⟩
instance : Ent 124 := ⟨enters_f Tryz.func124 (by kernel_rfl) rfl⟩
instance : Ent 125 := ⟨enters_f Tryz.func125 (by kernel_rfl) rfl⟩
instance : Ent 126 := ⟨enters_f Tryz.func126 (by kernel_rfl) rfl⟩
instance : Ent 127 := ⟨enters_f Tryz.func127 (by kernel_rfl) rfl⟩
instance : Ent 128 := ⟨enters_f Tryz.func128 (by kernel_rfl) rfl⟩
instance : Ent 129 := ⟨enters_f Tryz.func129 (by kernel_rfl) rfl⟩
instance : Ent 130 := ⟨enters_f Tryz.func130 (by kernel_rfl) rfl⟩
instance : Ent 131 := ⟨enters_f Tryz.func131 (by kernel_rfl) rfl⟩
instance : Ent 132 := ⟨enters_f Tryz.func132 (by kernel_rfl) rfl⟩
instance : Ent 133 := ⟨enters_f Tryz.func133 (by kernel_rfl) rfl⟩
instance : Ent 134 := ⟨enters_f Tryz.func134 (by kernel_rfl) rfl⟩
instance : Ent 135 := ⟨enters_f Tryz.func135 (by kernel_rfl) rfl⟩
instance : Ent 136 := ⟨enters_f Tryz.func136 (by kernel_rfl) rfl⟩
instance : Ent 137 := ⟨enters_f Tryz.func137 (by kernel_rfl) rfl⟩
instance : Ent 138 := ⟨enters_f Tryz.func138 (by kernel_rfl) rfl⟩
instance : Ent 139 := ⟨enters_f Tryz.func139 (by kernel_rfl) rfl⟩
instance : Ent 140 := ⟨enters_f Tryz.func140 (by kernel_rfl) rfl⟩
instance : Ent 141 := ⟨enters_f Tryz.func141 (by kernel_rfl) rfl⟩
instance : Ent 142 := ⟨enters_f Tryz.func142 (by kernel_rfl) rfl⟩
instance : Ent 143 := ⟨enters_f Tryz.func143 (by kernel_rfl) rfl⟩
instance : Ent 144 := ⟨enters_f Tryz.func144 (by kernel_rfl) rfl⟩
instance : Ent 145 := ⟨enters_f Tryz.func145 (by kernel_rfl) rfl⟩
instance : Ent 146 := ⟨enters_f Tryz.func146 (by kernel_rfl) rfl⟩
instance : Ent 147 := ⟨enters_f Tryz.func147 (by kernel_rfl) rfl⟩
instance : Ent 148 := ⟨enters_f Tryz.func148 (by kernel_rfl) rfl⟩
instance : Ent 149 := ⟨enters_f Tryz.func149 (by kernel_rfl) rfl⟩
instance : Ent 150 := ⟨enters_f Tryz.func150 (by kernel_rfl) rfl⟩
instance : Ent 151 := ⟨enters_f Tryz.func151 (by kernel_rfl) rfl⟩
instance : Ent 152 := ⟨enters_f Tryz.func152 (by kernel_rfl) rfl⟩
instance : Ent 153 := ⟨enters_f Tryz.func153 (by kernel_rfl) rfl⟩
instance : Ent 154 := ⟨enters_f Tryz.func154 (by kernel_rfl) rfl⟩
instance : Ent 155 := ⟨enters_f Tryz.func155 (by kernel_rfl) rfl⟩
instance : Ent 156 := ⟨enters_f Tryz.func156 (by kernel_rfl) rfl⟩
instance : Ent 157 := ⟨enters_f Tryz.func157 (by kernel_rfl) rfl⟩
instance : Ent 158 := ⟨enters_f Tryz.func158 (by kernel_rfl) rfl⟩
instance : Ent 159 := ⟨enters_f Tryz.func159 (by kernel_rfl) rfl⟩
instance : Ent 160 := ⟨enters_f Tryz.func160 (by kernel_rfl) rfl⟩
instance : Ent 161 := ⟨enters_f Tryz.func161 (by kernel_rfl) rfl⟩
instance : Ent 162 := ⟨enters_f Tryz.func162 (by kernel_rfl) rfl⟩
instance : Ent 163 := ⟨enters_f Tryz.func163 (by kernel_rfl) rfl⟩
instance : Ent 164 := ⟨enters_f Tryz.func164 (by kernel_rfl) rfl⟩
instance : Ent 165 := ⟨enters_f Tryz.func165 (by kernel_rfl) rfl⟩
instance : Ent 166 := ⟨enters_f Tryz.func166 (by kernel_rfl) rfl⟩
instance : Ent 167 := ⟨enters_f Tryz.func167 (by kernel_rfl) rfl⟩
instance : Ent 168 := ⟨enters_f Tryz.func168 (by kernel_rfl) rfl⟩
instance : Ent 169 := ⟨enters_f Tryz.func169 (by kernel_rfl) rfl⟩
instance : Ent 170 := ⟨enters_f Tryz.func170 (by kernel_rfl) rfl⟩
instance : Ent 171 := ⟨enters_f Tryz.func171 (by kernel_rfl) rfl⟩
instance : Ent 172 := ⟨enters_f Tryz.func172 (by kernel_rfl) rfl⟩
instance : Ent 173 := ⟨enters_f Tryz.func173 (by kernel_rfl) rfl⟩
instance : Ent 174 := ⟨enters_f Tryz.func174 (by kernel_rfl) rfl⟩
instance : Ent 175 := ⟨enters_f Tryz.func175 (by kernel_rfl) rfl⟩
instance : Ent 176 := ⟨enters_f Tryz.func176 (by kernel_rfl) rfl⟩
instance : Ent 177 := ⟨enters_f Tryz.func177 (by kernel_rfl) rfl⟩
instance : Ent 178 := ⟨enters_f Tryz.func178 (by kernel_rfl) rfl⟩
instance : Ent 179 := ⟨enters_f Tryz.func179 (by kernel_rfl) rfl⟩
instance : Ent 180 := ⟨enters_f Tryz.func180 (by kernel_rfl) rfl⟩
instance : Ent 181 := ⟨enters_f Tryz.func181 (by kernel_rfl) rfl⟩
instance : Ent 182 := ⟨enters_f Tryz.func182 (by kernel_rfl) rfl⟩
instance : Ent 183 := ⟨enters_f Tryz.func183 (by kernel_rfl) rfl⟩
instance : Ent 184 := ⟨enters_f Tryz.func184 (by kernel_rfl) rfl⟩
instance : Ent 185 := ⟨enters_f Tryz.func185 (by kernel_rfl) rfl⟩
instance : Ent 186 := ⟨enters_f Tryz.func186 (by kernel_rfl) rfl⟩
instance : Ent 187 := ⟨enters_f Tryz.func187 (by kernel_rfl) rfl⟩
instance : Ent 188 := ⟨enters_f Tryz.func188 (by kernel_rfl) rfl⟩
instance : Ent 189 := ⟨enters_f Tryz.func189 (by kernel_rfl) rfl⟩
instance : Ent 190 := ⟨enters_f Tryz.func190 (by kernel_rfl) rfl⟩
instance : Ent 191 := ⟨enters_f Tryz.func191 (by kernel_rfl) rfl⟩
instance : Ent 192 := ⟨enters_f Tryz.func192 (by kernel_rfl) rfl⟩
instance : Ent 193 := ⟨enters_f Tryz.func193 (by kernel_rfl) rfl⟩
instance : Ent 194 := ⟨enters_f Tryz.func194 (by kernel_rfl) rfl⟩
instance : Ent 195 := ⟨enters_f Tryz.func195 (by kernel_rfl) rfl⟩
instance : Ent 196 := ⟨enters_f Tryz.func196 (by kernel_rfl) rfl⟩
instance : Ent 197 := ⟨enters_f Tryz.func197 (by kernel_rfl) rfl⟩
instance : Ent 198 := ⟨enters_f Tryz.func198 (by kernel_rfl) rfl⟩
instance : Ent 199 := ⟨enters_f Tryz.func199 (by kernel_rfl) rfl⟩
instance : Ent 200 := ⟨enters_f Tryz.func200 (by kernel_rfl) rfl⟩
instance : Ent 201 := ⟨enters_f Tryz.func201 (by kernel_rfl) rfl⟩
instance : Ent 202 := ⟨enters_f Tryz.func202 (by kernel_rfl) rfl⟩
instance : Ent 203 := ⟨enters_f Tryz.func203 (by kernel_rfl) rfl⟩
instance : Ent 204 := ⟨enters_f Tryz.func204 (by kernel_rfl) rfl⟩
instance : Ent 205 := ⟨enters_f Tryz.func205 (by kernel_rfl) rfl⟩
instance : Ent 206 := ⟨enters_f Tryz.func206 (by kernel_rfl) rfl⟩
instance : Ent 207 := ⟨enters_f Tryz.func207 (by kernel_rfl) rfl⟩
instance : Ent 208 := ⟨enters_f Tryz.func208 (by kernel_rfl) rfl⟩
instance : Ent 209 := ⟨enters_f Tryz.func209 (by kernel_rfl) rfl⟩
instance : Ent 210 := ⟨enters_f Tryz.func210 (by kernel_rfl) rfl⟩
instance : Ent 211 := ⟨enters_f Tryz.func211 (by kernel_rfl) rfl⟩
end Go.Proofs.YtkbaaikidhbfmaaGreat/- One operation each: what it yields where the slots and the heap are known so far. No statement is proved here. -/
set_option linter.unusedVariables false
set_option linter.unusedSimpArgs false
namespace Go.Proofs.YtkbaaikidhbfmaaGreat
open Go.RowKit

/-- Operation o yields c, in whatever world that is so; what was there stays. -/
def Ob (b0 : World) (R : Rgs) (H : Hp) (o : Oper) (fr : Slots) (c : Value) : Prop := ∀ w, SH b0 R H w → St o fr w (fun v w' => v = c ∧ Keep w w')

section
variable {b0 : World} {R : Rgs} {H : Hp} {fr : Slots} {dst : Option Nat} {ty : TypeId} {ps : String} {af : Array Edge} {g : Option (Nat × Bool)}
theorem Ob.val {o : Oper} {c : Value} (h : ∀ w, SH b0 R H w → ∀ f : Operand → Value, (∀ x v, ev fr x = some v → f x = v) → (execOp f o).run P w = .ok (.value c) w) : Ob b0 R H o fr c :=
  fun w hw => St.val (h w hw) ⟨rfl, Keep.refl w⟩
/-- An operation that only asks for its operands. -/
theorem Ob.pure {o : Oper} {c : Value} (h : ∀ w, ∀ f : Operand → Value, (∀ x v, ev fr x = some v → f x = v) → (execOp f o).run P w = .ok (.value c) w) : Ob b0 R H o fr c :=
  Ob.val fun w _ => h w

theorem Ob_move {x : Operand} {v : Value} (hx : ev fr x = some v) : Ob b0 R H ⟨dst, .move x, ty, ps, af, g⟩ fr v := .pure fun w f hf => by simp [execOp, hf x v hx]
theorem Ob_assign {x : Operand} {v : Value} (hx : ev fr x = some v) : Ob b0 R H ⟨dst, .assign x, ty, ps, af, g⟩ fr v := .pure fun w f hf => by simp [execOp, hf x v hx]
theorem Ob_pick_t {c a b : Operand} {v : Value} (hc : ev fr c = some (.bool true)) (hx : ev fr a = some v) : Ob b0 R H ⟨dst, .pick c a b, ty, ps, af, g⟩ fr v := .pure fun w f hf => by
  simp [execOp, hf c _ hc, hf a v hx, asBool]
theorem Ob_pick_f {c a b : Operand} {v : Value} (hc : ev fr c = some (.bool false)) (hx : ev fr b = some v) : Ob b0 R H ⟨dst, .pick c a b, ty, ps, af, g⟩ fr v := .pure fun w f hf => by
  simp [execOp, hf c _ hc, hf b v hx, asBool]
theorem run_bin_int {op : BinOp} {t : TypeId} {x y : Operand} {yt : TypeId} {k : IntKind} {a b : Int} {f : Operand → Value} {w : World} (hx : f x = .int k a) (hy : f y = .int k b) :
    (execOp f ⟨dst, .binOp op t x y yt, ty, ps, af, g⟩).run P w = ((binOp op t (.int k a) (.int k b)).run P w).andThen fun v w' => .ok (.value v) w' := by
  simp only [execOp, hx, hy, eqGuard]
  by_cases h : (op matches .eql | .neq) <;> simp_all [Sem.run_bind, Result.andThen] <;> cases op <;> simp_all
theorem wrap_fits {n : Int} (h0 : -9223372036854775808 ≤ n) (h1 : n ≤ 9223372036854775807) : IntKind.i64.wrap n = n := by
  have := IntWalk.i64_in n ⟨h0, h1⟩; exact this
theorem Ob_add {t yt : TypeId} {x y : Operand} {a b : Int} (hx : ev fr x = some (.int .i64 a)) (hy : ev fr y = some (.int .i64 b)) (h : -9223372036854775808 ≤ a + b ∧ a + b ≤ 9223372036854775807) :
    Ob b0 R H ⟨dst, .binOp .add t x y yt, ty, ps, af, g⟩ fr (.int .i64 (a + b)) := .pure fun w f hf => by
  rw [run_bin_int (hf x _ hx) (hf y _ hy)]; simp [binOp, Op.intArith, wrap_fits h.1 h.2, Result.andThen]
theorem Ob_sub {t yt : TypeId} {x y : Operand} {a b : Int} (hx : ev fr x = some (.int .i64 a)) (hy : ev fr y = some (.int .i64 b)) (h : -9223372036854775808 ≤ a - b ∧ a - b ≤ 9223372036854775807) :
    Ob b0 R H ⟨dst, .binOp .sub t x y yt, ty, ps, af, g⟩ fr (.int .i64 (a - b)) := .pure fun w f hf => by
  rw [run_bin_int (hf x _ hx) (hf y _ hy)]; simp [binOp, Op.intArith, wrap_fits h.1 h.2, Result.andThen]
theorem Ob_mul {t yt : TypeId} {x y : Operand} {a b : Int} (hx : ev fr x = some (.int .i64 a)) (hy : ev fr y = some (.int .i64 b)) (h : -9223372036854775808 ≤ a * b ∧ a * b ≤ 9223372036854775807) :
    Ob b0 R H ⟨dst, .binOp .mul t x y yt, ty, ps, af, g⟩ fr (.int .i64 (a * b)) := .pure fun w f hf => by
  rw [run_bin_int (hf x _ hx) (hf y _ hy)]; simp [binOp, Op.intArith, wrap_fits h.1 h.2, Result.andThen]
theorem Ob_quo {t yt : TypeId} {x y : Operand} {a b : Int} (hx : ev fr x = some (.int .i64 a)) (hy : ev fr y = some (.int .i64 b)) (h0 : 0 ≤ a) (h1 : 1 ≤ b) (h2 : a ≤ 9223372036854775807) :
    Ob b0 R H ⟨dst, .binOp .quo t x y yt, ty, ps, af, g⟩ fr (.int .i64 (a / b)) := .pure fun w f hf => by
  rw [run_bin_int (hf x _ hx) (hf y _ hy)]
  have hb : ¬ b = 0 := by omega
  have e : a.tdiv b = a / b := Int.tdiv_eq_ediv_of_nonneg h0
  have h3 : 0 ≤ a / b := Int.ediv_nonneg h0 (by omega)
  have h4 : a / b ≤ a := Int.ediv_le_self b h0
  simp [binOp, Op.intDiv, hb, e, wrap_fits (show -9223372036854775808 ≤ a / b by omega) (show a / b ≤ 9223372036854775807 by omega), Result.andThen]
theorem Ob_rem {t yt : TypeId} {x y : Operand} {k : IntKind} {a b : Int} (hx : ev fr x = some (.int k a)) (hy : ev fr y = some (.int k b)) (h0 : 0 ≤ a) (h1 : 1 ≤ b) :
    Ob b0 R H ⟨dst, .binOp .rem t x y yt, ty, ps, af, g⟩ fr (.int k (a % b)) := .pure fun w f hf => by
  rw [run_bin_int (hf x _ hx) (hf y _ hy)]
  have hb : ¬ b = 0 := by omega
  have e : a.tmod b = a % b := Int.tmod_eq_emod_of_nonneg h0
  simp [binOp, Op.intDiv, hb, e, Result.andThen]
def cmpB : BinOp → Int → Int → Option Bool
  | .eql, a, b => some (decide (a = b))
  | .neq, a, b => some (decide (a ≠ b))
  | .lss, a, b => some (decide (a < b))
  | .leq, a, b => some (decide (a ≤ b))
  | .gtr, a, b => some (decide (b < a))
  | .geq, a, b => some (decide (b ≤ a))
  | _, _, _ => none
theorem Ob_cmp {op : BinOp} {t yt : TypeId} {x y : Operand} {k : IntKind} {a b : Int} {c : Bool} (hx : ev fr x = some (.int k a)) (hy : ev fr y = some (.int k b)) (h : cmpB op a b = some c) :
    Ob b0 R H ⟨dst, .binOp op t x y yt, ty, ps, af, g⟩ fr (.bool c) := .pure fun w f hf => by
  rw [run_bin_int (hf x _ hx) (hf y _ hy)]
  cases op <;> simp only [cmpB, Option.some.injEq, reduceCtorEq] at h <;> subst h <;> simp [binOp, Op.intCmp, Result.andThen] <;> (rw [Bool.eq_iff_iff]; simp)
theorem Ob_cmpT {op : BinOp} {t yt : TypeId} {x y : Operand} {k : IntKind} {a b : Int} {p : Prop} {dp : Decidable p} (hx : ev fr x = some (.int k a)) (hy : ev fr y = some (.int k b)) (h : cmpB op a b = some (decide p)) (hp : p) :
    Ob b0 R H ⟨dst, .binOp op t x y yt, ty, ps, af, g⟩ fr (.bool true) := Ob_cmp hx hy (by rw [h, decide_eq_true hp])
theorem Ob_cmpF {op : BinOp} {t yt : TypeId} {x y : Operand} {k : IntKind} {a b : Int} {p : Prop} {dp : Decidable p} (hx : ev fr x = some (.int k a)) (hy : ev fr y = some (.int k b)) (h : cmpB op a b = some (decide p)) (hp : ¬ p) :
    Ob b0 R H ⟨dst, .binOp op t x y yt, ty, ps, af, g⟩ fr (.bool false) := Ob_cmp hx hy (by rw [h, decide_eq_false hp])
theorem Ob_not {t : TypeId} {x : Operand} {b : Bool} (hx : ev fr x = some (.bool b)) : Ob b0 R H ⟨dst, .unOp .not t x, ty, ps, af, g⟩ fr (.bool !b) := .pure fun w f hf => by
  simp [execOp, hf x _ hx, Op.unary]
theorem Ob_extract {x : Operand} {i : Nat} {vs : List Value} {v : Value} (hx : ev fr x = some (.tuple vs.toArray)) (hv : vs[i]? = some v) : Ob b0 R H ⟨dst, .extract x i, ty, ps, af, g⟩ fr v := .pure fun w f hf => by
  simp [execOp, hf x _ hx, Instr.extract, hv]
theorem Ob_nilCheck {x : Operand} {a : Addr} (hx : ev fr x = some (.pointer (some a))) : Ob b0 R H ⟨dst, .nilCheck x, ty, ps, af, g⟩ fr (.pointer (some a)) := .pure fun w f hf => by
  simp [execOp, hf x _ hx]
theorem Ob_makeFunc {fn : Go.Fn} {cs : List Operand} {vs : List Value} (hx : evs fr cs = some vs) : Ob b0 R H ⟨dst, .makeFunc fn #[] cs.toArray, ty, ps, af, g⟩ fr (.func fn #[] vs.toArray) := .pure fun w f hf => by
  have e : cs.map f = vs := by
    have : ∀ {cs : List Operand} {vs : List Value}, evs fr cs = some vs → cs.map f = vs := by
      intro cs
      induction cs with
      | nil => intro vs e; simp [evs] at e; simp [e]
      | cons x xs ih =>
        intro vs e
        simp only [evs] at e
        split at e
        · rename_i v hv
          split at e
          · rename_i us hus; cases e; simp [hf x v hv, ih hus]
          · cases e
        · cases e
    exact this hx
  simp [execOp, Instr.makeFunc, e]

/-! ### Reading memory -/
def Ld (t : TypeId) (p : Addr) (v : Value) (w : World) : Prop := (loadVar t p).run P w = .ok v w
theorem Ob_load {t : TypeId} {x : Operand} {p : Addr} {v : Value} (hx : ev fr x = some (.pointer (some p))) (hl : ∀ w, SH b0 R H w → Ld t p v w) : Ob b0 R H ⟨dst, .load t x, ty, ps, af, g⟩ fr v :=
  .val fun w hw f hf => by simp [execOp, hf x _ hx, Instr.loadAt, Instr.sureAddr, show (loadVar t p).run P w = .ok v w from hl w hw, Result.andThen]
theorem Ld.one {t : TypeId} {p : Addr} {v : Value} {w : World} [h : TyOne t] (hc : w.cell? p = some v) : Ld t p v w := by
  simp [Ld, loadVar, h.h w, Go.load, Sem.run, hc, Result.andThen]
theorem run_loadCellsFrom {w : World} {p : Addr} : ∀ (n i : Nat) (acc : Array Value) (vs : List Value), vs.length = n → (∀ j, j < n → w.cell? (p.add (i + j)) = vs[j]?) →
    (loadCellsFrom p i n acc).run P w = .ok (acc ++ vs.toArray) w
  | 0, i, acc, vs, hl, _ => by cases vs <;> simp_all [loadCellsFrom]
  | n + 1, i, acc, vs, hl, h => by
    cases vs with
    | nil => simp at hl
    | cons v vs =>
      have h0 := h 0 (by omega)
      simp at h0
      have := run_loadCellsFrom n (i + 1) (acc.push v) vs (by simpa using hl) (fun j hj => by
        have := h (j + 1) (by omega); simp at this; rw [← this]; congr 2; omega)
      simp [loadCellsFrom, Go.load, Sem.run, h0, this, Result.andThen]
theorem Ld.agg {t n : Nat} {p : Addr} {vs : List Value} {w : World} [h : TyAgg t n] (hl : vs.length = n) (hc : ∀ j, j < n → w.cell? (p.add j) = vs[j]?) : Ld t p (.agg vs.toArray) w := by
  have := run_loadCellsFrom (w := w) (p := p) n 0 #[] vs hl (fun j hj => by rw [Nat.zero_add]; exact hc j hj)
  simp [Ld, loadVar, h.h w, h.s w, loadCells, this, Result.andThen]
theorem cell_blk {w : World} {b off : Nat} {cs : List Value} {T : TypeId} {fz : Nat × Nat} (h : w.heap[b]? = some (.cells cs.toArray T fz)) : w.cell? ⟨b, off, none⟩ = cs[off]? := by
  simp [World.cell?, h]
theorem add_none (b o n : Nat) : (⟨b, o, none⟩ : Addr).add n = ⟨b, o + n, none⟩ := by
  unfold Addr.add; split
  · rename_i h; subst h; rfl
  · rfl
/-- A cell of a block of one's own. -/
theorem Ob_load_own {t : TypeId} {x : Operand} {b off : Nat} {cs : List Value} {T : TypeId} {fz : Nat × Nat} {v : Value} [TyOne t] (hx : ev fr x = some (.pointer (some ⟨b, off, none⟩)))
    (hH : (b, Obj.cells cs.toArray T fz) ∈ H) (hc : cs[off]? = some v) : Ob b0 R H ⟨dst, .load t x, ty, ps, af, g⟩ fr v :=
  Ob_load hx fun w hw => .one (by rw [cell_blk (hw.own _ hH)]; exact hc)
/-- A whole struct or array in a block of one's own. -/
theorem Ob_loads_own {t n : Nat} {x : Operand} {b off : Nat} {cs vs : List Value} {T : TypeId} {fz : Nat × Nat} [TyAgg t n] (hx : ev fr x = some (.pointer (some ⟨b, off, none⟩)))
    (hH : (b, Obj.cells cs.toArray T fz) ∈ H) (hc : (cs.drop off).take n = vs) (hl : vs.length = n) : Ob b0 R H ⟨dst, .load t x, ty, ps, af, g⟩ fr (.agg vs.toArray) :=
  Ob_load hx fun w hw => .agg hl fun j hj => by
    rw [add_none, cell_blk (hw.own _ hH), ← hc, List.getElem?_take]
    simp [hj]
theorem Ob_all_own {t n : Nat} {x : Operand} {b : Nat} {cs : List Value} {T : TypeId} {fz : Nat × Nat} [TyAgg t n] (hx : ev fr x = some (.pointer (some ⟨b, 0, none⟩)))
    (hH : (b, Obj.cells cs.toArray T fz) ∈ H) (hl : cs.length = n) : Ob b0 R H ⟨dst, .load t x, ty, ps, af, g⟩ fr (.agg cs.toArray) :=
  Ob_load hx fun w hw => .agg hl fun j hj => by rw [add_none, cell_blk (hw.own _ hH)]; simp
theorem Ob_field {t f off : Nat} {x : Operand} {b o : Nat} [h : TyFld t f off] (hx : ev fr x = some (.pointer (some ⟨b, o, none⟩))) : Ob b0 R H ⟨dst, .fieldAddr t x f, ty, ps, af, g⟩ fr (.pointer (some ⟨b, o + off, none⟩)) :=
by
  refine Ob.pure ?_
  intro w f' hf
  have e := h.h ⟨b, o, none⟩ w
  rw [add_none] at e
  have e2 := hf x _ hx
  simp only [execOp]
  rw [e2, Sem.run_bind, e]
  rfl
/-- An offset into memory that is not one's own. -/
def oo (o k : Nat) : Nat := o + k
theorem Ob_fieldo {t f off : Nat} {x : Operand} {b o k : Nat} [h : TyFld t f off] (hx : ev fr x = some (.pointer (some ⟨b, oo o k, none⟩))) : Ob b0 R H ⟨dst, .fieldAddr t x f, ty, ps, af, g⟩ fr (.pointer (some ⟨b, oo o (k + off), none⟩)) :=
by
  refine Ob.pure ?_
  intro w f' hf
  have e := h.h ⟨b, oo o k, none⟩ w
  rw [add_none, show oo o k + off = oo o (k + off) from Nat.add_assoc o k off] at e
  have e2 := hf x _ hx
  simp only [execOp]
  rw [e2, Sem.run_bind, e]
  rfl

/-! ### Data in memory -/
def Cells (G : Nat → Prop) (w : World) (A : Option Addr) (cs : List Value) : Prop := cs = [] ∨ ∃ b off, A = some ⟨b, off, none⟩ ∧ G b ∧ ∀ j, j < cs.length → w.cell? ⟨b, off + j, none⟩ = cs[j]?
/-- Slice v holds the data xs, each of sz cells. -/
structure Arr {α : Type} (G : Nat → Prop) (w : World) (sz : Nat) (enc : α → List Value) (v : Value) (xs : List α) : Prop where
  esz : ∀ x, (enc x).length = sz
  h : ∃ A c, v = .slice A xs.length c ∧ xs.length ≤ c ∧ c ≤ 9223372036854775807 ∧ Cells G w A (xs.flatMap enc)
def vb : Value → Nat | .slice (some a) _ _ => a.block | _ => 0
def vo : Value → Nat | .slice (some a) _ _ => a.off | _ => 0
def vc : Value → Nat | .slice _ _ c => c | _ => 0
theorem flatMap_at {α : Type} {enc : α → List Value} {sz : Nat} (h : ∀ x, (enc x).length = sz) : ∀ (xs : List α) (i k : Nat) (x : α), xs[i]? = some x → k < sz → (xs.flatMap enc)[i * sz + k]? = (enc x)[k]?
  | [], i, k, x, hx, _ => by simp at hx
  | y :: ys, 0, k, x, hx, hk => by
    simp at hx; subst hx
    simp only [List.flatMap_cons, Nat.zero_mul, Nat.zero_add]
    rw [List.getElem?_append_left (by rw [h]; exact hk)]
  | y :: ys, i + 1, k, x, hx, hk => by
    simp at hx
    have := flatMap_at h ys i k x hx hk
    simp only [List.flatMap_cons]
    rw [List.getElem?_append_right (by rw [h, Nat.succ_mul]; omega), h, ← this]
    congr 1
    rw [Nat.succ_mul]; omega
theorem flatMap_len {α : Type} {enc : α → List Value} {sz : Nat} (h : ∀ x, (enc x).length = sz) (xs : List α) : (xs.flatMap enc).length = xs.length * sz := by
  induction xs with
  | nil => simp
  | cons x xs ih => simp [ih, h, Nat.succ_mul, Nat.add_comm]
def encI (x : Int) : List Value := [.int .i64 x]
abbrev All : Nat → Prop := fun _ => True
/-- A slice of ints. -/
abbrev Ints (w : World) (v : Value) (xs : List Int) : Prop := Arr All w 1 encI v xs
section arr
variable {α : Type} {G : Nat → Prop} {w : World} {sz : Nat} {enc : α → List Value} {v : Value} {xs : List α}
theorem Arr.cell (h : Arr G w sz enc v xs) {i k : Nat} {x : α} (hx : xs[i]? = some x) (hk : k < sz) : w.cell? ⟨vb v, vo v + i * sz + k, none⟩ = (enc x)[k]? ∧ G (vb v) := by
  obtain ⟨A, c, rfl, hc, _, hcs⟩ := h.h
  have hi : i < xs.length := (List.getElem?_eq_some_iff.1 hx).1
  have hat := flatMap_at h.esz xs i k x hx hk
  have hlen := flatMap_len h.esz xs
  have hlt : i * sz + k < xs.length * sz := by
    have : (i + 1) * sz ≤ xs.length * sz := Nat.mul_le_mul_right sz hi
    rw [Nat.succ_mul] at this; omega
  rcases hcs with h0 | ⟨b, off, rfl, hG, hcell⟩
  · rw [h0] at hlen; simp at hlen; omega
  · refine ⟨?_, hG⟩
    have := hcell (i * sz + k) (by omega)
    simp only [vb, vo]
    rw [Nat.add_assoc, this, hat]
theorem Arr.len (h : Arr G w sz enc v xs) : ∃ A, v = .slice A xs.length (vc v) := by obtain ⟨A, c, rfl, _⟩ := h.h; exact ⟨A, rfl⟩
theorem Arr.some (h : Arr G w sz enc v xs) (h0 : 0 < xs.length) (hs : 0 < sz) : v = .slice (.some ⟨vb v, vo v, none⟩) xs.length (vc v) := by
  obtain ⟨A, c, rfl, hc, _, hcs⟩ := h.h
  rcases hcs with he | ⟨b, off, rfl, _⟩
  · have := flatMap_len h.esz xs; rw [he] at this; have h2 := Nat.mul_pos h0 hs; rw [← this] at h2; simp at h2
  · rfl
theorem Arr.bound (h : Arr G w sz enc v xs) : xs.length ≤ 9223372036854775807 := by obtain ⟨A, c, _, h1, h2, _⟩ := h.h; omega
theorem Arr.cells1 (h : Arr G w sz enc v xs) : v.cells = #[v] := by obtain ⟨A, c, rfl, _⟩ := h.h; rfl
/-- The data is still there in a world in which its blocks stand ar they stood. -/
theorem Arr.move (h : Arr G w sz enc v xs) {w' : World} (hw : ∀ b, G b → b < w.heap.size → w'.heap[b]? = w.heap[b]?) : Arr G w' sz enc v xs := by
  refine ⟨h.esz, ?_⟩
  obtain ⟨A, c, rfl, hc, hm, hcs⟩ := h.h
  refine ⟨A, c, rfl, hc, hm, ?_⟩
  rcases hcs with h0 | ⟨b, off, rfl, hG, hcell⟩
  · exact .inl h0
  · refine .inr ⟨b, off, rfl, hG, fun j hj => ?_⟩
    have h1 := hcell j hj
    have hb : b < w.heap.size := World.block_lt_of_cell? w ⟨b, off + j, none⟩ (h1.trans (List.getElem?_eq_getElem hj))
    rw [← h1]; exact World.cell?_of_block (w := w) (hw b hG hb)
theorem Arr.weaken (h : Arr G w sz enc v xs) {G' : Nat → Prop} (hG : ∀ b, G b → b < w.heap.size → G' b) : Arr G' w sz enc v xs := by
  refine ⟨h.esz, ?_⟩
  obtain ⟨A, c, rfl, hc, hm, hcs⟩ := h.h
  refine ⟨A, c, rfl, hc, hm, ?_⟩
  rcases hcs with h0 | ⟨b, off, rfl, hGb, hcell⟩
  · exact .inl h0
  · rcases Nat.eq_zero_or_pos (xs.flatMap enc).length with h0 | hp
    · exact .inl (List.length_eq_zero_iff.1 h0)
    · have h1 := hcell 0 hp
      have hb : b < w.heap.size := World.block_lt_of_cell? w ⟨b, off + 0, none⟩ (h1.trans (List.getElem?_eq_getElem hp))
      exact .inr ⟨b, off, rfl, hG b hGb hb, hcell⟩
end arr
theorem SH.arr {α : Type} {w w1 : World} {G : Nat → Prop} {sz : Nat} {enc : α → List Value} {v : Value} {xs : List α} (hw : SH b0 R H w) (hr : (G, w1) ∈ R) (h : Arr G w1 sz enc v xs) : Arr G w sz enc v xs :=
  h.move fun b hb hlt => (hw.rng _ hr).2 b hb hlt

theorem Ob_index {α : Type} {t e sz by_ : Nat} {x y : Operand} {v : Value} {k : IntKind} {i : Int} {G : Nat → Prop} {w1 : World} {enc : α → List Value} {xs : List α} [h : TySl t e sz by_]
    (hx : ev fr x = some v) (hA : Arr G w1 sz enc v xs) (hy : ev fr y = some (.int k i)) (h0 : 0 ≤ i) (h1 : i < (xs.length : Int)) (hs : 0 < sz) :
    Ob b0 R H ⟨dst, .indexAddr t x y, ty, ps, af, g⟩ fr (.pointer (some ⟨vb v, oo (vo v + i.toNat * sz) 0, none⟩)) := .pure fun w f hf => by
  have e := hA.some (by omega) hs
  simp only [execOp, hf x _ hx, hf y _ hy]
  rw [e]
  have h3 : 0 ≤ i ∧ i < (xs.length : Int) := ⟨h0, h1⟩
  simp [Instr.indexAt, asIntOf, run_underlying h.h, h.s, h3, Result.andThen, add_none, oo, vb, vo]
theorem Ob_load_arr {α : Type} {t sz : Nat} {x : Operand} {v u : Value} {m i k : Nat} {G : Nat → Prop} {w1 : World} {enc : α → List Value} {xs : List α} {a : α} [TyOne t]
    (hx : ev fr x = some (.pointer (some ⟨vb v, oo (vo v + m) k, none⟩))) (hA : Arr G w1 sz enc v xs) (hr : (G, w1) ∈ R) (hm : m = i * sz) (ha : xs[i]? = some a) (hk : k < sz) (hu : (enc a)[k]? = some u) :
    Ob b0 R H ⟨dst, .load t x, ty, ps, af, g⟩ fr u :=
  Ob_load hx fun w hw => .one (by rw [hm, show oo (vo v + i * sz) k = vo v + i * sz + k from rfl, ((hw.arr hr hA).cell ha hk).1]; exact hu)
theorem Ob_loads_arr {α : Type} {t n sz : Nat} {x : Operand} {v : Value} {m i k : Nat} {vs : List Value} {G : Nat → Prop} {w1 : World} {enc : α → List Value} {xs : List α} {a : α} [TyAgg t n]
    (hx : ev fr x = some (.pointer (some ⟨vb v, oo (vo v + m) k, none⟩))) (hA : Arr G w1 sz enc v xs) (hr : (G, w1) ∈ R) (hm : m = i * sz) (ha : xs[i]? = some a) (hk : k + n ≤ sz)
    (hu : ((enc a).drop k).take n = vs) (hl : vs.length = n) : Ob b0 R H ⟨dst, .load t x, ty, ps, af, g⟩ fr (.agg vs.toArray) :=
  Ob_load hx fun w hw => .agg hl fun j hj => by
    rw [add_none, hm, show oo (vo v + i * sz) k + j = vo v + i * sz + (k + j) from by simp [oo, Nat.add_assoc], ((hw.arr hr hA).cell ha (by omega : k + j < sz)).1, ← hu, List.getElem?_take]
    simp [hj]
theorem Ob_len {α : Type} {t e sz by_ : Nat} {x : Operand} {v : Value} {G : Nat → Prop} {w1 : World} {s : Nat} {enc : α → List Value} {xs : List α} [h : TySl t e sz by_] (hx : ev fr x = some v) (hA : Arr G w1 s enc v xs) :
    Ob b0 R H ⟨dst, .call ⟨.builtin .len, #[x], #[t]⟩, ty, ps, af, g⟩ fr (.int .i64 (xs.length : Int)) := .pure fun w f hf => by
  obtain ⟨A, e⟩ := hA.len
  simp only [execOp, resolve]
  simp [hf x _ hx]
  rw [e]
  simp [invoke, builtin, Builtin.len_, run_underlying h.h, goInt, Result.andThen]
theorem Ob_len_lit {t e sz by_ : Nat} {x : Operand} {A : Option Addr} {n c : Nat} [h : TySl t e sz by_] (hx : ev fr x = some (.slice A n c)) :
    Ob b0 R H ⟨dst, .call ⟨.builtin .len, #[x], #[t]⟩, ty, ps, af, g⟩ fr (.int .i64 (n : Int)) := .pure fun w f hf => by
  simp only [execOp, resolve]
  simp [hf x _ hx, invoke, builtin, Builtin.len_, run_underlying h.h, goInt, Result.andThen]
theorem Ob_max {x y : Operand} {ts : Array TypeId} {k : IntKind} {a b : Int} (hx : ev fr x = some (.int k a)) (hy : ev fr y = some (.int k b)) :
    Ob b0 R H ⟨dst, .call ⟨.builtin .max, #[x, y], ts⟩, ty, ps, af, g⟩ fr (.int k (max a b)) := .pure fun w f hf => by
  have e : (if b > a then b else a) = max a b := by simp only [Int.max_def]; split <;> split <;> omega
  simp [execOp, resolve, hf x _ hx, hf y _ hy, invoke, builtin, Builtin.max_, Builtin.max2, Result.andThen, e]
theorem Ob_min {x y : Operand} {ts : Array TypeId} {k : IntKind} {a b : Int} (hx : ev fr x = some (.int k a)) (hy : ev fr y = some (.int k b)) :
    Ob b0 R H ⟨dst, .call ⟨.builtin .min, #[x, y], ts⟩, ty, ps, af, g⟩ fr (.int k (min a b)) := .pure fun w f hf => by
  have e : (if b < a then b else a) = min a b := by simp only [Int.min_def]; split <;> split <;> omega
  simp [execOp, resolve, hf x _ hx, hf y _ hy, invoke, builtin, Builtin.min_, Builtin.min2, Result.andThen, e]
theorem evs_map {f : Operand → Value} (hf : ∀ x v, ev fr x = some v → f x = v) : ∀ {cs : List Operand} {vs : List Value}, evs fr cs = some vs → cs.map f = vs := by
  intro cs
  induction cs with
  | nil => intro vs e; simp [evs] at e; simp [e]
  | cons x xs ih =>
    intro vs e
    simp only [evs] at e
    split at e
    · rename_i v hv
      split at e
      · rename_i us hus; cases e; simp [hf x v hv, ih hus]
      · cases e
    · cases e
/-- A call of a function by its name; the value is known. -/
theorem St_call {f : FuncId} {ar : List Operand} {vs : List Value} {ts : Array TypeId} {w : World} {K : Value → World → Prop} [h : Ent f] (hx : evs fr ar = some vs) (hc : Rt f vs w K) :
    St ⟨dst, .call ⟨.value (.func f), ar.toArray, ts⟩, ty, ps, af, g⟩ fr w K := fun ρf hf => by
  have e := evs_map hf hx
  have e0 : ρf (.func f) = .func (.func f) #[] #[] := hf _ _ rfl
  have e1 : Array.map ρf ar.toArray = vs.toArray := by rw [← e]; simp
  simp only [execOp, resolve, e0, Deferred.ofValue, e1]
  simp [invoke, h.h, Result.andThen, Upon]
  exact hc
theorem Ob_call {f : FuncId} {ar : List Operand} {vs : List Value} {ts : Array TypeId} {c : Value} [h : Ent f] (hx : evs fr ar = some vs) (hc : ∀ w, SH b0 R H w → Rt f vs w fun v w' => v = c ∧ Keep w w') :
    Ob b0 R H ⟨dst, .call ⟨.value (.func f), ar.toArray, ts⟩, ty, ps, af, g⟩ fr c := fun w hw => St_call hx (hc w hw)
/-- A call of a function value with what it has captured. -/
theorem St_callv {f : FuncId} {x : Operand} {ar : List Operand} {vs cap : List Value} {ts : Array TypeId} {w : World} {K : Value → World → Prop} [h : Ent f] (hf0 : ev fr x = some (.func (.func f) #[] cap.toArray)) (hx : evs fr ar = some vs)
    (hc : Rt f (vs ++ cap) w K) : St ⟨dst, .call ⟨.value x, ar.toArray, ts⟩, ty, ps, af, g⟩ fr w K := fun ρf hf => by
  have e := evs_map hf hx
  have e0 := hf _ _ hf0
  have e1 : Array.map ρf ar.toArray = vs.toArray := by rw [← e]; simp
  simp only [execOp, resolve, e0, Deferred.ofValue, e1]
  simp [invoke, h.h, Result.andThen, Upon]
  exact hc
theorem Ob_callv {f : FuncId} {x : Operand} {ar : List Operand} {vs cap : List Value} {ts : Array TypeId} {c : Value} [h : Ent f] (hf0 : ev fr x = some (.func (.func f) #[] cap.toArray)) (hx : evs fr ar = some vs)
    (hc : ∀ w, SH b0 R H w → Rt f (vs ++ cap) w fun v w' => v = c ∧ Keep w w') : Ob b0 R H ⟨dst, .call ⟨.value x, ar.toArray, ts⟩, ty, ps, af, g⟩ fr c := fun w hw => St_callv hf0 hx (hc w hw)
end
theorem Ob.use {b0 : World} {R : Rgs} {H : Hp} {o : Oper} {fr : Slots} {c : Value} (h : Ob b0 R H o fr c) : ∀ w, SH b0 R H w → St o fr w (fun v w' => v = c ∧ Keep w w') := h
theorem Ob.mk {b0 : World} {R : Rgs} {H : Hp} {o : Oper} {fr : Slots} {c : Value} (h : ∀ w, SH b0 R H w → St o fr w (fun v w' => v = c ∧ Keep w w')) : Ob b0 R H o fr c := h
attribute [irreducible] Ob
end Go.Proofs.YtkbaaikidhbfmaaGreat
/- Goals without a world: code, exits and lists of operations from every world in which the heap is known so far. No statement is proved here. -/
set_option linter.unusedVariables false
set_option linter.unusedSimpArgs false
namespace Go.Proofs.YtkbaaikidhbfmaaGreat
open Go.RowKit

def GC (ρ : Option Nat) (n : Nat) (D : List Deferred) (Q : Post) (b0 : World) (R : Rgs) (H : Hp) (c : Code) (fr : Slots) : Prop := ∀ w, SH b0 R H w → C ρ n D c Q fr w
def GX (n : Nat) (D : List Deferred) (Q : Post) (b0 : World) (R : Rgs) (H : Hp) (e : Exit) (fr : Slots) : Prop := ∀ w, SH b0 R H w → QX n D Q e fr w
/-- One operation, its guard asked. -/
def StG (full : List Oper) (o : Oper) (fr : Slots) (w : World) (K : Value → World → Prop) : Prop :=
  match o.guard with
  | none => St o fr w K
  | some (j, b) => ∃ c, gval full fr j = some (.bool c) ∧ (c = b → St o fr w K) ∧ (c ≠ b → K undef w)
theorem StG.mono {full : List Oper} {o : Oper} {fr : Slots} {w : World} {K K' : Value → World → Prop} (h : StG full o fr w K) (hk : ∀ v w', K v w' → K' v w') : StG full o fr w K' := by
  unfold StG at h ⊢
  split at h
  · exact h.mono hk
  · obtain ⟨c, h1, h2, h3⟩ := h; exact ⟨c, h1, fun e => (h2 e).mono hk, fun e => hk _ _ (h3 e)⟩
abbrev Kt := Rgs → Hp → Slots → Prop
/-- One operation, from every world in which the heap is known so far; K: what follows. -/
def JO (n : Nat) (full : List Oper) (b0 : World) (R : Rgs) (H : Hp) (o : Oper) (fr : Slots) (K : Kt) : Prop :=
  (dOk n o.dst && dfr o.op) = true ∧ ∀ w, SH b0 R H w → StG full o fr w fun v w' => ∃ R' H', SH b0 R' H' w' ∧ (∀ r ∈ R, r ∈ R') ∧ K R' H' (putS fr o.dst v)
/-- A list of operations. -/
def J (n : Nat) (full : List Oper) (b0 : World) (Fin : Kt) : List Oper → Kt
  | [], R, H, fr => Fin R H fr
  | o :: rest, R, H, fr => JO n full b0 R H o fr fun R' H' fr' => J n full b0 Fin rest R' H' fr'
def JFin (n : Nat) (D : List Deferred) (Q : Post) (b0 : World) : Kt := fun R H fr => GX n D Q b0 R H .normal fr
theorem JO.op {n : Nat} {full : List Oper} {b0 : World} {R : Rgs} {H : Hp} {o : Oper} {fr : Slots} {K : Kt} {K' : Array Value → World → Prop} (h : JO n full b0 R H o fr K) {w : World} (hw : SH b0 R H w) {A : Array Value} (hA : Rep n fr A)
    (hk : ∀ R' H' fr' A' w', SH b0 R' H' w' → (∀ r ∈ R, r ∈ R') → Rep n fr' A' → K R' H' fr' → K' A' w') : OpU full o K' A w := by
  obtain ⟨hd, h⟩ := h
  rw [Bool.and_eq_true] at hd
  refine ⟨hd.2, ?_⟩
  have h1 := h w hw
  unfold StG at h1
  have go : St o fr w (fun v w' => ∃ R' H', SH b0 R' H' w' ∧ (∀ r ∈ R, r ∈ R') ∧ K R' H' (putS fr o.dst v)) → Upon (fun v w' => K' (putA A o.dst v) w') ((execOp (valA A) o).run P w) := fun h2 =>
    (h2 (valA A) (fun x v hx => hA.ev (D := []) hx)).mono fun v w' ⟨R', H', a, b, c⟩ => hk R' H' _ _ w' a b (hA.putA v hd.1) c
  unfold Region.wanted
  cases hg : o.guard with
  | none => rw [hg] at h1; simpa using go h1
  | some jb =>
    obtain ⟨j, b⟩ := jb
    rw [hg] at h1
    obtain ⟨c, hc, h2, h3⟩ := h1
    simp only [yielded_of hA hc]
    split
    · rename_i e; exact go (h2 (by simpa using e))
    · rename_i e
      obtain ⟨R', H', a, b, d⟩ := h3 (by simpa using e)
      exact hk R' H' _ _ w a b (hA.putA undef hd.1) d
theorem J.list {n : Nat} {D : List Deferred} {full : List Oper} {Q : Post} {b0 : World} : ∀ (l : List Oper) {R : Rgs} {H : Hp} {fr : Slots}, J n full b0 (JFin n D Q b0) l R H fr → ∀ w, SH b0 R H w → ∀ A, Rep n fr A → ListU full (fun A w => Q .normal ⟨A, D⟩ w) l A w
  | [], R, H, fr, h, w, hw, A, hA => h w hw A hA
  | o :: rest, R, H, fr, h, w, hw, A, hA => JO.op h hw hA fun R' H' fr' A' w' h1 _ h2 h3 => J.list rest h3 w' h1 A' h2

section
variable {ρ : Option Nat} {n : Nat} {D : List Deferred} {Q : Post} {b0 : World} {R : Rgs} {H : Hp} {fr : Slots}
theorem GC_seq {x y : Code} (h : GC ρ n D (Exit.then (fun a w => y.wpIn (FW ρ) 0 P Q a w) Q) b0 R H x fr) : GC ρ n D Q b0 R H (.seq x y) fr := fun w hw => C_seq (h w hw)
theorem GC_skip (h : GX n D Q b0 R H .normal fr) : GC ρ n D Q b0 R H .skip fr := fun w hw => C_skip (h w hw)
theorem GC_label {l : Nat} (h : GX n D Q b0 R H .normal fr) : GC ρ n D Q b0 R H (.label l) fr := fun w hw => C_label (h w hw)
theorem GC_exit {id : Nat} (h : GX n D Q b0 R H (.exit id) fr) : GC ρ n D Q b0 R H (.exit id) fr := fun w hw => C_exit (h w hw)
theorem GC_ret (h : GX n D Q b0 R H .ret fr) : GC ρ n D Q b0 R H .ret fr := fun w hw => C_ret (h w hw)
theorem GC_block {id : Nat} {c : Code} (h : GC ρ n D (Exit.inBlock id Q) b0 R H c fr) : GC ρ n D Q b0 R H (.block id c) fr := fun w hw => C_block (h w hw)
theorem GC_t {c : Operand} {x y : Code} (hc : ev fr c = some (.bool true)) (h : GC ρ n D Q b0 R H x fr) : GC ρ n D Q b0 R H (.cond c x y) fr := fun w hw => C_cond_t hc (h w hw)
theorem GC_f {c : Operand} {x y : Code} (hc : ev fr c = some (.bool false)) (h : GC ρ n D Q b0 R H y fr) : GC ρ n D Q b0 R H (.cond c x y) fr := fun w hw => C_cond_f hc (h w hw)
theorem GC_cond {c : Operand} {x y : Code} {b : Bool} (hc : ev fr c = some (.bool b)) (h1 : b = true → GC ρ n D Q b0 R H x fr) (h2 : b = false → GC ρ n D Q b0 R H y fr) : GC ρ n D Q b0 R H (.cond c x y) fr :=
  fun w hw => C_cond hc (fun h => h1 h w hw) (fun h => h2 h w hw)
theorem GC_region {id : Nat} {l : List Oper} (h : J n l b0 (JFin n D Q b0) l R H fr) : GC ρ n D Q b0 R H (.region id l.toArray false) fr := fun w hw => C_region (J.list l h w hw)
theorem GC_sub {c : Code} {fr' : Slots} (hs : Sub fr' fr) (h : GC ρ n D Q b0 R H c fr') : GC ρ n D Q b0 R H c fr := fun w hw => C_sub hs (h w hw)
theorem GC_heap {c : Code} {R' : Rgs} {H' : Hp} (hs : ∀ w, SH b0 R H w → SH b0 R' H' w) (h : GC ρ n D Q b0 R' H' c fr) : GC ρ n D Q b0 R H c fr := fun w hw => h w (hs w hw)
theorem GX_then {y : Code} {Q' : Post} (h : GC ρ n D Q b0 R H y fr) : GX n D (Exit.then (fun a w => y.wpIn (FW ρ) 0 P Q a w) Q') b0 R H .normal fr := fun w hw => QX_then (h w hw)
theorem GX_then_exit {K : Act → World → Prop} {id : Nat} (h : GX n D Q b0 R H (.exit id) fr) : GX n D (Exit.then K Q) b0 R H (.exit id) fr := h
theorem GX_then_ret {K : Act → World → Prop} (h : GX n D Q b0 R H .ret fr) : GX n D (Exit.then K Q) b0 R H .ret fr := h
theorem GX_block_normal {id : Nat} (h : GX n D Q b0 R H .normal fr) : GX n D (Exit.inBlock id Q) b0 R H .normal fr := h
theorem GX_block_ret {id : Nat} (h : GX n D Q b0 R H .ret fr) : GX n D (Exit.inBlock id Q) b0 R H .ret fr := h
theorem GX_block_here {id : Nat} (h : GX n D Q b0 R H .normal fr) : GX n D (Exit.inBlock id Q) b0 R H (.exit id) fr := fun w hw => QX_block_here (h w hw)
theorem GX_block_on {id id' : Nat} (hne : Nat.beq id' id = false) (h : GX n D Q b0 R H (.exit id') fr) : GX n D (Exit.inBlock id Q) b0 R H (.exit id') fr := fun w hw => QX_block_on hne (h w hw)

/-- Where a round of a loop ends. -/
def Lp {α : Type} (n : Nat) (D : List Deferred) (b0 : World) (m : α → Nat) (F : α → Slots) (Rf : α → Rgs) (Hf : α → Hp) (I : α → Prop) (k : Nat) : Act → World → Prop :=
  fun A w' => ∃ a', m a' < k ∧ (Rep n (F a') A.tmps ∧ A.defers = D) ∧ (I a' ∧ SH b0 (Rf a') (Hf a') w')
theorem GC_loop {c : Code} {α : Type} (m : α → Nat) (F : α → Slots) (Rf : α → Rgs) (Hf : α → Hp) (I : α → Prop) (a0 : α) (hs : Sub (F a0) fr) (h0 : I a0) (hin : ∀ w, SH b0 R H w → SH b0 (Rf a0) (Hf a0) w)
    (hstep : ∀ a, I a → GC ρ n D (Exit.then (Lp n D b0 m F Rf Hf I (m a)) Q) b0 (Rf a) (Hf a) c (F a)) : GC ρ n D Q b0 R H (.loop c) fr :=
  fun w hw => C_loop m F (fun a w => I a ∧ SH b0 (Rf a) (Hf a) w) a0 hs ⟨h0, hin w hw⟩ fun a w h => hstep a h.1 w h.2
/-- A loop that leaves the known heap as it is. -/
theorem GC_loop0 {c : Code} {α : Type} (m : α → Nat) (F : α → Slots) (I : α → Prop) (a0 : α) (hs : Sub (F a0) fr) (h0 : I a0)
    (hstep : ∀ a, I a → GC ρ n D (Exit.then (Lp n D b0 m F (fun _ => R) (fun _ => H) I (m a)) Q) b0 R H c (F a)) : GC ρ n D Q b0 R H (.loop c) fr :=
  GC_loop m F (fun _ => R) (fun _ => H) I a0 hs h0 (fun _ h => h) hstep
theorem GX_loop {α : Type} {m : α → Nat} {F : α → Slots} {Rf : α → Rgs} {Hf : α → Hp} {I : α → Prop} {k : Nat} (a' : α) (hs : Sub (F a') fr) (hm : m a' < k) (hI : I a') (hH : ∀ w, SH b0 R H w → SH b0 (Rf a') (Hf a') w) :
    GX n D (Exit.then (Lp n D b0 m F Rf Hf I k) Q) b0 R H .normal fr :=
  fun w hw A hA => ⟨a', hm, ⟨hA.sub hs, rfl⟩, hI, hH w hw⟩

theorem GX_loop0 {α : Type} {m : α → Nat} {F : α → Slots} {I : α → Prop} {k : Nat} (a' : α) (hs : Sub (F a') fr) (hm : m a' < k) (hI : I a') :
    GX n D (Exit.then (Lp n D b0 m F (fun _ => R) (fun _ => H) I k) Q) b0 R H .normal fr := GX_loop a' hs hm hI (fun _ h => h)

/-! ### One operation -/
variable {full : List Oper} {K : Kt}
theorem J_nil {Fin : Kt} (h : Fin R H fr) : J n full b0 Fin [] R H fr := h
theorem J_op {Fin : Kt} {o : Oper} {rest : List Oper} (h : JO n full b0 R H o fr (J n full b0 Fin rest)) : J n full b0 Fin (o :: rest) R H fr := h
theorem JO_ob {d : Nat} {op : Op} {ty : TypeId} {ps : String} {af : Array Edge} {c : Value} (hn : (Nat.blt d n && dfr op) = true) (ho : Ob b0 R H ⟨some d, op, ty, ps, af, none⟩ fr c)
    (h : K R H ((d, c) :: fr)) : JO n full b0 R H ⟨some d, op, ty, ps, af, none⟩ fr K :=
  ⟨hn, fun w hw => (ho.use w hw).mono fun v w' ⟨e, k⟩ => ⟨R, H, hw.keep k, fun r h => h, by subst e; exact h⟩⟩
theorem JO_yes {d : Option Nat} {op : Op} {ty : TypeId} {ps : String} {af : Array Edge} {j : Nat} {b : Bool} (hj : gval full fr j = some (.bool b))
    (h : JO n full b0 R H ⟨d, op, ty, ps, af, none⟩ fr K) : JO n full b0 R H ⟨d, op, ty, ps, af, some (j, b)⟩ fr K :=
  ⟨h.1, fun w hw => ⟨b, hj, fun _ => h.2 w hw, fun e => absurd rfl e⟩⟩
theorem JO_no {d : Option Nat} {op : Op} {ty : TypeId} {ps : String} {af : Array Edge} {j : Nat} {b : Bool} (hj : gval full fr j = some (.bool !b)) (hd : (dOk n d && dfr op) = true)
    (h : K R H (putS fr d undef)) : JO n full b0 R H ⟨d, op, ty, ps, af, some (j, b)⟩ fr K :=
  ⟨hd, fun w hw => ⟨!b, hj, fun e => absurd e (by cases b <;> decide), fun _ => ⟨R, H, hw, fun r h => h, h⟩⟩⟩
/-- A comparison that is not decided: both ways. -/
theorem JO_cmp {d : Nat} {op : BinOp} {t yt ty : TypeId} {x y : Operand} {ps : String} {af : Array Edge} {k : IntKind} {a b : Int} {p : Prop} [Decidable p] (hn : Nat.blt d n = true) (hx : ev fr x = some (.int k a)) (hy : ev fr y = some (.int k b))
    (hc : cmpB op a b = some (decide p)) (h1 : p → K R H ((d, .bool true) :: fr)) (h2 : ¬ p → K R H ((d, .bool false) :: fr)) :
    JO n full b0 R H ⟨some d, .binOp op t x y yt, ty, ps, af, none⟩ fr K := by
  by_cases hp : p
  · refine JO_ob (op := .binOp op t x y yt) (c := .bool true) ?_ ?_ (h1 hp)
    · rw [Bool.and_eq_true]; exact ⟨hn, rfl⟩
    · refine Ob_cmp hx hy ?_
      rw [hc, decide_eq_true hp]
  · refine JO_ob (op := .binOp op t x y yt) (c := .bool false) ?_ ?_ (h2 hp)
    · rw [Bool.and_eq_true]; exact ⟨hn, rfl⟩
    · refine Ob_cmp hx hy ?_
      rw [hc, decide_eq_false hp]

def oneCell : Value → Bool | .agg _ => false | .tuple _ => false | _ => true
/-- A value of one cell. -/
class V1 (v : Value) : Prop where
  o : oneCell v = true
instance {k : IntKind} {a : Int} : V1 (.int k a) := ⟨rfl⟩
instance {b : Bool} : V1 (.bool b) := ⟨rfl⟩
instance {A : Option Addr} {n c : Nat} : V1 (.slice A n c) := ⟨rfl⟩
instance {A : Option Addr} : V1 (.pointer A) := ⟨rfl⟩
instance {m : Option Nat} : V1 (.map m) := ⟨rfl⟩
instance {f : Fn} {a b : Array Value} : V1 (.func f a b) := ⟨rfl⟩
instance : V1 .nilFunc := ⟨rfl⟩
class VA (cs : List Value) : Prop where
  o : cs.all oneCell = true
instance : VA [] := ⟨rfl⟩
instance {v : Value} {cs : List Value} [h : V1 v] [k : VA cs] : VA (v :: cs) := ⟨by simp [h.o, k.o]⟩
instance {xs ys : List Value} [h : VA xs] [k : VA ys] : VA (xs ++ ys) := ⟨by rw [List.all_append, h.o, k.o]; rfl⟩
/-- The cells of a value. -/
class VC (v : Value) (cs : outParam (List Value)) : Prop where
  h : v.cells = cs.toArray
  o : cs.all oneCell = true
instance (priority := low) {v : Value} [h : V1 v] : VC v [v] := ⟨by have := h.o; cases v <;> first | rfl | simp [oneCell] at this, by simp [h.o]⟩
instance {cs : List Value} [h : VA cs] : VC (.agg cs.toArray) cs := ⟨rfl, h.o⟩
theorem dOk_some {n d : Nat} (h : Nat.blt d n = true) : dOk n (some d) = true := h
theorem run_newVar {t : TypeId} {v : Value} {w : World} : (newVar t v).run P w = .ok ⟨w.heap.size, 0, none⟩ { w with heap := w.heap.push (.cells v.cells t) } := by
  simp [newVar, newRow, newObj, Sem.run, Result.andThen]
/-- A new variable: its zero value. -/
theorem JO_alloc {d : Nat} {t ty : TypeId} {ps : String} {af : Array Edge} {z : Value} {cs : List Value} [hz : TyZ t z] (hd : Nat.blt d n = true) (hc : VC z cs)
    (h : ∀ b, K R ((b, .cells cs.toArray t) :: H) ((d, .pointer (some ⟨b, 0, none⟩)) :: fr)) : JO n full b0 R H ⟨some d, .alloc t, ty, ps, af, none⟩ fr K := ⟨by rw [Bool.and_eq_true]; exact ⟨hd, rfl⟩, fun w hw => by
  have hk := h w.heap.size
  have e0 := hz.h w
  intro f hf
  have e1 : (execOp f { dst := some d, op := Op.alloc t, type := ty, pos := ps, after := af, guard := none }).run P w = .ok (.value (.pointer (some ⟨w.heap.size, 0, none⟩))) { w with heap := w.heap.push (.cells cs.toArray t) } := by
    simp only [execOp, Instr.alloc]
    simp only [Sem.run_bind, e0, Result.andThen, run_newVar, Sem.run_pure, hc.h]
  rw [e1]
  exact ⟨R, _, hw.new _, fun r h => h, hk⟩⟩
/-- A variable that begins with a value. -/
theorem JO_box {d : Nat} {t ty : TypeId} {x : Operand} {ps : String} {af : Array Edge} {v : Value} {cs : List Value} (hd : Nat.blt d n = true) (hx : ev fr x = some v) (hc : VC v cs)
    (h : ∀ b, K R ((b, .cells cs.toArray t) :: H) ((d, .pointer (some ⟨b, 0, none⟩)) :: fr)) : JO n full b0 R H ⟨some d, .box t x, ty, ps, af, none⟩ fr K := ⟨by rw [Bool.and_eq_true]; exact ⟨hd, rfl⟩, fun w hw => by
  have hk := h w.heap.size
  intro f hf
  have e1 : (execOp f { dst := some d, op := Op.box t x, type := ty, pos := ps, after := af, guard := none }).run P w = .ok (.value (.pointer (some ⟨w.heap.size, 0, none⟩))) { w with heap := w.heap.push (.cells cs.toArray t) } := by
    simp only [execOp, Instr.box, hf x v hx]
    simp only [Sem.run_bind, Result.andThen, run_newVar, Sem.run_pure, hc.h]
  rw [e1]
  exact ⟨R, _, hw.new _, fun r h => h, hk⟩⟩
/-- A store into a block of one's own. -/
def splice (cs : List Value) (off : Nat) : List Value → List Value
  | [] => cs
  | v :: vs => splice (cs.set off v) (off + 1) vs
theorem splice_length (cs : List Value) (off : Nat) (vs : List Value) : (splice cs off vs).length = cs.length := by
  induction vs generalizing cs off with
  | nil => rfl
  | cons v vs ih => simp [splice, ih]
theorem run_storeCells {b : Nat} {T : TypeId} : ∀ (vs : List Value) (cs : List Value) (off i : Nat) (w : World), w.heap[b]? = some (.cells cs.toArray T (0, 0)) → off + i + vs.length ≤ cs.length → vs.all oneCell = true →
    ∃ w', (storeCells ⟨b, off, none⟩ vs i).run P w = .ok () w' ∧ w'.os = w.os ∧ w'.tape = w.tape ∧ w'.output = w.output ∧ w'.heap.size = w.heap.size ∧ (∀ k, k ≠ b → w'.heap[k]? = w.heap[k]?) ∧
      w'.heap[b]? = some (.cells (splice cs (off + i) vs).toArray T (0, 0))
  | [], cs, off, i, w, hb, _, _ => ⟨w, rfl, rfl, rfl, rfl, rfl, fun _ _ => rfl, hb⟩
  | v :: vs, cs, off, i, w, hb, hl, ho => by
    simp only [List.all_cons, Bool.and_eq_true] at ho
    have hlt : off + i < cs.length := by simp at hl; omega
    have hc : w.cell? ⟨b, off + i, none⟩ = some cs[off + i] := by rw [cell_blk hb, List.getElem?_eq_getElem hlt]
    have hfz : w.frozen? ⟨b, off + i, none⟩ = false := by simp [World.frozen?, hb]
    have hblt : b < w.heap.size := (Array.getElem?_eq_some_iff.1 hb).1
    have hb' : (w.setCell ⟨b, off + i, none⟩ v).heap[b]? = some (.cells (cs.set (off + i) v).toArray T (0, 0)) := by
      have hg : w.heap[b] = .cells cs.toArray T (0, 0) := by have := (Array.getElem?_eq_some_iff.1 hb).2; exact this
      simp [World.setCell, Array.getElem?_modify, hb]
    obtain ⟨w', h1, h2, h3, h4, h5, h6, h7⟩ := run_storeCells vs (cs.set (off + i) v) off (i + 1) (w.setCell ⟨b, off + i, none⟩ v) hb' (by simp at hl ⊢; omega) ho.2
    have hs : (Go.store (⟨b, off + i, none⟩ : Addr) v).run P w = .ok () (w.setCell ⟨b, off + i, none⟩ v) := by
      cases v <;> simp [oneCell] at ho <;> simp [Go.store, Sem.run, hc, hfz]
    refine ⟨w', ?_, h2, h3, h4, by rw [h5]; simp [World.setCell], fun k hk => ?_, ?_⟩
    · simp only [storeCells, add_none, Sem.run_bind, hs, Result.andThen, h1]
    · rw [h6 k hk, Below.heap_setCell _ _ _ _ hk]
    · rw [h7]; simp [splice, Nat.add_assoc]
/-- How many cells a type has. -/
class TySz (t : Nat) (n : outParam Nat) : Prop where
  s : ∀ w : World, (sizeOf t).run P w = .ok n w
instance {t : Nat} [h : TyOne t] : TySz t 1 := ⟨h.s⟩
instance {t n : Nat} [h : TyAgg t n] : TySz t n := ⟨h.s⟩
theorem JO_store {t ty : TypeId} {x y : Operand} {ps : String} {af : Array Edge} {b off i m : Nat} {v : Value} {vs cs cs' : List Value} {T : TypeId} [hsz : TySz t m]
    (hx : ev fr x = some (.pointer (some ⟨b, off, none⟩))) (hy : ev fr y = some v) (hi : H[i]? = some (b, .cells cs.toArray T)) (hc : VC v vs) (hl : vs.length = m) (hof : Nat.ble (off + m) cs.length = true)
    (hs : splice cs off vs = cs') (h : K R (setH H i (.cells cs'.toArray T)) fr) : JO n full b0 R H ⟨none, .store t x y, ty, ps, af, none⟩ fr K := ⟨rfl, fun w hw => by
  have hb := hw.own _ (List.mem_of_getElem? hi)
  obtain ⟨w', h1, h2, h3, h4, h5, h6, h7⟩ := run_storeCells vs cs off 0 w hb (by have := Nat.le_of_ble_eq_true hof; omega) hc.o
  refine St.skip (w' := w') (fun f hf => ?_) ?_
  · simp [execOp, hf x _ hx, hf y _ hy, Instr.storeAt, Instr.sureAddr, storeVar, hsz.s, hc.h, hl, h1, Result.andThen]
  · subst hs
    exact ⟨R, _, hw.upd hi h2 h3 h4 (by omega) (fun k _ hk => h6 k hk) h7, fun r h => h, h⟩⟩
/-- A call whose value is described, and its memory. -/
theorem JO_call {d : Nat} {f : FuncId} {ar : List Operand} {vs : List Value} {ts : Array TypeId} {ty : TypeId} {ps : String} {af : Array Edge} {S : World → Value → World → Prop} [hE : Ent f] (hd : Nat.blt d n = true) (hx : evs fr ar = some vs)
    (hc : ∀ w, SH b0 R H w → Rt f vs w fun v w' => Keep w w' ∧ S w v w')
    (h : ∀ v w0 w1, SH b0 R H w0 → SH b0 R H w1 → Keep w0 w1 → S w0 v w1 → K (((fun b => w0.heap.size ≤ b), w1) :: R) H ((d, v) :: fr)) :
    JO n full b0 R H ⟨some d, .call ⟨.value (.func f), ar.toArray, ts⟩, ty, ps, af, none⟩ fr K := ⟨by rw [Bool.and_eq_true]; exact ⟨hd, rfl⟩, fun w hw => by
  refine St_call hx ((hc w hw).mono ?_)
  rintro v w' ⟨hk, hs⟩
  have hw' := hw.keep hk
  exact ⟨_, H, hw'.add _ fun p hp hlt => by have := hw.lt hp; omega, fun r hr => .tail _ hr, h v w w' hw hw' hk hs⟩⟩
end

/-! ### Functions -/
def argS : Nat → List Value → Slots
  | _, [] => []
  | k, v :: vs => (k, v) :: argS (k + 1) vs
theorem look_argS : ∀ (vs : List Value) (k t : Nat) (v : Value), look (argS k vs) t = some v → k ≤ t ∧ vs[t - k]? = some v
  | [], k, t, v, h => by simp [argS, look] at h
  | u :: us, k, t, v, h => by
    simp only [argS, look_cons] at h
    split at h
    · rename_i e; subst e; cases h; simp
    · rename_i e
      obtain ⟨h1, h2⟩ := look_argS us (k + 1) t v h
      refine ⟨by omega, ?_⟩
      rw [show t - k = (t - (k + 1)) + 1 by omega]; simpa using h2
theorem Rep_args {n : Nat} {vs : List Value} (hn : Nat.ble vs.length n = true) : Rep n (argS 0 vs) (vs.toArray ++ Array.replicate (n - vs.toArray.size) undef) := by
  have hn' : vs.length ≤ n := by simpa using hn
  refine ⟨by simp; omega, fun t v h => ?_⟩
  obtain ⟨_, h2⟩ := look_argS vs 0 t v h
  have hlt : t < vs.length := by
    have := (List.getElem?_eq_some_iff.1 h2).1; omega
  simp only [Nat.sub_zero] at h2
  simp only [Array.getD_eq_getD_getElem?]
  rw [Array.getElem?_append_left (by simpa using hlt)]
  simp [h2]
/-- What is asked where a function returns. -/
abbrev RetQ (fn : Func) (S : Value → World → Prop) : Post := bodyPost P fn fun e w' => ∃ v, e = .returned v ∧ S v w'
theorem Rt_of {f n : Nat} {fn : Func} {c : Code} {vs : List Value} {w : World} {S : Value → World → Prop} (hf : P.funcs[f]? = some fn) (hb : fn.body = some c) (hnt : fn.ntmps = n) (hn : Nat.ble vs.length n = true)
    (h : GC none n [] (RetQ fn S) w [((fun _ => True), w)] [] c (argS 0 vs)) : Rt f vs w S := by
  refine callsIn_of_wp hf hb trivial ?_ rfl
  rw [hnt]
  exact h w (SH.start w) _ (Rep_args hn)
/-- The results' slots, one by one. -/
def RVs (fr : Slots) (w : World) : List ResultVar → List Value → Prop
  | [], [] => True
  | .tmp t :: rs, v :: vs => look fr t = some v ∧ RVs fr w rs vs
  | .cell a t :: rs, v :: vs => (∃ p, look fr a = some (.pointer (some p)) ∧ Ld t p v w) ∧ RVs fr w rs vs
  | _, _ => False
theorem run_results {fr : Slots} {w : World} {n : Nat} {A : Array Value} (hA : Rep n fr A) (q : ResultVar → Sem Value) (h1 : ∀ t, q (.tmp t) = pure (A.getD t undef)) (h2 : ∀ a t, q (.cell a t) = (do loadVar t (← asAddr (A.getD a undef)))) :
    ∀ {rs : List ResultVar} {vs : List Value}, RVs fr w rs vs → (rs.mapM q).run P w = .ok vs w
  | [], [], _ => by simp
  | .tmp t :: rs, v :: vs, h => by
    have ih := run_results hA q h1 h2 h.2
    rw [List.mapM_cons]
    simp only [Sem.run_bind, h1, Sem.run_pure, hA.at_ t v h.1, ih, Result.andThen]
  | .cell a t :: rs, v :: vs, h => by
    have ih := run_results hA q h1 h2 h.2
    obtain ⟨p, hp, hl⟩ := h.1
    have ha : (asAddr (.pointer (some p))).run P w = .ok p w := rfl
    rw [List.mapM_cons]
    simp only [Sem.run_bind, h2, Sem.run_pure, hA.at_ a _ hp, ha, show (loadVar t p).run P w = .ok v w from hl, ih, Result.andThen]
  | [], _ :: _, h => h.elim
  | .tmp _ :: _, [], h => h.elim
  | .cell _ _ :: _, [], h => h.elim
def resV : List Value → Value | [v] => v | vs => .tuple vs.toArray
theorem GX_ret {n : Nat} {fn : Func} {S : Value → World → Prop} {b0 : World} {R : Rgs} {H : Hp} {fr : Slots} {rs : List ResultVar} {vs : List Value} (hr : fn.results = rs.toArray)
    (hv : ∀ w, SH b0 R H w → RVs fr w rs vs ∧ S (resV vs) w) : GX n [] (RetQ fn S) b0 R H .ret fr := fun w hw A hA => by
  obtain ⟨h1, h2⟩ := hv w hw
  refine ⟨rfl, resV vs, ?_, _, rfl, h2⟩
  simp only [results, hr]
  rw [Sem.run_bind, List.mapM_toArray, Sem.run_map, run_results hA _ (fun _ => rfl) (fun _ _ => rfl) h1]
  match vs with
  | [] => rfl
  | [v] => rfl
  | v :: u :: r => simp [Result.andThen, resV]
theorem GX_ret1 {n : Nat} {fn : Func} {S : Value → World → Prop} {b0 : World} {R : Rgs} {H : Hp} {fr : Slots} {t : Tmp} {v : Value} (hr : fn.results = #[.tmp t]) (hv : look fr t = some v)
    (hS : ∀ w, SH b0 R H w → S v w) : GX n [] (RetQ fn S) b0 R H .ret fr := GX_ret (rs := [.tmp t]) (vs := [v]) hr fun w hw => ⟨⟨hv, trivial⟩, hS w hw⟩
theorem GX_ret2 {n : Nat} {fn : Func} {S : Value → World → Prop} {b0 : World} {R : Rgs} {H : Hp} {fr : Slots} {t u : Tmp} {v x : Value} (hr : fn.results = #[.tmp t, .tmp u]) (hv : look fr t = some v) (hx : look fr u = some x)
    (hS : ∀ w, SH b0 R H w → S (.tuple #[v, x]) w) : GX n [] (RetQ fn S) b0 R H .ret fr := GX_ret (rs := [.tmp t, .tmp u]) (vs := [v, x]) hr fun w hw => ⟨⟨hv, hx, trivial⟩, hS w hw⟩
theorem GX_retc {n : Nat} {fn : Func} {S : Value → World → Prop} {b0 : World} {R : Rgs} {H : Hp} {fr : Slots} {t : Tmp} {ty : TypeId} {m b : Nat} {cs : List Value} {T : TypeId} {fz : Nat × Nat} [TyAgg ty m] (hr : fn.results = #[.cell t ty])
    (hv : look fr t = some (.pointer (some ⟨b, 0, none⟩))) (hH : (b, Obj.cells cs.toArray T fz) ∈ H) (hl : cs.length = m) (hS : ∀ w, SH b0 R H w → S (.agg cs.toArray) w) : GX n [] (RetQ fn S) b0 R H .ret fr :=
  GX_ret (rs := [.cell t ty]) (vs := [.agg cs.toArray]) hr fun w hw => ⟨⟨⟨_, hv, Ld.agg hl fun j hj => by rw [add_none, cell_blk (hw.own _ hH)]; simp⟩, trivial⟩, hS w hw⟩
/-- A call that returns just c, and leaves what was there. -/
abbrev Ex (f : FuncId) (args : List Value) (w : World) (c : Value) : Prop := Rt f args w fun v w' => v = c ∧ Keep w w'
theorem GX_ex {n : Nat} {fn : Func} {b0 : World} {R : Rgs} {H : Hp} {fr : Slots} {t : Tmp} {v c : Value} (hr : fn.results = #[.tmp t]) (hv : look fr t = some v) (hm : ((fun _ => True), b0) ∈ R) (hc : v = c) :
    GX n [] (RetQ fn fun v w' => v = c ∧ Keep b0 w') b0 R H .ret fr := GX_ret1 hr hv fun w hw => ⟨hc, hw.below rfl hm (fun _ => trivial) rfl⟩
theorem GX_exc {n : Nat} {fn : Func} {c : Value} {b0 : World} {R : Rgs} {H : Hp} {fr : Slots} {t : Tmp} {ty : TypeId} {m b : Nat} {cs : List Value} {T : TypeId} {fz : Nat × Nat} [TyAgg ty m] (hr : fn.results = #[.cell t ty])
    (hv : look fr t = some (.pointer (some ⟨b, 0, none⟩))) (hH : (b, Obj.cells cs.toArray T fz) ∈ H) (hl : cs.length = m) (hm : ((fun _ => True), b0) ∈ R) (hc : .agg cs.toArray = c) :
    GX n [] (RetQ fn fun v w' => v = c ∧ Keep b0 w') b0 R H .ret fr := GX_retc hr hv hH hl fun w hw => ⟨hc, hw.below rfl hm (fun _ => trivial) rfl⟩
theorem SH.kp {b0 : World} {R : Rgs} {H : Hp} {w : World} (h : SH b0 R H w) (hr : ((fun _ => True), b0) ∈ R) : Keep b0 w := h.below rfl hr (fun _ => trivial) rfl
theorem GC.use {ρ : Option Nat} {n : Nat} {D : List Deferred} {Q : Post} {b0 : World} {R : Rgs} {H : Hp} {c : Code} {fr : Slots} (h : GC ρ n D Q b0 R H c fr) : ∀ w, SH b0 R H w → C ρ n D c Q fr w := h
theorem GC.mk {ρ : Option Nat} {n : Nat} {D : List Deferred} {Q : Post} {b0 : World} {R : Rgs} {H : Hp} {c : Code} {fr : Slots} (h : ∀ w, SH b0 R H w → C ρ n D c Q fr w) : GC ρ n D Q b0 R H c fr := h
theorem GX.use {n : Nat} {D : List Deferred} {Q : Post} {b0 : World} {R : Rgs} {H : Hp} {e : Exit} {fr : Slots} (h : GX n D Q b0 R H e fr) : ∀ w, SH b0 R H w → QX n D Q e fr w := h
theorem GX.mk {n : Nat} {D : List Deferred} {Q : Post} {b0 : World} {R : Rgs} {H : Hp} {e : Exit} {fr : Slots} (h : ∀ w, SH b0 R H w → QX n D Q e fr w) : GX n D Q b0 R H e fr := h
theorem JO.mk {n : Nat} {full : List Oper} {b0 : World} {R : Rgs} {H : Hp} {o : Oper} {fr : Slots} {K : Kt} (h1 : (dOk n o.dst && dfr o.op) = true) (h : ∀ w, SH b0 R H w → StG full o fr w fun v w' => ∃ R' H', SH b0 R' H' w' ∧ (∀ r ∈ R, r ∈ R') ∧ K R' H' (putS fr o.dst v)) : JO n full b0 R H o fr K := ⟨h1, h⟩
attribute [irreducible] GC GX JO J
end Go.Proofs.YtkbaaikidhbfmaaGreat
/- A region whose order of evaluation is open: one walk in the order of the text serves every order. No statement is proved here. -/
set_option linter.unusedVariables false
set_option linter.unusedSimpArgs false
namespace Go.Proofs.YtkbaaikidhbfmaaGreat
open Go.RowKit

theorem mixed : P.follows .mixedOrders = true := by kernel_rfl
abbrev Fact := Value → World → Prop
abbrev Rel := List (Nat × Fact)
def lkN : Rel → Nat → Option Fact
  | [], _ => none
  | (d, p) :: r, t => if t = d then some p else lkN r t
def nsl (N : Rel) (u : Nat → Value) : Slots := N.map fun p => (p.1, u p.1)
theorem look_nsl (N : Rel) (u : Nat → Value) (V : Slots) (t : Nat) : look (nsl N u ++ V) t = (match lkN N t with | some _ => some (u t) | none => look V t) := by
  induction N with
  | nil => rfl
  | cons p r ih =>
    obtain ⟨d, q⟩ := p
    have e : nsl ((d, q) :: r) u ++ V = (d, u d) :: (nsl r u ++ V) := rfl
    rw [e, look_cons, lkN]
    split
    · rename_i h; subst h; rfl
    · exact ih
/-- What a fact needs, to be true later on as well. -/
def Stab (p : Fact) : Prop := ∀ v w w', p v w → Keep w w' → p v w'
theorem Stab.eq (c : Value) : Stab (fun v _ => v = c) := fun _ _ _ h _ => h
def reads (full : List Oper) (o : Oper) : List Nat := o.looksAt full.toArray
def DOb (full : List Oper) (SS : World → Prop) (o : Oper) (V : Slots) (N : Rel) (p : Fact) : Prop :=
  ∀ w u, SS w → (∀ t q, lkN N t = some q → t ∈ reads full o → q (u t) w) → StG full o (nsl N u ++ V) w (fun v w' => Keep w w' ∧ p v w')
def DR (full : List Oper) (SS : World → Prop) : List Nat → Slots → Rel → (Slots → Rel → Prop) → Prop
  | [], V, N, Fin => Fin V N
  | i :: rest, V, N, Fin => ∃ o, full[i]? = some o ∧ ∃ d, o.dst = some d ∧ ((∃ c, DOb full SS o V N (fun v _ => v = c) ∧ DR full SS rest ((d, c) :: V) N Fin) ∨
      (∃ p, Stab p ∧ DOb full SS o V N p ∧ DR full SS rest V ((d, p) :: N) Fin))
/-- Those that may come late: exact values alone. -/
def DX (full : List Oper) (SS : World → Prop) : List Nat → Slots → Rel → (Slots → Prop) → Prop
  | [], V, N, Fin => Fin V
  | i :: rest, V, N, Fin => ∃ o, full[i]? = some o ∧ ∃ d, o.dst = some d ∧ ((reads full o).all fun t => (lkN N t).isNone) = true ∧ ∃ c, DOb full SS o V N (fun v _ => v = c) ∧ DX full SS rest ((d, c) :: V) N Fin

/-! ### The family of facts -/
def valOf (val : Nat → Value) : Operand → Value
  | .tmp t => val t
  | .const v => v
  | .global g => .pointer (some ⟨g, 0, none⟩)
  | .func f => .func (.func f) #[] #[]
def askV (full : List Oper) (val : Nat → Value) (o : Oper) : Option Bool := match o.guard with
  | none => some true
  | some (j, b) => match (full[j]?).bind (·.dst) with
    | some d => (match val d with | .bool c => some (c == b) | _ => none)
    | none => none
/-- What operation o needs of the slots that it reads: 'pre': the operations ahead of it, and what is so of their slots. -/
def Need (pre : List (Oper × Fact)) (fr0 : Slots) (t : Nat) (x : Value) (w : World) : Prop :=
  (∀ q ∈ pre, q.1.dst = some t → q.2 x w) ∧ ((∀ q ∈ pre, q.1.dst ≠ some t) → ∀ v, look fr0 t = some v → x = v)
def FOb (full : List Oper) (SS : World → Prop) (fr0 : Slots) (pre : List (Oper × Fact)) (o : Oper) (p : Fact) : Prop :=
  ∀ w val, SS w → (∀ t ∈ reads full o, Need pre fr0 t (val t) w) → ∃ c, askV full val o = some c ∧
    (c = true → Upon (fun v w' => Keep w w' ∧ p v w') ((execOp (valOf val) o).run P w)) ∧ (c = false → p undef w)
/-- What is listed so far tells V and N. -/
structure Rp (pre : List (Oper × Fact)) (fr0 V : Slots) (N : Rel) : Prop where
  inN : ∀ t q, lkN N t = some q → ∃ x ∈ pre, x.1.dst = some t ∧ x.2 = q
  inV : ∀ t v, lkN N t = none → look V t = some v → (∃ x ∈ pre, x.1.dst = some t ∧ x.2 = fun u _ => u = v) ∨ ((∀ x ∈ pre, x.1.dst ≠ some t) ∧ look fr0 t = some v)
  full : ∀ x ∈ pre, ∀ t, x.1.dst = some t → lkN N t = some x.2 ∨ (lkN N t = none ∧ ∃ v, look V t = some v ∧ x.2 = fun u _ => u = v)
  base : ∀ t, (∀ x ∈ pre, x.1.dst ≠ some t) → lkN N t = none ∧ look V t = look fr0 t
theorem Rp.start (fr0 : Slots) : Rp [] fr0 fr0 [] :=
  ⟨fun t q h => by simp [lkN] at h, fun t v _ h => .inr ⟨fun x hx => by simp at hx, h⟩, fun x hx => by simp at hx, fun t _ => ⟨rfl, rfl⟩⟩
theorem Rp.ex {pre : List (Oper × Fact)} {fr0 V : Slots} {N : Rel} (h : Rp pre fr0 V N) {o : Oper} {d : Nat} (hd : o.dst = some d) (hnew : ∀ x ∈ pre, x.1.dst ≠ some d) (c : Value) :
    Rp (pre ++ [(o, fun v _ => v = c)]) fr0 ((d, c) :: V) N := by
  have hN := (h.base d hnew).1
  refine ⟨fun t q hq => ?_, fun t v hn hv => ?_, fun x hx t ht => ?_, fun t ht => ?_⟩
  · obtain ⟨x, hx, h1, h2⟩ := h.inN t q hq; exact ⟨x, by simp [hx], h1, h2⟩
  · rw [look_cons] at hv
    split at hv
    · rename_i e; subst e; cases hv; exact .inl ⟨_, by simp; exact .inr rfl, hd, rfl⟩
    · rename_i e
      rcases h.inV t v hn hv with ⟨x, hx, h1, h2⟩ | ⟨h1, h2⟩
      · exact .inl ⟨x, by simp [hx], h1, h2⟩
      · refine .inr ⟨fun x hx => ?_, h2⟩
        rcases List.mem_append.1 hx with hx | hx
        · exact h1 x hx
        · simp at hx; subst hx; simp only [hd]; intro e2; cases e2; exact e rfl
  · rcases List.mem_append.1 hx with hx | hx
    · rcases h.full x hx t ht with h1 | ⟨h1, v, h2, h3⟩
      · exact .inl h1
      · refine .inr ⟨h1, v, ?_, h3⟩
        rw [look_cons, if_neg (fun e => hnew x hx (by rw [ht, e])), h2]
    · simp at hx; subst hx
      rw [hd] at ht; cases ht
      exact .inr ⟨hN, c, by rw [look_cons, if_pos rfl], rfl⟩
  · have h1 := h.base t (fun x hx => ht x (by simp [hx]))
    have h2 : t ≠ d := fun e => ht (o, fun v _ => v = c) (by simp) (by simp [hd, e])
    exact ⟨h1.1, by rw [look_cons, if_neg h2, h1.2]⟩
theorem Rp.rel {pre : List (Oper × Fact)} {fr0 V : Slots} {N : Rel} (h : Rp pre fr0 V N) {o : Oper} {d : Nat} (hd : o.dst = some d) (hnew : ∀ x ∈ pre, x.1.dst ≠ some d) (p : Fact) :
    Rp (pre ++ [(o, p)]) fr0 V ((d, p) :: N) := by
  refine ⟨fun t q hq => ?_, fun t v hn hv => ?_, fun x hx t ht => ?_, fun t ht => ?_⟩
  · rw [lkN] at hq
    split at hq
    · rename_i e; subst e; cases hq; exact ⟨(o, p), by simp, hd, rfl⟩
    · obtain ⟨x, hx, h1, h2⟩ := h.inN t q hq; exact ⟨x, by simp [hx], h1, h2⟩
  · rw [lkN] at hn
    split at hn
    · cases hn
    · rename_i e
      rcases h.inV t v hn hv with ⟨x, hx, h1, h2⟩ | ⟨h1, h2⟩
      · exact .inl ⟨x, by simp [hx], h1, h2⟩
      · refine .inr ⟨fun x hx => ?_, h2⟩
        rcases List.mem_append.1 hx with hx | hx
        · exact h1 x hx
        · simp at hx; subst hx; simp only [hd]; intro e2; cases e2; exact e rfl
  · rcases List.mem_append.1 hx with hx | hx
    · have hne : t ≠ d := fun e => hnew x hx (by rw [ht, e])
      rcases h.full x hx t ht with h1 | ⟨h1, v, h2, h3⟩
      · exact .inl (by rw [lkN, if_neg hne, h1])
      · exact .inr ⟨by rw [lkN, if_neg hne, h1], v, h2, h3⟩
    · simp at hx; subst hx
      rw [hd] at ht; cases ht
      exact .inl (by rw [lkN, if_pos rfl])
  · have h1 := h.base t (fun x hx => ht x (by simp [hx]))
    have h2 : t ≠ d := fun e => ht (o, p) (by simp) (by simp [hd, e])
    exact ⟨by rw [lkN, if_neg h2, h1.1], h1.2⟩
def nsel : Op → Bool | .select .. => false | .defer _ => false | _ => true
theorem mem_reads {full : List Oper} {o : Oper} {t : Nat} (h : Operand.tmp t ∈ o.op.operands) : t ∈ reads full o :=
  List.mem_append_left _ (List.mem_filterMap.2 ⟨.tmp t, by simpa using h, rfl⟩)
theorem guard_reads {full : List Oper} {o : Oper} {j d : Nat} {b : Bool} (hg : o.guard = some (j, b)) (hd : (full[j]?).bind (·.dst) = some d) : d ∈ reads full o := by
  refine List.mem_append_right _ ?_
  simp [hg, hd]
/-- One operation's word, in terms of the family. -/
theorem FOb_of {full : List Oper} {SS : World → Prop} {fr0 V : Slots} {N : Rel} {pre : List (Oper × Fact)} {o : Oper} {p : Fact} (hR : Rp pre fr0 V N) (hs : nsel o.op = true) (h : DOb full SS o V N p) : FOb full SS fr0 pre o p := by
  intro w val hw hneed
  have hst := h w val hw (fun t q hq ht => by
    obtain ⟨x, hx, h1, h2⟩ := hR.inN t q hq
    subst h2; exact (hneed t ht).1 x hx h1)
  -- the slots that the operation reads hold what the list says
  have hag : ∀ t ∈ reads full o, ∀ v, look (nsl N val ++ V) t = some v → val t = v := by
    intro t ht v hv
    rw [look_nsl] at hv
    split at hv
    · cases hv; rfl
    · rename_i hn
      rcases hR.inV t v hn hv with ⟨x, hx, h1, h2⟩ | ⟨h1, h2⟩
      · have := (hneed t ht).1 x hx h1; rw [h2] at this; exact this
      · exact (hneed t ht).2 h1 v h2
  have hgo : St o (nsl N val ++ V) w (fun v w' => Keep w w' ∧ p v w') → Upon (fun v w' => Keep w w' ∧ p v w') ((execOp (valOf val) o).run P w) := by
    intro hst
    let val' : Nat → Value := fun t => if t ∈ reads full o then val t else (look (nsl N val ++ V) t).getD (val t)
    have hx := hst (valOf val') (fun x v hv => by
      cases x with
      | tmp t =>
        show val' t = v
        have hv' : look (nsl N val ++ V) t = some v := hv
        simp only [val']
        split
        · rename_i ht; exact hag t ht v hv'
        · rw [hv']; rfl
      | const u => simpa [ev, valOf] using hv
      | global g => simpa [ev, valOf] using hv
      | func f => simpa [ev, valOf] using hv)
    have e : execOp (valOf val') o = execOp (valOf val) o := execOp_congr o (fun cs b e => by rw [e] at hs; cases hs) (fun x hx => by
      cases x with
      | tmp t => show val' t = val t; simp only [val']; rw [if_pos (mem_reads hx)]
      | const u => rfl
      | global g => rfl
      | func f => rfl)
    rw [← e]; exact hx
  unfold StG at hst
  cases hg : o.guard with
  | none =>
    rw [hg] at hst
    exact ⟨true, by simp [askV, hg], fun _ => hgo hst, fun h => by cases h⟩
  | some jb =>
    obtain ⟨j, b⟩ := jb
    rw [hg] at hst
    obtain ⟨c, hc, h1, h2⟩ := hst
    have hgv : ∃ d, (full[j]?).bind (·.dst) = some d ∧ look (nsl N val ++ V) d = some (.bool c) := by
      unfold gval at hc
      split at hc
      · rename_i oj hoj
        split at hc
        · rename_i d hd; exact ⟨d, by simp [hoj, hd], hc⟩
        · cases hc
      · cases hc
    obtain ⟨d, hd, hl⟩ := hgv
    have hval := hag d (guard_reads hg hd) _ hl
    refine ⟨c == b, by simp [askV, hg, hd, hval], fun h => hgo (h1 (by simpa using h)), fun h => (h2 (by simpa using h)).2⟩
def kyO (all : List (Oper × Fact)) : List (Option Oper) := all.map fun x => some x.1
theorem kyO_at {full : List Oper} {all : List (Oper × Fact)} {ix : List Nat} (h : kyO all = ix.map (full[·]?)) {p : Nat} {x : Oper × Fact} (hx : all[p]? = some x) : ∃ i, ix[p]? = some i ∧ full[i]? = some x.1 := by
  have h1 := congrArg (·[p]?) h
  simp only [kyO, List.getElem?_map, hx, Option.map_some] at h1
  cases hi : ix[p]? with
  | none => rw [hi] at h1; cases h1
  | some i => rw [hi] at h1; simp only [Option.map_some, Option.some.injEq] at h1; exact ⟨i, rfl, h1.symm⟩
theorem kyO_len {full : List Oper} {all : List (Oper × Fact)} {ix : List Nat} (h : kyO all = ix.map (full[·]?)) : all.length = ix.length := by
  have := congrArg List.length h; simpa [kyO] using this
def dstAt (full : List Oper) (j : Nat) : Option Nat := (full[j]?).bind (·.dst)
/-- Those of the heads write to slots of their own. -/
def Dif (full : List Oper) (ix : List Nat) : Prop := ∀ (p q : Nat) (i j : Nat), ix[p]? = some i → ix[q]? = some j → p ≠ q → i ≠ j ∧ dstAt full i ≠ dstAt full j
def Fam (full : List Oper) (SS : World → Prop) (fr0 : Slots) (Fin : Slots → Rel → Prop) (pre : List (Oper × Fact)) (ip is : List Nat) : Prop :=
    ∃ (all : List (Oper × Fact)) (V' : Slots) (N' : Rel), kyO all = (ip ++ is).map (full[·]?) ∧ (∀ x ∈ all, Stab x.2) ∧ Rp all fr0 V' N' ∧ Fin V' N' ∧
      (∀ i x, all[i]? = some x → pre.length ≤ i → FOb full SS fr0 (all.take i) x.1 x.2) ∧ all.take pre.length = pre
theorem new_of {full : List Oper} {pre : List (Oper × Fact)} {ip : List Nat} {i d : Nat} {rest : List Nat} {o : Oper} (hk : kyO pre = ip.map (full[·]?)) (hD : Dif full (ip ++ i :: rest)) (ho : full[i]? = some o) (hd : o.dst = some d) : ∀ x ∈ pre, x.1.dst ≠ some d := by
  intro x hx e
  obtain ⟨p, hp⟩ := List.getElem?_of_mem hx
  obtain ⟨j, hj, hfj⟩ := kyO_at hk hp
  have hl := kyO_len hk
  have hlt : p < ip.length := (List.getElem?_eq_some_iff.1 hj).1
  have := hD p ip.length j i (by rw [List.getElem?_append_left hlt]; exact hj) (by rw [List.getElem?_append_right (Nat.le_refl _)]; simp) (by omega)
  exact this.2 (by simp [dstAt, hfj, ho, e, hd])
/-- The family, out of the walk in the order of the text. -/
theorem DR.family {full : List Oper} {SS : World → Prop} {fr0 : Slots} {Fin : Slots → Rel → Prop} : ∀ (is ip : List Nat) (pre : List (Oper × Fact)) (V : Slots) (N : Rel), kyO pre = ip.map (full[·]?) → Rp pre fr0 V N → (∀ x ∈ pre, Stab x.2) →
    (∀ i ∈ is, ∀ o, full[i]? = some o → nsel o.op = true) → Dif full (ip ++ is) → DR full SS is V N Fin → Fam full SS fr0 Fin pre ip is
  | [], ip, pre, V, N, hk, hR, hst, _, _, h => ⟨pre, V, N, by simpa using hk, hst, hR, h, fun i x hi hle => by have := (List.getElem?_eq_some_iff.1 hi).1; omega, by simp⟩
  | i :: rest, ip, pre, V, N, hk, hR, hst, hsel, hD, h => by
    obtain ⟨o, ho, d, hd, h⟩ := h
    have hnew := new_of hk hD ho hd
    have hns := hsel i (by simp) o ho
    have key : ∀ (p : Fact) (V1 : Slots) (N1 : Rel), Stab p → DOb full SS o V N p → Rp (pre ++ [(o, p)]) fr0 V1 N1 → DR full SS rest V1 N1 Fin → Fam full SS fr0 Fin pre ip (i :: rest) := by
      intro p V1 N1 hp hob hR1 hrest
      obtain ⟨all, V', N', h1, h2, h3, h4, h6, h7⟩ := DR.family (full := full) (SS := SS) (Fin := Fin) rest (ip ++ [i]) (pre ++ [(o, p)]) V1 N1 (by unfold kyO at hk ⊢; simp [hk, ho]) hR1 (fun x hx => by
        rcases List.mem_append.1 hx with hx | hx
        · exact hst x hx
        · simp at hx; subst hx; exact hp) (fun j hj => hsel j (by simp [hj])) (by simpa using hD) hrest
      have h8 : all.take pre.length = pre := by
        have := congrArg (List.take pre.length) h7
        simpa [List.take_take] using this
      refine ⟨all, V', N', by simpa using h1, h2, h3, h4, fun j x hi hle => ?_, h8⟩
      · rcases Nat.lt_or_ge pre.length j with hlt | hge
        · exact h6 j x hi (by simp; omega)
        · have e : j = pre.length := by omega
          subst e
          have hx : x = (o, p) := by
            have h9 := congrArg (fun l => l[pre.length]?) h7
            simp [List.getElem?_take] at h9
            rw [h9] at hi; exact (Option.some.inj hi).symm
          subst hx
          rw [h8]
          exact FOb_of hR hns hob
    rcases h with ⟨c, hob, hrest⟩ | ⟨p, hp, hob, hrest⟩
    · exact key _ _ _ (Stab.eq c) hob (hR.ex hd hnew c) hrest
    · exact key _ _ _ hp hob (hR.rel hd hnew p) hrest
def Late (full : List Oper) (SS : World → Prop) (fr0 : Slots) (pre : List (Oper × Fact)) (x : Oper × Fact) : Prop :=
  ∃ c, x.2 = (fun v _ => v = c) ∧ FOb full SS fr0 pre x.1 x.2 ∧ ∀ t ∈ reads full x.1, ∀ q ∈ pre, q.1.dst = some t → ∃ c', q.2 = fun v _ => v = c'
def FamX (full : List Oper) (SS : World → Prop) (fr0 : Slots) (N : Rel) (Fin : Slots → Prop) (pre : List (Oper × Fact)) (ip is : List Nat) : Prop :=
    ∃ (all : List (Oper × Fact)) (V' : Slots), kyO all = (ip ++ is).map (full[·]?) ∧ (∀ x ∈ all, Stab x.2) ∧ Rp all fr0 V' N ∧ Fin V' ∧
      (∀ i x, all[i]? = some x → pre.length ≤ i → Late full SS fr0 (all.take i) x) ∧ all.take pre.length = pre
theorem DX.family {full : List Oper} {SS : World → Prop} {fr0 : Slots} {N : Rel} {Fin : Slots → Prop} : ∀ (is ip : List Nat) (pre : List (Oper × Fact)) (V : Slots), kyO pre = ip.map (full[·]?) → Rp pre fr0 V N → (∀ x ∈ pre, Stab x.2) →
    (∀ i ∈ is, ∀ o, full[i]? = some o → nsel o.op = true) → Dif full (ip ++ is) → DX full SS is V N Fin → FamX full SS fr0 N Fin pre ip is
  | [], ip, pre, V, hk, hR, hst, _, _, h => ⟨pre, V, by simpa using hk, hst, hR, h, fun i x hi hle => by have := (List.getElem?_eq_some_iff.1 hi).1; omega, by simp⟩
  | i :: rest, ip, pre, V, hk, hR, hst, hsel, hD, h => by
    obtain ⟨o, ho, d, hd, hno, c, hob, hrest⟩ := h
    have hnew := new_of hk hD ho hd
    have hns := hsel i (by simp) o ho
    obtain ⟨all, V', h1, h2, h3, h4, h6, h7⟩ := DX.family (full := full) (SS := SS) (Fin := Fin) rest (ip ++ [i]) (pre ++ [(o, fun v _ => v = c)]) _ (by unfold kyO at hk ⊢; simp [hk, ho]) (hR.ex hd hnew c) (fun x hx => by
        rcases List.mem_append.1 hx with hx | hx
        · exact hst x hx
        · simp at hx; subst hx; exact Stab.eq c) (fun j hj => hsel j (by simp [hj])) (by simpa using hD) hrest
    have h8 : all.take pre.length = pre := by
      have := congrArg (List.take pre.length) h7
      simpa [List.take_take] using this
    refine ⟨all, V', by simpa using h1, h2, h3, h4, fun j x hi hle => ?_, h8⟩
    rcases Nat.lt_or_ge pre.length j with hlt | hge
    · exact h6 j x hi (by simp; omega)
    · have e : j = pre.length := by omega
      subst e
      have hx : x = (o, fun v _ => v = c) := by
        have h9 := congrArg (fun l => l[pre.length]?) h7
        simp [List.getElem?_take] at h9
        rw [h9] at hi; exact (Option.some.inj hi).symm
      subst hx
      rw [h8]
      refine ⟨c, rfl, FOb_of hR hns hob, fun t ht q hq hqd => ?_⟩
      rcases hR.full q hq t hqd with h | ⟨_, v, _, h⟩
      · have := List.all_eq_true.1 hno t ht
        rw [h] at this; cases this
      · exact ⟨v, h⟩
end Go.Proofs.YtkbaaikidhbfmaaGreat
/- Every order of a region that is open: what is asked of its edges, and that one walk serves. No statement is proved here. -/
set_option linter.unusedVariables false
set_option linter.unusedSimpArgs false
namespace Go.Proofs.YtkbaaikidhbfmaaGreat
open Go.RowKit

def eb (full : List Oper) (i : Nat) : List Nat := match full[i]? with
  | some o => o.after.toList.filterMap fun e => if Region.binds .any e then some e.on else none
  | none => []
def hasN (l : List Nat) (i : Nat) : Bool := l.any (Nat.beq i)
def rch (full : List Oper) : Nat → Nat → Nat → Bool
  | 0, _, _ => false
  | f + 1, i, k => hasN (eb full i) k || (eb full i).any fun e => rch full f e k
theorem hasN_iff {l : List Nat} {i : Nat} : hasN l i = true ↔ i ∈ l := by
  simp only [hasN, List.any_eq_true]
  exact ⟨fun ⟨x, hx, h⟩ => Nat.eq_of_beq_eq_true h ▸ hx, fun h => ⟨i, h, Nat.beq_refl i⟩⟩
def neD (full : List Oper) (j t : Nat) : Bool := match dstAt full j with | some d => !Nat.beq d t | none => true
theorem neD_iff {full : List Oper} {j t : Nat} (h : neD full j t = true) : dstAt full j ≠ some t := by
  intro e; unfold neD at h; rw [e] at h; simp at h
def okH (full : List Oper) (m : Nat) : List Nat → List Nat → Bool
  | _, [] => true
  | pre, i :: rest => (match full[i]? with
      | some o => (match o.dst with
        | some d => (pre.all fun j => !Nat.beq j i && neD full j d) && (reads full o).all fun t => ((i :: rest).all fun j => neD full j t) && pre.all fun j => neD full j t || rch full m i j
        | none => false)
      | none => false) && okH full m (pre ++ [i]) rest
def okOne (n : Nat) (full : List Oper) (hs ls ts : List Nat) (i : Nat) : Bool := match full[i]? with
  | some o => nsel o.op && dOk n o.dst && (eb full i).all (fun k => Nat.blt k i) && (hasN hs i || hasN ls i || hasN ts i)
  | none => true
def okL (full : List Oper) (ts : List Nat) (i : Nat) : Bool := match full[i]? with
  | some o => (ts.all fun j => match o.dst with | some d => neD full j d | none => true) && (reads full o).all fun t => ts.all fun j => neD full j t || rch full full.length j i
  | none => false
def okT (full : List Oper) (m : Nat) (hs ls : List Nat) (j : Nat) : Bool := match full[j]? with
  | some o => !hasN hs j && !hasN ls j && hs.all (rch full m j) && (reads full o).all fun t => ls.all fun l => neD full l t || rch full m j l
  | none => false
def okDraw (n : Nat) (full : List Oper) (hs ls ts : List Nat) : Bool :=
  (List.range full.length).all (okOne n full hs ls ts) && okH full full.length [] (hs ++ ls) && ls.all (okL full ts) && ts.all (okT full full.length hs ls)

def Clo (full : List Oper) (listed : Array Bool) : Prop := ∀ i, listed.getD i false = true → ∀ k ∈ eb full i, listed.getD k false = true
theorem rch_listed {full : List Oper} {listed : Array Bool} (hc : Clo full listed) : ∀ (f i k : Nat), (∀ e ∈ eb full i, listed.getD e false = true) → rch full f i k = true → listed.getD k false = true
  | 0, i, k, _, h => by simp [rch] at h
  | f + 1, i, k, he, h => by
    simp only [rch, Bool.or_eq_true, List.any_eq_true] at h
    rcases h with h | ⟨e, hm, h⟩
    · exact he k (hasN_iff.1 h)
    · exact rch_listed hc f e k (hc e (he e hm)) h
theorem eb_ready {full : List Oper} {listed : Array Bool} {i : Nat} {o : Oper} (ho : full[i]? = some o) (h : ∀ e ∈ o.after, Region.binds .any e = true → listed.getD e.on false = true) : ∀ k ∈ eb full i, listed.getD k false = true := by
  intro k hk
  unfold eb at hk
  rw [ho] at hk
  obtain ⟨e, he, hb⟩ := List.mem_filterMap.1 hk
  split at hb
  · rename_i hbb; cases hb; exact h e (by simpa using he) hbb
  · cases hb
theorem ready_eb {full : List Oper} {listed : Array Bool} {i : Nat} {o : Oper} (ho : full[i]? = some o) (h : ∀ k ∈ eb full i, listed.getD k false = true) : ∀ e ∈ o.after, Region.binds .any e = true → listed.getD e.on false = true := by
  intro e he hb
  refine h e.on ?_
  unfold eb
  rw [ho]
  exact List.mem_filterMap.2 ⟨e, by simpa using he, by simp [hb]⟩
structure OkAt (n : Nat) (full : List Oper) (hs ls ts : List Nat) (i : Nat) (o : Oper) : Prop where
  sel : nsel o.op = true
  dok : dOk n o.dst = true
  back : ∀ k ∈ eb full i, k < i
  cls : i ∈ hs ∨ i ∈ ls ∨ i ∈ ts
theorem okAt_of {n : Nat} {full : List Oper} {hs ls ts : List Nat} (h : okDraw n full hs ls ts = true) {i : Nat} {o : Oper} (ho : full[i]? = some o) : OkAt n full hs ls ts i o := by
  have hlt : i < full.length := (List.getElem?_eq_some_iff.1 ho).1
  unfold okDraw at h
  simp only [Bool.and_eq_true] at h
  have h1 := List.all_eq_true.1 h.1.1.1 i (List.mem_range.2 hlt)
  unfold okOne at h1
  rw [ho] at h1
  simp only [Bool.and_eq_true, Bool.or_eq_true, hasN_iff] at h1
  obtain ⟨⟨⟨h1, h2⟩, h3⟩, h4⟩ := h1
  exact ⟨h1, h2, fun k hk => by simpa using List.all_eq_true.1 h3 k hk, by rcases h4 with (h | h) | h <;> simp [h]⟩
structure HeadAt (full : List Oper) (m : Nat) (ix : List Nat) (p i : Nat) (o : Oper) (d : Nat) : Prop where
  dst : o.dst = some d
  new : ∀ q j, ix[q]? = some j → q < p → j ≠ i ∧ dstAt full j ≠ some d
  rd : ∀ t ∈ reads full o, ∀ q j, ix[q]? = some j → dstAt full j = some t → q < p ∧ rch full m i j = true
theorem okH_at {full : List Oper} {m : Nat} : ∀ (rest pre : List Nat), okH full m pre rest = true → ∀ p i, rest[p]? = some i → ∃ o d, full[i]? = some o ∧ HeadAt full m (pre ++ rest) (pre.length + p) i o d
  | [], pre, _, p, i, h => by simp at h
  | k :: rest, pre, h, p, i, hp => by
    simp only [okH, Bool.and_eq_true] at h
    obtain ⟨h1, h2⟩ := h
    cases p with
    | succ p =>
      have := okH_at rest (pre ++ [k]) h2 p i (by simpa using hp)
      have e1 : (pre ++ [k]) ++ rest = pre ++ k :: rest := by simp
      have e2 : (pre ++ [k]).length + p = pre.length + (p + 1) := by simp; omega
      rw [e1, e2] at this; exact this
    | zero =>
      simp at hp; subst hp
      split at h1
      · rename_i o ho
        split at h1
        · rename_i d hd
          simp only [Bool.and_eq_true] at h1
          obtain ⟨h3, h4⟩ := h1
          refine ⟨o, d, ho, hd, fun q j hq hlt => ?_, fun t ht q j hq hjd => ?_⟩
          · rw [List.getElem?_append_left (by simpa using hlt)] at hq
            have := List.all_eq_true.1 h3 j (List.mem_of_getElem? hq)
            simp only [Bool.and_eq_true] at this
            exact ⟨fun e => by have h5 := this.1; rw [e] at h5; simp at h5, neD_iff this.2⟩
          · have h5 := List.all_eq_true.1 h4 t ht
            simp only [Bool.and_eq_true] at h5
            rcases Nat.lt_or_ge q pre.length with hlt | hge
            · rw [List.getElem?_append_left hlt] at hq
              have := List.all_eq_true.1 h5.2 j (List.mem_of_getElem? hq)
              simp only [Bool.or_eq_true] at this
              rcases this with h | h
              · exact absurd hjd (neD_iff h)
              · exact ⟨by simpa using hlt, h⟩
            · rw [List.getElem?_append_right hge] at hq
              exact absurd hjd (neD_iff (List.all_eq_true.1 h5.1 j (List.mem_of_getElem? hq)))
        · cases h1
      · cases h1
/-- The tails that may come next. -/
def tready (full : List Oper) (ts done : List Nat) : List Nat := ts.filter fun j => !hasN done j && (eb full j).all fun k => !hasN ts k || hasN done k
/-- All late heads are done, as a tail that is done waited for them. -/
def lateDone (full : List Oper) (ls done : List Nat) : Bool := ls.all fun l => done.any fun j => rch full full.length j l
/-- The tails, in every order that their edges allow. -/
def TA (n : Nat) (full : List Oper) (b0 : World) (ls ts : List Nat) (SSm : World → Prop) (Fin : Kt) : Nat → List Nat → Kt
  | 0, done, R, H, fr => (lateDone full ls done = true ∨ ∀ w, SH b0 R H w → SSm w) ∧ tready full ts done = [] ∧ Fin R H fr
  | k + 1, done, R, H, fr => (lateDone full ls done = true ∨ ∀ w, SH b0 R H w → SSm w) ∧ (tready full ts done = [] → Fin R H fr) ∧
      ∀ j ∈ tready full ts done, ∃ o, full[j]? = some o ∧ JO n full b0 R H o fr fun R' H' fr' => TA n full b0 ls ts SSm Fin k (j :: done) R' H' fr'
theorem TA.ssm {n : Nat} {full : List Oper} {b0 : World} {ls ts : List Nat} {SSm : World → Prop} {Fin : Kt} {k : Nat} {done : List Nat} {R : Rgs} {H : Hp} {fr : Slots} (h : TA n full b0 ls ts SSm Fin k done R H fr) : lateDone full ls done = true ∨ ∀ w, SH b0 R H w → SSm w := by
  cases k <;> exact h.1
theorem TA.fin {n : Nat} {full : List Oper} {b0 : World} {ls ts : List Nat} {SSm : World → Prop} {Fin : Kt} {k : Nat} {done : List Nat} {R : Rgs} {H : Hp} {fr : Slots} (h : TA n full b0 ls ts SSm Fin k done R H fr) (hr : tready full ts done = []) : Fin R H fr := by
  cases k with
  | zero => exact h.2.2
  | succ k => exact h.2.1 hr
theorem JO.use {n : Nat} {full : List Oper} {b0 : World} {R : Rgs} {H : Hp} {o : Oper} {fr : Slots} {K : Kt} (h : JO n full b0 R H o fr K) : (dOk n o.dst && dfr o.op) = true ∧ ∀ w, SH b0 R H w → StG full o fr w fun v w' => ∃ R' H', SH b0 R' H' w' ∧ (∀ r ∈ R, r ∈ R') ∧ K R' H' (putS fr o.dst v) := by
  unfold JO at h; exact h

theorem gd_in {listed : Array Bool} {i : Nat} (hi : i < listed.size) (h : listed.getD i false = false) : listed.getD i true = false := by
  simp [Array.getD, hi] at h ⊢; exact h
def left (N : Nat) (listed : Array Bool) : Nat := ((List.range N).filter fun i => !listed.getD i true).length
theorem left_set {N : Nat} {listed : Array Bool} (hs : listed.size = N) {i : Nat} (hi : listed.getD i true = false) : left N (listed.setIfInBounds i true) + 1 ≤ left N listed := by
  have hlt : i < N := by
    rcases Nat.lt_or_ge i N with h | h
    · exact h
    · rw [← hs] at h; simp [Array.getD, Nat.not_lt.2 h] at hi
  unfold left
  have hmem : i ∈ (List.range N).filter fun i => !listed.getD i true := List.mem_filter.2 ⟨List.mem_range.2 hlt, by simp only [hi]; rfl⟩
  have hsub : ((List.range N).filter fun j => !(listed.setIfInBounds i true).getD j true) = ((List.range N).filter fun i => !listed.getD i true).filter (fun j => j != i) := by
    rw [List.filter_filter]
    apply List.filter_congr
    intro j _
    by_cases e : j = i
    · subst e
      have : (listed.setIfInBounds j true).getD j true = true := by
        have h' : j < listed.size := by omega
        simp [Array.getD, h']
      simp only [this]; simp
    · rw [getD_set_ne true (fun h => e h.symm)]; simp [e]
  rw [hsub]
  have hnd : ((List.range N).filter fun i => !listed.getD i true).Nodup := List.nodup_range.filter _
  generalize ((List.range N).filter fun i => !listed.getD i true) = l at hmem hnd ⊢
  induction l with
  | nil => simp at hmem
  | cons x xs ih =>
    have hn := List.nodup_cons.1 hnd
    rcases List.mem_cons.1 hmem with rfl | hm
    · have : xs.filter (fun j => j != i) = xs := List.filter_eq_self.2 fun y hy => by simp; exact fun e => hn.1 (e ▸ hy)
      simp [this]
    · have hx : x ≠ i := fun e => hn.1 (e ▸ hm)
      have := ih hm hn.2
      simp only [List.filter_cons, show (x != i) = true by simpa using hx, if_true, List.length_cons]
      omega
theorem left_zero {N : Nat} {listed : Array Bool} (h : left N listed = 0) : ∀ i, i < N → listed.getD i true = true := by
  intro i hi
  unfold left at h
  have := List.length_eq_zero_iff.1 h
  cases hb : listed.getD i true with
  | true => rfl
  | false =>
    have : i ∈ (List.range N).filter fun i => !listed.getD i true := List.mem_filter.2 ⟨List.mem_range.2 hi, by simp only [hb]; rfl⟩
    rw [List.length_eq_zero_iff.1 h] at this; simp at this

section
variable {ρ : Option Nat} {n : Nat} {D : List Deferred} {Q : Post} {full : List Oper} {hs ls ts : List Nat}
theorem some_ready (hok : okDraw n full hs ls ts = true) {listed : Array Bool} (hs' : listed.size = full.length) (hr : Region.ready .any full.toArray listed = []) : ∀ i, i < full.length → listed.getD i false = true := by
  intro i
  induction i using Nat.strongRecOn with
  | _ i ih =>
    intro hi
    cases hb : listed.getD i false with
    | true => rfl
    | false =>
      exfalso
      have hmem : i ∈ Region.ready .any full.toArray listed := by
        refine mem_ready.2 ⟨gd_in (by omega) hb, full[i], by simp [hi], ready_eb (List.getElem?_eq_getElem hi) fun k hk => ?_⟩
        have hlt := (okAt_of hok (List.getElem?_eq_getElem hi)).back k hk
        exact ih k hlt (by omega)
      rw [hr] at hmem; simp at hmem
/-- A tail is run where it reads what is done. -/
theorem tail_op {b0 : World} {R : Rgs} {H : Hp} {o : Oper} {fr : Slots} {K : Kt} (h : JO n full b0 R H o fr K) (hns : nsel o.op = true) {w : World} (hw : SH b0 R H w) {A : Array Value} {Nx : Act → World → Prop}
    (hrd : ∀ t ∈ reads full o, ∀ v, look fr t = some v → A.getD t undef = v)
    (hk : ∀ R' H' v w', SH b0 R' H' w' → K R' H' (putS fr o.dst v) → Nx ⟨putA A o.dst v, D⟩ w') :
    if Region.wanted o (yielded full.toArray A) then o.wpIn (FW ρ) 0 P ⟨A, D⟩ w Nx Q else (∀ f, o.about P w ({ tmps := A, defers := D } : Act).eval = some f → (FW ρ).fn f) ∧ Nx (({ tmps := A, defers := D } : Act).put o.dst undef) w := by
  obtain ⟨hd, h⟩ := h.use
  rw [Bool.and_eq_true] at hd
  have h1 := h w hw
  have go : St o fr w (fun v w' => ∃ R' H', SH b0 R' H' w' ∧ (∀ r ∈ R, r ∈ R') ∧ K R' H' (putS fr o.dst v)) → o.wpIn (FW ρ) 0 P ⟨A, D⟩ w Nx Q := fun h2 => by
    refine wpIn_of_upon (dfr_ne hd.2) ?_
    rw [valA_eq]
    let f' : Operand → Value := fun x => match x with
      | .tmp t => if t ∈ reads full o then A.getD t undef else (look fr t).getD undef
      | x => valA A x
    have hx := h2 f' (fun x v hv => by
      cases x with
      | tmp t =>
        have hv' : look fr t = some v := hv
        simp only [f']
        split
        · rename_i ht; exact hrd t ht v hv'
        · rw [hv']; rfl
      | const c => simpa [ev, f', valA, Act.eval] using hv
      | global g => simpa [ev, f', valA, Act.eval] using hv
      | func g => simpa [ev, f', valA, Act.eval] using hv)
    have e : execOp f' o = execOp (valA A) o := execOp_congr o (fun cs b e => by rw [e] at hns; cases hns) (fun x hx => by
      cases x with
      | tmp t => show f' (.tmp t) = _; simp only [f']; rw [if_pos (mem_reads hx)]; rfl
      | const c => rfl
      | global g => rfl
      | func g => rfl)
    rw [← e]
    exact hx.mono fun v w' ⟨R', H', a, _, b⟩ => by rw [put_putA]; exact hk R' H' v w' a b
  unfold StG at h1
  unfold Region.wanted
  cases hg : o.guard with
  | none => rw [hg] at h1; simpa using go h1
  | some jb =>
    obtain ⟨j, b⟩ := jb
    rw [hg] at h1
    obtain ⟨c, hc, h2, h3⟩ := h1
    have hy : yielded full.toArray A j = some c := by
      unfold gval at hc
      split at hc
      · rename_i oj hoj
        split at hc
        · rename_i d hd'
          have hb : (full[j]?).bind (·.dst) = some d := by simp [hoj, hd']
          have hA := hrd d (guard_reads hg hb) _ hc
          have hb2 : (full.toArray[j]?).bind (·.dst) = some d := by simpa using hb
          unfold yielded
          rw [hb2]
          simp only [Option.bind_some]
          simp only [Array.getD_eq_getD_getElem?] at hA
          cases hcA : A[d]? with
          | none => rw [hcA] at hA; simp [undef] at hA
          | some v => rw [hcA] at hA; simp only [Option.getD_some] at hA; subst hA; rfl
        · cases hc
      · cases hc
    simp only [hy]
    split
    · rename_i e; exact go (h2 (by simpa using e))
    · rename_i e
      obtain ⟨R', H', a, _, d⟩ := h3 (by simpa using e)
      exact ⟨fun f _ => trivial, by rw [put_putA]; exact hk R' H' _ w a d⟩
end
end Go.Proofs.YtkbaaikidhbfmaaGreat
/- Every order of a region that is open: the proof. No statement is proved here. -/
set_option linter.unusedVariables false
set_option linter.unusedSimpArgs false
namespace Go.Proofs.YtkbaaikidhbfmaaGreat
open Go.RowKit

theorem wanted_of_ask {full : List Oper} {o : Oper} {A : Array Value} {c : Bool} (hc : askV full (fun t => A.getD t undef) o = some c) : Region.wanted o (yielded full.toArray A) = c := by
  unfold askV at hc
  unfold Region.wanted
  cases hg : o.guard with
  | none => rw [hg] at hc; simpa using hc
  | some jb =>
    obtain ⟨j, b⟩ := jb
    rw [hg] at hc
    simp only at hc ⊢
    cases hdj : (full[j]?).bind (·.dst) with
    | none => rw [hdj] at hc; cases hc
    | some dj =>
      rw [hdj] at hc
      simp only at hc
      have hy : yielded full.toArray A j = (match A[dj]? with | some (.bool b) => some b | _ => none) := by
        unfold yielded
        have : (full.toArray[j]?).bind (·.dst) = some dj := by simpa using hdj
        rw [this]; rfl
      rw [hy]
      simp only [Array.getD_eq_getD_getElem?] at hc
      cases hA : A[dj]? with
      | none => rw [hA] at hc; simp [undef] at hc
      | some v =>
        rw [hA] at hc
        simp only [Option.getD_some] at hc
        cases v <;> simp at hc ⊢
        exact hc
theorem getD_set_eq {A : Array Value} {d : Nat} {v : Value} (h : d < A.size) : (A.setIfInBounds d v).getD d undef = v := by simp [Array.getD, h]
theorem getD_set_other {A : Array Value} {d t : Nat} {v : Value} (h : t ≠ d) : (A.setIfInBounds d v).getD t undef = A.getD t undef := by
  simp only [Array.getD_eq_getD_getElem?, Array.getElem?_setIfInBounds_ne (fun e => h e.symm)]
theorem lst_set_eq {listed : Array Bool} {i : Nat} (h : i < listed.size) : (listed.setIfInBounds i true).getD i false = true := by simp [Array.getD, h]
theorem lst_mono {listed : Array Bool} {i k : Nat} (hi : i < listed.size) (h : listed.getD k false = true) : (listed.setIfInBounds i true).getD k false = true := by
  by_cases e : i = k
  · subst e; exact lst_set_eq hi
  · rw [getD_set_ne false e]; exact h
theorem Clo.set {full : List Oper} {listed : Array Bool} (h : Clo full listed) {i : Nat} (hi : i < listed.size) (he : ∀ k ∈ eb full i, listed.getD k false = true) : Clo full (listed.setIfInBounds i true) := by
  intro j hj k hk
  by_cases e : i = j
  · subst e; exact lst_mono hi (he k hk)
  · rw [getD_set_ne false e] at hj; exact lst_mono hi (h j hj k hk)
/-- A head is run. -/
theorem head_op {ρ : Option Nat} {D : List Deferred} {Q : Post} {full : List Oper} {SS : World → Prop} {fr0 : Slots} {pre : List (Oper × Fact)} {o : Oper} {p : Fact} {d : Nat} {A : Array Value} {w : World} {Nx : Act → World → Prop} (hd : o.dst = some d) (hns : nsel o.op = true)
    (hF : FOb full SS fr0 pre o p) (hw : SS w) (hneed : ∀ t ∈ reads full o, Need pre fr0 t (A.getD t undef) w) (hnext : ∀ v w', Keep w w' → p v w' → Nx ⟨A.setIfInBounds d v, D⟩ w') :
    if Region.wanted o (yielded full.toArray A) then o.wpIn (FW ρ) 0 P ⟨A, D⟩ w Nx Q else (∀ f, o.about P w ({ tmps := A, defers := D } : Act).eval = some f → (FW ρ).fn f) ∧ Nx (({ tmps := A, defers := D } : Act).put o.dst undef) w := by
  obtain ⟨c, hc, hgo, hskip⟩ := hF w (fun t => A.getD t undef) hw hneed
  rw [wanted_of_ask hc]
  have hdefer : ∀ cc, o.op ≠ .defer cc := fun cc e => by rw [e] at hns; cases hns
  cases c with
  | true =>
    rw [if_pos rfl]
    refine wpIn_of_upon hdefer ?_
    have hev : ({ tmps := A, defers := D } : Act).eval = valOf (fun t => A.getD t undef) := by funext q; cases q <;> rfl
    rw [hev]
    refine (hgo rfl).mono fun v w' ⟨hk, hv⟩ => ?_
    rw [hd]
    exact hnext v w' hk hv
  | false =>
    rw [if_neg (by simp)]
    refine ⟨fun f _ => trivial, ?_⟩
    rw [hd]
    exact hnext undef w (Keep.refl w) (hskip rfl)

structure Inv2 (n : Nat) (full : List Oper) (hs ls ts : List Nat) (all : List (Oper × Fact)) (fr0 : Slots) (listed : Array Bool) (A : Array Value) (done : List Nat) (fr : Slots) : Prop where
  sz : A.size = n
  lsz : listed.size = full.length
  clo : Clo full listed
  heads : ∀ i ∈ hs, listed.getD i false = true
  tails : ∀ j ∈ ts, (listed.getD j false = true ↔ j ∈ done)
  dn : ∀ j ∈ done, listed.getD j false = true
  fri : ∀ t v, look fr t = some v → A.getD t undef = v ∨ ∃ (p i : Nat) (x : Oper × Fact), hs.length ≤ p ∧ (hs ++ ls)[p]? = some i ∧ all[p]? = some x ∧ listed.getD i false = false ∧ x.1.dst = some t
  late : ∀ (p i : Nat) (x : Oper × Fact), hs.length ≤ p → (hs ++ ls)[p]? = some i → all[p]? = some x → listed.getD i false = false → ∀ d c, x.1.dst = some d → x.2 = (fun v _ => v = c) → look fr d = some c
  val : ∀ (p i : Nat) (x : Oper × Fact), (hs ++ ls)[p]? = some i → all[p]? = some x → listed.getD i false = true → ∀ d c, x.1.dst = some d → (∀ j ∈ ts, listed.getD j false = true → dstAt full j ≠ some d) → x.2 = (fun v _ => v = c) → A.getD d undef = c
  base : ∀ t, (∀ x ∈ all, x.1.dst ≠ some t) → (∀ j ∈ ts, listed.getD j false = true → dstAt full j ≠ some t) → ∀ v, look fr0 t = some v → A.getD t undef = v

section
variable {ρ : Option Nat} {n : Nat} {D : List Deferred} {Q : Post} {full : List Oper} {hs ls ts : List Nat} {b0 : World} {all : List (Oper × Fact)} {fr0 : Slots} {SSm : World → Prop}
theorem headAt (hok : okDraw n full hs ls ts = true) {p i : Nat} {x : Oper × Fact} (hall : kyO all = (hs ++ ls).map (full[·]?)) (hi : (hs ++ ls)[p]? = some i) (hx : all[p]? = some x) : full[i]? = some x.1 ∧ ∃ d, HeadAt full full.length (hs ++ ls) p i x.1 d := by
  obtain ⟨i', h1, h2⟩ := kyO_at hall hx
  rw [hi] at h1; cases h1
  unfold okDraw at hok
  simp only [Bool.and_eq_true] at hok
  obtain ⟨o, d, h3, h4⟩ := okH_at _ [] hok.1.1.2 p i hi
  rw [h2] at h3; cases h3
  exact ⟨h2, d, by simpa using h4⟩
theorem dif_of (hok : okDraw n full hs ls ts = true) : Dif full (hs ++ ls) := by
  have hok' := hok
  unfold okDraw at hok'
  simp only [Bool.and_eq_true] at hok'
  have key : ∀ (p q : Nat) (i j : Nat), (hs ++ ls)[p]? = some i → (hs ++ ls)[q]? = some j → q < p → i ≠ j ∧ dstAt full i ≠ dstAt full j := fun p q i j hp hq hlt => by
    obtain ⟨o, d, h3, h4⟩ := okH_at _ [] hok'.1.1.2 p i hp
    have h5 := h4.new q j (by simpa using hq) (by simpa using hlt)
    refine ⟨fun e => h5.1 e.symm, fun e => h5.2 ?_⟩
    rw [← e]; simp [dstAt, h3, h4.dst]
  intro p q i j hp hq hne
  rcases Nat.lt_or_ge q p with h | h
  · exact key p q i j hp hq h
  · have := key q p j i hq hp (by omega)
    exact ⟨fun e => this.1 e.symm, fun e => this.2 e.symm⟩
theorem cls_pos (hok : okDraw n full hs ls ts = true) (hall : kyO all = (hs ++ ls).map (full[·]?)) {i : Nat} {o : Oper} (ho : full[i]? = some o) : (∃ (p : Nat) (x : Oper × Fact), (hs ++ ls)[p]? = some i ∧ all[p]? = some x ∧ x.1 = o) ∨ i ∈ ts := by
  have hc := (okAt_of hok ho).cls
  have hin : i ∈ hs ++ ls ∨ i ∈ ts := by rcases hc with h | h | h <;> simp [h]
  rcases hin with h | h
  · left
    obtain ⟨p, hp⟩ := List.getElem?_of_mem h
    have hlt : p < all.length := by rw [kyO_len hall]; exact (List.getElem?_eq_some_iff.1 hp).1
    refine ⟨p, all[p], hp, List.getElem?_eq_getElem hlt, ?_⟩
    have := (headAt hok hall hp (List.getElem?_eq_getElem hlt)).1
    rw [ho] at this; exact (Option.some.inj this).symm
  · exact .inr h
theorem tailAt (hok : okDraw n full hs ls ts = true) {j : Nat} (hj : j ∈ ts) : ∃ o, full[j]? = some o ∧ j ∉ hs ∧ j ∉ ls ∧ (∀ h ∈ hs, rch full full.length j h = true) ∧ ∀ t ∈ reads full o, ∀ l ∈ ls, dstAt full l = some t → rch full full.length j l = true := by
  unfold okDraw at hok
  simp only [Bool.and_eq_true] at hok
  have h := List.all_eq_true.1 hok.2 j hj
  unfold okT at h
  split at h
  · rename_i o ho
    simp only [Bool.and_eq_true, Bool.not_eq_true'] at h
    obtain ⟨⟨⟨h1, h2⟩, h3⟩, h4⟩ := h
    refine ⟨o, ho, (fun hm => by rw [hasN_iff.2 hm] at h1; cases h1), (fun hm => by rw [hasN_iff.2 hm] at h2; cases h2), fun k hk => List.all_eq_true.1 h3 k hk, fun t ht l hl hd => ?_⟩
    have := List.all_eq_true.1 (List.all_eq_true.1 h4 t ht) l hl
    simp only [Bool.or_eq_true] at this
    rcases this with h | h
    · exact absurd hd (neD_iff h)
    · exact h
  · cases h
theorem lateAt (hok : okDraw n full hs ls ts = true) {i : Nat} (hi : i ∈ ls) {o : Oper} (ho : full[i]? = some o) {d : Nat} (hd : o.dst = some d) : (∀ j ∈ ts, dstAt full j ≠ some d) ∧ ∀ t ∈ reads full o, ∀ j ∈ ts, dstAt full j = some t → rch full full.length j i = true := by
  unfold okDraw at hok
  simp only [Bool.and_eq_true] at hok
  have h := List.all_eq_true.1 hok.1.2 i hi
  unfold okL at h
  rw [ho] at h
  simp only [Bool.and_eq_true, hd] at h
  exact ⟨fun j hj => neD_iff (List.all_eq_true.1 h.1 j hj), fun t ht j hj hd => by
    have := List.all_eq_true.1 (List.all_eq_true.1 h.2 t ht) j hj
    simp only [Bool.or_eq_true] at this
    rcases this with h | h
    · exact absurd hd (neD_iff h)
    · exact h⟩
/-- All early heads are done. -/
theorem any_two (hok : okDraw n full hs ls ts = true) (hall : kyO all = (hs ++ ls).map (full[·]?)) (hlate : ∀ (p : Nat) (x : Oper × Fact), all[p]? = some x → hs.length ≤ p → Late full SSm fr0 (all.take p) x) :
    ∀ (fuel k : Nat) (done : List Nat) (listed : Array Bool) (A : Array Value) (w : World) (R : Rgs) (H : Hp) (fr : Slots), left full.length listed ≤ fuel → Inv2 n full hs ls ts all fr0 listed A done fr → SH b0 R H w →
      TA n full b0 ls ts SSm (JFin n D Q b0) k done R H fr → wpAnyIn (FW ρ) 0 P .any full.toArray Q fuel listed ⟨A, D⟩ w := by
  intro fuel
  have fin : ∀ (k : Nat) (done : List Nat) (listed : Array Bool) (A : Array Value) (w : World) (R : Rgs) (H : Hp) (fr : Slots), (∀ i, i < full.length → listed.getD i false = true) → Inv2 n full hs ls ts all fr0 listed A done fr → SH b0 R H w →
      TA n full b0 ls ts SSm (JFin n D Q b0) k done R H fr → Q .normal ⟨A, D⟩ w := by
    intro k done listed A w R H fr hl hI hw hT
    have hr : tready full ts done = [] := by
      unfold tready
      rw [List.filter_eq_nil_iff]
      intro j hj
      obtain ⟨o, ho, _⟩ := tailAt hok hj
      have : j ∈ done := (hI.tails j hj).1 (hl j (List.getElem?_eq_some_iff.1 ho).1)
      simp [hasN_iff.2 this]
    refine GX.use (hT.fin hr) w hw A ⟨hI.sz, fun t v h => ?_⟩
    rcases hI.fri t v h with h | ⟨p, i, x, _, hi, hx, hn, _⟩
    · exact h
    · have hfi := (headAt hok hall hi hx).1
      rw [hl i (List.getElem?_eq_some_iff.1 hfi).1] at hn; cases hn
  induction fuel with
  | zero =>
    intro k done listed A w R H fr hl hI hw hT
    have hall' := left_zero (Nat.le_zero.1 hl)
    have hls : ∀ i, i < full.length → listed.getD i false = true := fun i hi => by
      have h2 : i < listed.size := by rw [hI.lsz]; exact hi
      have := hall' i hi; simp [Array.getD, h2] at this ⊢; exact this
    refine ⟨?_, fin k done listed A w R H fr hls hI hw hT⟩
    rw [List.eq_nil_iff_forall_not_mem]
    intro i hi
    obtain ⟨h1, o, ho, _⟩ := mem_ready.1 hi
    have hlt : i < full.length := by have := (Array.getElem?_eq_some_iff.1 ho).1; simpa using this
    rw [hall' i hlt] at h1; cases h1
  | succ fuel ih =>
    intro k done listed A w R H fr hl hI hw hT
    refine ⟨fun hr => fin k done listed A w R H fr (some_ready hok hI.lsz hr) hI hw hT, fun i hi => ?_⟩
    obtain ⟨h1, o, ho, hedge⟩ := mem_ready.1 hi
    have ho' : full[i]? = some o := by simpa using ho
    have hlt : i < full.length := (List.getElem?_eq_some_iff.1 ho').1
    have hlt' : i < listed.size := by rw [hI.lsz]; exact hlt
    have hun : listed.getD i false = false := by simp [Array.getD, hlt'] at h1 ⊢; exact h1
    have heb := eb_ready ho' hedge
    have hok' := okAt_of hok ho'
    have hleft : left full.length (listed.setIfInBounds i true) ≤ fuel := by have := left_set hI.lsz h1; omega
    have hclo := hI.clo.set hlt' heb
    unfold wpOpIn
    rw [ho]
    simp only []
    rcases cls_pos hok hall ho' with ⟨p, x, hp, hx, hxo⟩ | hts
    · -- a late head
      have hple : hs.length ≤ p := by
        rcases Nat.lt_or_ge p hs.length with h | h
        · rw [List.getElem?_append_left h] at hp
          rw [hI.heads i (List.mem_of_getElem? hp)] at hun; cases hun
        · exact h
      have hils : i ∈ ls := by rw [List.getElem?_append_right hple] at hp; exact List.mem_of_getElem? hp
      obtain ⟨c, hxc, hF, hrd⟩ := hlate p x hx hple
      obtain ⟨_, d, hH⟩ := headAt hok hall hp hx
      rw [hxo] at hF hrd hH
      obtain ⟨hl1, hl3⟩ := lateAt hok hils ho' hH.dst
      have hl2 : ∀ t ∈ reads full o, ∀ j ∈ ts, listed.getD j false = true → dstAt full j ≠ some t := fun t ht j hj hlj hd => by
        rw [rch_listed hI.clo _ _ _ (fun e he => hI.clo j hlj e he) (hl3 t ht j hj hd)] at hun; cases hun
      have hd := hH.dst
      have hdn : d < A.size := by have := hok'.dok; rw [hd] at this; rw [hI.sz]; simpa [dOk] using this
      have hSw : SSm w := by
        rcases hT.ssm with h | h
        · exfalso
          obtain ⟨j, hj, hr⟩ := List.any_eq_true.1 (List.all_eq_true.1 h i hils)
          have hjl := hI.dn j hj
          rw [rch_listed hI.clo _ _ _ (fun e he => hI.clo j hjl e he) hr] at hun; cases hun
        · exact h w hw
      refine head_op hd hok'.sel hF hSw (fun t ht => ⟨fun q hq hqd => ?_, fun hno v hv => ?_⟩) ?_
      · obtain ⟨c', hc'⟩ := hrd t ht q hq hqd
        obtain ⟨r, hr⟩ := List.getElem?_of_mem hq
        have hrp : r < p := by have := (List.getElem?_eq_some_iff.1 hr).1; simp at this; omega
        have hr2 : all[r]? = some q := by rw [List.getElem?_take, if_pos hrp] at hr; exact hr
        obtain ⟨j, hj, hfj⟩ := kyO_at hall hr2
        obtain ⟨_, hrc⟩ := hH.rd t ht r j hj (by simp [dstAt, hfj, hqd])
        rw [hc']
        exact hI.val r j q hj hr2 (rch_listed hI.clo _ _ _ heb hrc) t c' hqd (hl2 t ht) hc'
      · refine hI.base t (fun y hy e => ?_) (hl2 t ht) v hv
        obtain ⟨r, hr⟩ := List.getElem?_of_mem hy
        obtain ⟨j, hj, hfj⟩ := kyO_at hall hr
        obtain ⟨hrp, _⟩ := hH.rd t ht r j hj (by simp [dstAt, hfj, e])
        exact hno y (List.mem_of_getElem? (by rw [List.getElem?_take, if_pos hrp]; exact hr : (all.take p)[r]? = some y)) e
      · intro v w' hk hv
        rw [hxc] at hv
        subst hv
        refine ih k done _ _ w' R H fr hleft ?_ (hw.keep hk) hT
        have hdif := dif_of hok
        have hune : ∀ p' i' x', (hs ++ ls)[p']? = some i' → all[p']? = some x' → p' ≠ p → i' ≠ i ∧ x'.1.dst ≠ some d := fun p' i' x' hp' hx' hne => by
          have := hdif p' p i' i hp' hp hne
          refine ⟨this.1, fun e => this.2 ?_⟩
          have h5 := (headAt hok hall hp' hx').1
          simp [dstAt, h5, e, ho', hd]
        refine ⟨by simpa using hI.sz, by simpa using hI.lsz, hclo, fun j hj => lst_mono hlt' (hI.heads j hj), fun j hj => ?_, fun j hj => ?_, fun t u ht => ?_, fun p' i' x' hp1 hp2 hp3 hp4 d' c' hd' hc' => ?_, fun p' i' x' hp2 hp3 hp4 d' c' hd' hnt hc' => ?_, fun t ht hnt u hu => ?_⟩
        · have hij : i ≠ j := fun e => by subst e; obtain ⟨_, _, _, h, _⟩ := tailAt hok hj; exact h hils
          rw [getD_set_ne false hij]; exact hI.tails j hj
        · exact lst_mono hlt' (hI.dn j hj)
        · by_cases htd : t = d
          · subst htd
            left
            have := hI.late p i x hple hp hx hun t v (by rw [hxo]; exact hd) hxc
            rw [this] at ht; cases ht
            exact getD_set_eq hdn
          · rw [getD_set_other htd]
            rcases hI.fri t u ht with h | ⟨p', i', x', a1, a2, a3, a4, a5⟩
            · exact .inl h
            · right
              have hne : p' ≠ p := fun e => by subst e; rw [hx] at a3; cases a3; rw [hxo, hd] at a5; cases a5; exact htd rfl
              refine ⟨p', i', x', a1, a2, a3, ?_, a5⟩
              rw [getD_set_ne false (fun e => (hune p' i' x' a2 a3 hne).1 e.symm)]; exact a4
        · have hne : p' ≠ p := fun e => by subst e; rw [hp] at hp2; cases hp2; rw [lst_set_eq hlt'] at hp4; cases hp4
          rw [getD_set_ne false (fun e => (hune p' i' x' hp2 hp3 hne).1 e.symm)] at hp4
          exact hI.late p' i' x' hp1 hp2 hp3 hp4 d' c' hd' hc'
        · by_cases hne : p' = p
          · subst hne
            rw [hx] at hp3; cases hp3
            rw [hxo, hd] at hd'; cases hd'
            rw [getD_set_eq hdn]
            have := congrFun (congrFun (hxc.symm.trans hc') v) w
            simpa using this
          · have h5 := hune p' i' x' hp2 hp3 hne
            rw [getD_set_ne false (fun e => h5.1 e.symm)] at hp4
            rw [getD_set_other (fun e => h5.2 (by rw [hd', e]))]
            exact hI.val p' i' x' hp2 hp3 hp4 d' c' hd' (fun j hj hlj => hnt j hj (lst_mono hlt' hlj)) hc'
        · rw [getD_set_other (fun e => ht x (List.mem_of_getElem? hx) (by rw [hxo, hd, e]))]
          exact hI.base t ht (fun j hj hlj => hnt j hj (lst_mono hlt' hlj)) u hu
    · -- a tail
      obtain ⟨o', ho2, hnh, hnl, htl, htr⟩ := tailAt hok hts
      rw [ho'] at ho2; cases ho2
      have hnd : i ∉ done := fun h => by rw [(hI.tails i hts).2 h] at hun; cases hun
      have hrdy : i ∈ tready full ts done := by
        refine List.mem_filter.2 ⟨hts, ?_⟩
        simp only [Bool.and_eq_true, Bool.not_eq_true']
        refine ⟨by cases hb : hasN done i with
          | true => exact absurd (hasN_iff.1 hb) hnd
          | false => rfl, List.all_eq_true.2 fun e he => ?_⟩
        cases hb : hasN ts e with
        | false => rfl
        | true => simp only [Bool.not_true, Bool.false_or]; exact hasN_iff.2 ((hI.tails e (hasN_iff.1 hb)).1 (heb e he))
      cases k with
      | zero => rw [hT.2.1] at hrdy; cases hrdy
      | succ k =>
        obtain ⟨o', ho3, hJ⟩ := hT.2.2 i hrdy
        rw [ho'] at ho3; cases ho3
        refine tail_op hJ hok'.sel hw (fun t ht v hv => ?_) fun R' H' v w' hw' hT' => ?_
        · rcases hI.fri t v hv with h | ⟨p, j, x, a1, a2, a3, a4, a5⟩
          · exact h
          · have hj : j ∈ ls := by rw [List.getElem?_append_right a1] at a2; exact List.mem_of_getElem? a2
            have hfj := (headAt hok hall a2 a3).1
            rw [rch_listed hI.clo _ _ _ heb (htr t ht j hj (by simp [dstAt, hfj, a5]))] at a4; cases a4
        · refine ih k (i :: done) _ _ w' R' H' _ hleft ?_ hw' hT'
          have hnx : ∀ p' i', (hs ++ ls)[p']? = some i' → i' ≠ i := fun p' i' hp' e => by
            have := List.mem_of_getElem? hp'
            rw [e] at this
            rcases List.mem_append.1 this with h | h
            · exact hnh h
            · exact hnl h
          have hdst : dstAt full i = o.dst := by simp [dstAt, ho']
          refine ⟨?_, by simpa using hI.lsz, hclo, fun j hj => lst_mono hlt' (hI.heads j hj), fun j hj => ?_, fun j hj => ?_, fun t u ht => ?_, fun p' i' x' hp1 hp2 hp3 hp4 d' c' hd' hc' => ?_, fun p' i' x' hp2 hp3 hp4 d' c' hd' hnt hc' => ?_, fun t ht hnt u hu => ?_⟩
          · cases hd : o.dst with
            | none => exact hI.sz
            | some d => simpa [putA] using hI.sz
          · by_cases e : i = j
            · subst e; simp [lst_set_eq hlt']
            · rw [getD_set_ne false e, hI.tails j hj]; exact ⟨fun h => .tail _ h, fun h => (List.mem_cons.1 h).resolve_left fun h => e h.symm⟩
          · rcases List.mem_cons.1 hj with rfl | hj
            · exact lst_set_eq hlt'
            · exact lst_mono hlt' (hI.dn j hj)
          · have hold : look fr t = some u → (∀ d, o.dst = some d → t ≠ d) → ((putA A o.dst v).getD t undef = u ∨ ∃ p i_1 x, hs.length ≤ p ∧ (hs ++ ls)[p]? = some i_1 ∧ all[p]? = some x ∧ (listed.setIfInBounds i true).getD i_1 false = false ∧ x.1.dst = some t) := fun h hne => by
              rcases hI.fri t u h with h | ⟨p', i', x', a1, a2, a3, a4, a5⟩
              · left
                cases hd : o.dst with
                | none => exact h
                | some d => simp only [putA]; rw [getD_set_other (hne d hd)]; exact h
              · right
                refine ⟨p', i', x', a1, a2, a3, ?_, a5⟩
                rw [getD_set_ne false (fun e => hnx p' i' a2 e.symm)]; exact a4
            cases hd : o.dst with
            | none => rw [hd] at ht hold; exact hold ht (fun d h => by cases h)
            | some d =>
              rw [hd] at ht hold
              simp only [putS, look_cons] at ht
              split at ht
              · rename_i e; subst e; cases ht
                left
                have hdn : t < A.size := by have := hok'.dok; rw [hd] at this; rw [hI.sz]; simpa [dOk] using this
                exact getD_set_eq hdn
              · rename_i e
                exact hold ht (fun d' h => by cases h; exact e)
          · rw [getD_set_ne false (fun e => hnx p' i' hp2 e.symm)] at hp4
            have h6 := hI.late p' i' x' hp1 hp2 hp3 hp4 d' c' hd' hc'
            have hi'ls : i' ∈ ls := by rw [List.getElem?_append_right hp1] at hp2; exact List.mem_of_getElem? hp2
            have h7 := (lateAt hok hi'ls (headAt hok hall hp2 hp3).1 hd').1 i hts
            rw [hdst] at h7
            cases hd : o.dst with
            | none => exact h6
            | some d => simp only [putS, look_cons]; rw [if_neg (fun e => h7 (by rw [hd, e]))]; exact h6
          · rw [getD_set_ne false (fun e => hnx p' i' hp2 e.symm)] at hp4
            have h6 := hI.val p' i' x' hp2 hp3 hp4 d' c' hd' (fun j hj hlj => hnt j hj (lst_mono hlt' hlj)) hc'
            have h7 := hnt i hts (lst_set_eq hlt')
            rw [hdst] at h7
            cases hd : o.dst with
            | none => exact h6
            | some d => simp only [putA]; rw [getD_set_other (fun e => h7 (by rw [hd, e]))]; exact h6
          · have h6 := hI.base t ht (fun j hj hlj => hnt j hj (lst_mono hlt' hlj)) u hu
            have h7 := hnt i hts (lst_set_eq hlt')
            rw [hdst] at h7
            cases hd : o.dst with
            | none => exact h6
            | some d => simp only [putA]; rw [getD_set_other (fun e => h7 (by rw [hd, e]))]; exact h6
/-- Some early head is not done yet. -/
theorem any_one (hok : okDraw n full hs ls ts = true) (hall : kyO all = (hs ++ ls).map (full[·]?)) (hlate : ∀ (p : Nat) (x : Oper × Fact), all[p]? = some x → hs.length ≤ p → Late full SSm fr0 (all.take p) x)
    {SS : World → Prop} (hSS : ∀ w w', SS w → Keep w w' → SS w') (hst : ∀ x ∈ all, Stab x.2) {V' : Slots} {N' : Rel} (hR : Rp all fr0 V' N') (hF : ∀ (p : Nat) (x : Oper × Fact), all[p]? = some x → FOb full SS fr0 (all.take p) x.1 x.2)
    (hfin : ∀ w u, SS w → (∀ t q, lkN N' t = some q → q (u t) w) → ∃ R H, SH b0 R H w ∧ TA n full b0 ls ts SSm (JFin n D Q b0) ts.length [] R H (nsl N' u ++ V'))
    (hNe : ∀ (p : Nat) (x : Oper × Fact), all[p]? = some x → ∀ t, x.1.dst = some t → (lkN N' t).isSome → p < hs.length) :
    ∀ (fuel : Nat) (listed : Array Bool) (A : Array Value) (w : World), listed.size = full.length → left full.length listed ≤ fuel → Clo full listed →
      (∀ j ∈ ts, listed.getD j false = false) → A.size = n → SS w → (∀ (p i : Nat) (x : Oper × Fact), (hs ++ ls)[p]? = some i → all[p]? = some x → listed.getD i false = true → ∀ d, x.1.dst = some d → x.2 (A.getD d undef) w) →
      (∀ t, (∀ x ∈ all, x.1.dst ≠ some t) → ∀ v, look fr0 t = some v → A.getD t undef = v) → wpAnyIn (FW ρ) 0 P .any full.toArray Q fuel listed ⟨A, D⟩ w := by
  have two : ∀ (fuel : Nat) (listed : Array Bool) (A : Array Value) (w : World), (∀ i ∈ hs, listed.getD i false = true) → listed.size = full.length → left full.length listed ≤ fuel → Clo full listed →
      (∀ j ∈ ts, listed.getD j false = false) → A.size = n → SS w → (∀ (p i : Nat) (x : Oper × Fact), (hs ++ ls)[p]? = some i → all[p]? = some x → listed.getD i false = true → ∀ d, x.1.dst = some d → x.2 (A.getD d undef) w) →
      (∀ t, (∀ x ∈ all, x.1.dst ≠ some t) → ∀ v, look fr0 t = some v → A.getD t undef = v) → wpAnyIn (FW ρ) 0 P .any full.toArray Q fuel listed ⟨A, D⟩ w := by
    intro fuel listed A w hhs hlsz hl hclo hun hsz hw hvals hbase
    have hpos : ∀ x ∈ all, ∃ p i, (hs ++ ls)[p]? = some i ∧ all[p]? = some x := fun x hx => by
      obtain ⟨p, hp⟩ := List.getElem?_of_mem hx
      obtain ⟨i, hi, _⟩ := kyO_at hall hp
      exact ⟨p, i, hi, hp⟩
    obtain ⟨R, H, hSH, hT⟩ := hfin w (fun t => A.getD t undef) hw (fun t q hq => by
      obtain ⟨x, hx, h1, h2⟩ := hR.inN t q hq
      subst h2
      obtain ⟨p, i, hi, hp⟩ := hpos x hx
      have hlt := hNe p x hp t h1 (by rw [hq]; rfl)
      rw [List.getElem?_append_left hlt] at hi
      exact hvals p i x (by rw [List.getElem?_append_left hlt]; exact hi) hp (hhs i (List.mem_of_getElem? hi)) t h1)
    refine any_two hok hall hlate fuel _ _ _ _ _ R H _ hl ⟨hsz, hlsz, hclo, hhs, fun j hj => ?_, (fun j hj => by cases hj), fun t v ht => ?_, fun p i x h1 h2 h3 h4 d c hd hc => ?_, fun p i x h2 h3 h4 d c hd _ hc => ?_, fun t ht _ v hv => hbase t ht v hv⟩ hSH hT
    · rw [hun j hj]; simp
    · rw [look_nsl] at ht
      split at ht
      · cases ht; exact .inl rfl
      · rename_i hn
        rcases hR.inV t v hn ht with ⟨x, hx, h1, h2⟩ | ⟨h1, h2⟩
        · obtain ⟨p, i, hi, hp⟩ := hpos x hx
          cases hb : listed.getD i false with
          | true => left; have := hvals p i x hi hp hb t h1; rw [h2] at this; exact this
          | false =>
            right
            refine ⟨p, i, x, ?_, hi, hp, hb, h1⟩
            rcases Nat.lt_or_ge p hs.length with h | h
            · rw [List.getElem?_append_left h] at hi; rw [hhs i (List.mem_of_getElem? hi)] at hb; cases hb
            · exact h
        · exact .inl (hbase t h1 v h2)
    · rw [look_nsl]
      rcases hR.full x (List.mem_of_getElem? h3) d hd with h | ⟨hn, u, hu, hxu⟩
      · have := hNe p x h3 d hd (by rw [h]; rfl); omega
      · rw [hn, hu]
        have := congrFun (congrFun (hxu.symm.trans hc) u) w
        have h5 : u = c := by simpa using this
        rw [h5]
    · have := hvals p i x h2 h3 h4 d hd; rw [hc] at this; exact this
  intro fuel
  induction fuel with
  | zero =>
    intro listed A w hlsz hl hclo hun hsz hw hvals hbase
    refine two 0 listed A w (fun i hi => ?_) hlsz hl hclo hun hsz hw hvals hbase
    have hall' := left_zero (Nat.le_zero.1 hl)
    obtain ⟨p, hp⟩ := List.getElem?_of_mem hi
    have hp' : (hs ++ ls)[p]? = some i := by rw [List.getElem?_append_left (List.getElem?_eq_some_iff.1 hp).1]; exact hp
    have hlt : p < all.length := by rw [kyO_len hall]; exact (List.getElem?_eq_some_iff.1 hp').1
    have hfi := (headAt hok hall hp' (List.getElem?_eq_getElem hlt)).1
    have hi2 : i < full.length := (List.getElem?_eq_some_iff.1 hfi).1
    have h2 : i < listed.size := by rw [hlsz]; exact hi2
    have := hall' i hi2; simp [Array.getD, h2] at this ⊢; exact this
  | succ fuel ih =>
    intro listed A w hlsz hl hclo hun hsz hw hvals hbase
    by_cases hdone : ∀ i ∈ hs, listed.getD i false = true
    · exact two (fuel + 1) listed A w hdone hlsz hl hclo hun hsz hw hvals hbase
    · have hin : ∀ i ∈ hs, i < full.length := fun i hi => by
        obtain ⟨p, hp⟩ := List.getElem?_of_mem hi
        have hp' : (hs ++ ls)[p]? = some i := by rw [List.getElem?_append_left (List.getElem?_eq_some_iff.1 hp).1]; exact hp
        have hlt : p < all.length := by rw [kyO_len hall]; exact (List.getElem?_eq_some_iff.1 hp').1
        exact (List.getElem?_eq_some_iff.1 (headAt hok hall hp' (List.getElem?_eq_getElem hlt)).1).1
      refine ⟨fun hr => absurd (fun i hi => some_ready hok hlsz hr i (hin i hi)) hdone, fun i hi => ?_⟩
      obtain ⟨h1, o, ho, hedge⟩ := mem_ready.1 hi
      have ho' : full[i]? = some o := by simpa using ho
      have hlt : i < full.length := (List.getElem?_eq_some_iff.1 ho').1
      have hlt' : i < listed.size := by rw [hlsz]; exact hlt
      have hunl : listed.getD i false = false := by simp [Array.getD, hlt'] at h1 ⊢; exact h1
      have heb := eb_ready ho' hedge
      have hok' := okAt_of hok ho'
      rcases cls_pos hok hall ho' with ⟨p, x, hp, hx, hxo⟩ | hts
      · obtain ⟨_, d, hH⟩ := headAt hok hall hp hx
        have hFx := hF p x hx
        rw [hxo] at hFx hH
        have hd := hH.dst
        have hdn : d < A.size := by have := hok'.dok; rw [hd] at this; rw [hsz]; simpa [dOk] using this
        unfold wpOpIn
        rw [ho]
        simp only []
        refine head_op hd hok'.sel hFx hw (fun t ht => ⟨fun q hq hqd => ?_, fun hno v hv => ?_⟩) ?_
        · obtain ⟨r, hr⟩ := List.getElem?_of_mem hq
          have hrp : r < p := by have := (List.getElem?_eq_some_iff.1 hr).1; simp at this; omega
          have hr2 : all[r]? = some q := by rw [List.getElem?_take, if_pos hrp] at hr; exact hr
          obtain ⟨j, hj, hfj⟩ := kyO_at hall hr2
          obtain ⟨_, hrc⟩ := hH.rd t ht r j hj (by simp [dstAt, hfj, hqd])
          exact hvals r j q hj hr2 (rch_listed hclo _ _ _ heb hrc) t hqd
        · refine hbase t (fun y hy e => ?_) v hv
          obtain ⟨r, hr⟩ := List.getElem?_of_mem hy
          obtain ⟨j, hj, hfj⟩ := kyO_at hall hr
          obtain ⟨hrp, _⟩ := hH.rd t ht r j hj (by simp [dstAt, hfj, e])
          exact hno y (List.mem_of_getElem? (by rw [List.getElem?_take, if_pos hrp]; exact hr : (all.take p)[r]? = some y)) e
        · intro v w' hk hv
          have hdif := dif_of hok
          have hune : ∀ (p' i' : Nat) (x' : Oper × Fact), (hs ++ ls)[p']? = some i' → all[p']? = some x' → p' ≠ p → i' ≠ i ∧ x'.1.dst ≠ some d := fun p' i' x' hp' hx' hne => by
            have := hdif p' p i' i hp' hp hne
            refine ⟨this.1, fun e => this.2 ?_⟩
            have h5 := (headAt hok hall hp' hx').1
            simp [dstAt, h5, e, ho', hd]
          refine ih _ _ w' (by simpa using hlsz) (by have := left_set hlsz h1; omega) (hclo.set hlt' heb) (fun j hj => ?_) (by simpa using hsz) (hSS _ _ hw hk) (fun p' i' x' hp' hx' hl' d' hd' => ?_) (fun t ht u hu => ?_)
          · have hij : i ≠ j := fun e => by
              subst e
              obtain ⟨_, _, h3, h4, _⟩ := tailAt hok hj
              have := List.mem_of_getElem? hp
              rcases List.mem_append.1 this with h | h
              · exact h3 h
              · exact h4 h
            rw [getD_set_ne false hij]; exact hun j hj
          · by_cases hne : p' = p
            · subst hne
              rw [hx] at hx'; cases hx'
              rw [hxo, hd] at hd'; cases hd'
              rw [getD_set_eq hdn]; exact hv
            · have h5 := hune p' i' x' hp' hx' hne
              rw [getD_set_ne false (fun e => h5.1 e.symm)] at hl'
              rw [getD_set_other (fun e => h5.2 (by rw [hd', e]))]
              exact hst x' (List.mem_of_getElem? hx') _ _ _ (hvals p' i' x' hp' hx' hl' d' hd') hk
          · rw [getD_set_other (fun e => ht x (List.mem_of_getElem? hx) (by rw [hxo, hd, e]))]
            exact hbase t ht u hu
      · exfalso
        obtain ⟨_, _, _, _, htl, _⟩ := tailAt hok hts
        exact hdone fun k hk => rch_listed hclo _ _ _ heb (htl k hk)
/-- A region whose order is open. -/
theorem C_draw (hok : okDraw n full hs ls ts = true) {R : Rgs} {H : Hp} (hSm : ∀ w, SH b0 R H w → SSm w) (hSm2 : ∀ w w', SSm w → Keep w w' → SSm w') {id : Nat}
    (h : DR full (SH b0 R H) hs fr0 [] fun V1 N1 => DX full SSm ls V1 N1 fun V2 => ∀ w u, SH b0 R H w → (∀ t q, lkN N1 t = some q → q (u t) w) → ∃ R' H', SH b0 R' H' w ∧ TA n full b0 ls ts SSm (JFin n D Q b0) ts.length [] R' H' (nsl N1 u ++ V2)) :
    ∀ w, SH b0 R H w → C ρ n D (.region id full.toArray true) Q fr0 w := by
  intro w hw A hA
  have hsel : ∀ i ∈ hs ++ ls, ∀ o, full[i]? = some o → nsel o.op = true := fun i _ o ho => (okAt_of hok ho).sel
  have hdif := dif_of hok
  obtain ⟨all1, V1, N1, hk1, hst1, hR1, hfin1, hF1, _⟩ := DR.family (full := full) (SS := SH b0 R H) (fr0 := fr0) hs [] [] fr0 [] rfl (Rp.start fr0) (fun x hx => by simp at hx)
    (fun i hi => hsel i (by simp [hi])) (fun p q i j hp hq hne => hdif p q i j (by simp only [List.nil_append] at hp; rw [List.getElem?_append_left (List.getElem?_eq_some_iff.1 hp).1]; exact hp) (by simp only [List.nil_append] at hq; rw [List.getElem?_append_left (List.getElem?_eq_some_iff.1 hq).1]; exact hq) hne) h
  simp only [List.nil_append] at hk1
  obtain ⟨all, V2, hk2, hst2, hR2, hfin2, hF2, htk⟩ := DX.family (full := full) (SS := SSm) (fr0 := fr0) ls hs all1 V1 hk1 hR1 hst1 (fun i hi => hsel i (by simp [hi])) hdif hfin1
  have hl1 : all1.length = hs.length := kyO_len hk1
  have hlate : ∀ (p : Nat) (x : Oper × Fact), all[p]? = some x → hs.length ≤ p → Late full SSm fr0 (all.take p) x := fun p x hx hle => hF2 p x hx (by omega)
  have hearly : ∀ (p : Nat) (x : Oper × Fact), all[p]? = some x → p < hs.length → all1[p]? = some x ∧ all.take p = all1.take p := fun p x hx hlt => by
    have e1 : all1[p]? = all[p]? := by
      have := congrArg (·[p]?) htk
      simp only [List.getElem?_take] at this
      rw [if_pos (by omega)] at this
      exact this.symm
    refine ⟨e1.trans hx, ?_⟩
    have := congrArg (List.take p) htk
    rw [List.take_take, Nat.min_eq_left (by omega)] at this
    exact this
  have hF : ∀ (p : Nat) (x : Oper × Fact), all[p]? = some x → FOb full (SH b0 R H) fr0 (all.take p) x.1 x.2 := fun p x hx => by
    rcases Nat.lt_or_ge p hs.length with hlt | hge
    · obtain ⟨h1, h2⟩ := hearly p x hx hlt
      rw [h2]; exact hF1 p x h1 (Nat.zero_le _)
    · obtain ⟨c, h1, h2, h3⟩ := hlate p x hx hge
      exact fun w val hw hn => h2 w val (hSm w hw) hn
  refine wpIn_region_any mixed ?_
  have hsize : full.toArray.size = full.length := by simp
  rw [hsize]
  have hk : Keep w { w with drawn := w.drawn + 1 } := ⟨rfl, rfl, rfl, Nat.le_refl _, fun _ _ => rfl⟩
  refine any_one hok hk2 hlate (SS := SH b0 R H) (fun w w' h k => h.keep k) hst2 hR2 hF hfin2 (fun p x hx t ht hN => ?_) _ _ A _ (by simp) ?_ (fun i hi => ?_) (fun j _ => ?_) hA.size (hw.keep hk) (fun p i x hp hx hl => ?_) (fun t ht v hv => hA.at_ t v hv)
  · rcases Nat.lt_or_ge p hs.length with h | h
    · exact h
    · obtain ⟨c, h1, _⟩ := hlate p x hx h
      rw [Option.isSome_iff_exists] at hN
      obtain ⟨q, hq⟩ := hN
      obtain ⟨y, hy, hyd, _⟩ := hR1.inN t q hq
      obtain ⟨r, hr⟩ := List.getElem?_of_mem hy
      have hrl : r < all1.length := (List.getElem?_eq_some_iff.1 hr).1
      have hr2 : all[r]? = some y := by
        have := congrArg (·[r]?) htk
        simp only [List.getElem?_take] at this
        rw [if_pos hrl] at this; exact this.trans hr
      obtain ⟨i1, hi1, hf1⟩ := kyO_at hk2 hx
      obtain ⟨i2, hi2, hf2⟩ := kyO_at hk2 hr2
      exfalso
      exact (hdif p r i1 i2 hi1 hi2 (by omega)).2 (by simp [dstAt, hf1, hf2, ht, hyd])
  · unfold left
    exact Nat.le_trans (List.length_filter_le _ _) (by simp)
  · simp only [Array.getD_eq_getD_getElem?, Array.getElem?_replicate] at hi; split at hi <;> cases hi
  · simp only [Array.getD_eq_getD_getElem?, Array.getElem?_replicate]; split <;> rfl
  · simp only [Array.getD_eq_getD_getElem?, Array.getElem?_replicate] at hl; split at hl <;> cases hl
variable {R : Rgs} {H : Hp}
/-- The same, kept shut. -/
def TB (n : Nat) (full : List Oper) (b0 : World) (ls ts : List Nat) (SSm : World → Prop) (Fin : Kt) (k : Nat) (done : List Nat) : Kt := TA n full b0 ls ts SSm Fin k done
theorem TB.use {n : Nat} {full : List Oper} {b0 : World} {ls ts : List Nat} {SSm : World → Prop} {Fin : Kt} {k : Nat} {done : List Nat} {R : Rgs} {H : Hp} {fr : Slots} (h : TB n full b0 ls ts SSm Fin k done R H fr) : TA n full b0 ls ts SSm Fin k done R H fr := h
theorem TB_one {ls ts done : List Nat} {SSm : World → Prop} {K : Kt} {k j : Nat} {o : Oper} {fr : Slots} (hr : tready full ts done = [j]) (ho : full[j]? = some o) (hS : lateDone full ls done = true ∨ ∀ w, SH b0 R H w → SSm w)
    (h : JO n full b0 R H o fr (TB n full b0 ls ts SSm K k (j :: done))) : TB n full b0 ls ts SSm K (k + 1) done R H fr :=
  ⟨hS, fun e => (by rw [hr] at e; cases e), fun i hi => by rw [hr] at hi; simp at hi; subst hi; exact ⟨o, ho, h⟩⟩
theorem TB_two {ls ts done : List Nat} {SSm : World → Prop} {K : Kt} {k i j : Nat} {o p : Oper} {fr : Slots} (hr : tready full ts done = [i, j]) (ho : full[i]? = some o) (hp : full[j]? = some p) (hS : lateDone full ls done = true ∨ ∀ w, SH b0 R H w → SSm w)
    (h1 : JO n full b0 R H o fr (TB n full b0 ls ts SSm K k (i :: done))) (h2 : JO n full b0 R H p fr (TB n full b0 ls ts SSm K k (j :: done))) : TB n full b0 ls ts SSm K (k + 1) done R H fr :=
  ⟨hS, fun e => (by rw [hr] at e; cases e), fun x hx => by
    rw [hr] at hx; simp at hx
    rcases hx with rfl | rfl
    · exact ⟨o, ho, h1⟩
    · exact ⟨p, hp, h2⟩⟩
theorem TB_end {ls ts done : List Nat} {SSm : World → Prop} {k : Nat} {fr : Slots} (hr : tready full ts done = []) (hS : lateDone full ls done = true ∨ ∀ w, SH b0 R H w → SSm w) (h : GX n D Q b0 R H .normal fr) : TB n full b0 ls ts SSm (JFin n D Q b0) k done R H fr := by
  cases k with
  | zero => exact ⟨hS, hr, h⟩
  | succ k => exact ⟨hS, fun _ => h, fun i hi => by rw [hr] at hi; cases hi⟩
end
attribute [irreducible] TB
end Go.Proofs.YtkbaaikidhbfmaaGreat
/- Regions of open order without a world: the rules of their walk. No statement is proved here. -/
set_option linter.unusedVariables false
set_option linter.unusedSimpArgs false
namespace Go.Proofs.YtkbaaikidhbfmaaGreat
open Go.RowKit

abbrev FinT := Slots → Rel → Prop
def GD (full : List Oper) (b0 : World) (R : Rgs) (H : Hp) (is : List Nat) (V : Slots) (N : Rel) (Fin : FinT) : Prop := DR full (SH b0 R H) is V N Fin
/-- One head. -/
def GO (full : List Oper) (b0 : World) (R : Rgs) (H : Hp) (o : Oper) (is : List Nat) (V : Slots) (N : Rel) (Fin : FinT) : Prop := ∃ d, o.dst = some d ∧ ((∃ c, DOb full (SH b0 R H) o V N (fun v _ => v = c) ∧ DR full (SH b0 R H) is ((d, c) :: V) N Fin) ∨
      (∃ p, Stab p ∧ DOb full (SH b0 R H) o V N p ∧ DR full (SH b0 R H) is V ((d, p) :: N) Fin))
/-- The late heads. -/
def GL (full : List Oper) (b0 : World) (R : Rgs) (H : Hp) (is : List Nat) (V : Slots) (N : Rel) (Fin : Slots → Prop) : Prop := DX full (SH b0 R H) is V N Fin
def GM (full : List Oper) (b0 : World) (R : Rgs) (H : Hp) (o : Oper) (is : List Nat) (V : Slots) (N : Rel) (Fin : Slots → Prop) : Prop := ∃ d, o.dst = some d ∧ ((reads full o).all fun t => (lkN N t).isNone) = true ∧ ∃ c, DOb full (SH b0 R H) o V N (fun v _ => v = c) ∧ DX full (SH b0 R H) is ((d, c) :: V) N Fin
def DFin (n : Nat) (D : List Deferred) (Q : Post) (full : List Oper) (b0 : World) (R : Rgs) (H : Hp) (ls ts : List Nat) (SSm : World → Prop) : FinT := fun V N =>
  ∀ w u, SH b0 R H w → (∀ t q, lkN N t = some q → q (u t) w) → ∃ R' H', SH b0 R' H' w ∧ TA n full b0 ls ts SSm (JFin n D Q b0) ts.length [] R' H' (nsl N u ++ V)
theorem SH.weak {b0 : World} {R R' : Rgs} {H H' : Hp} {w : World} (h : SH b0 R' H' w) (hR : ∀ r ∈ R, r ∈ R') (hH : H.Sublist H') : SH b0 R H w :=
  ⟨h.bas, fun r hr => h.rng r (hR r hr), fun p hp => h.own p (hH.subset hp), h.nd.sublist hH, fun p hp r hr hb => h.apt p (hH.subset hp) r (hR r hr) hb⟩
/-- Whatever is not one's own. -/
def Off (H : Hp) : Nat → Prop := fun b => ∀ p ∈ H, p.1 ≠ b
theorem Off.lt {b0 : World} {R : Rgs} {H : Hp} {w : World} (h : SH b0 R H w) {b : Nat} (hb : w.heap.size ≤ b) : Off H b := fun p hp e => by have := h.lt hp; omega
theorem SH.off {b0 : World} {R : Rgs} {H : Hp} {w : World} (h : SH b0 R H w) : SH b0 ((Off H, w) :: R) H w := h.add _ fun p hp ho => ho p hp rfl
theorem Arr.keep {α : Type} {G : Nat → Prop} {w w' : World} {sz : Nat} {enc : α → List Value} {v : Value} {xs : List α} (h : Arr G w sz enc v xs) (k : Keep w w') : Arr G w' sz enc v xs := h.move fun b _ hb => k.block b hb
theorem Arr.stab {α : Type} {G : Nat → Prop} {sz : Nat} {enc : α → List Value} {xs : List α} : Stab fun v w => Arr G w sz enc v xs := fun v w w' h k => h.keep k

section
variable {ρ : Option Nat} {n : Nat} {D : List Deferred} {Q : Post} {b0 : World} {R : Rgs} {H : Hp} {full : List Oper} {is : List Nat} {V : Slots} {N : Rel} {Fin : FinT} {FinL : Slots → Prop}
theorem GC_drawA (hs ts : List Nat) {id : Nat} {l : List Oper} {fr : Slots} (hok : okDraw n l hs [] ts = true) (h : GD l b0 R H hs fr [] (DFin n D Q l b0 R H [] ts fun _ => True)) : GC ρ n D Q b0 R H (.region id l.toArray true) fr :=
  GC.mk fun w hw => C_draw (SSm := fun _ => True) hok (fun _ _ => trivial) (fun _ _ _ _ => trivial) h w hw
theorem GC_drawB (hs ls ts : List Nat) (Hm : Hp) {id : Nat} {l : List Oper} {fr : Slots} (hok : okDraw n l hs ls ts = true) (hsub : Hm.Sublist H)
    (h : GD l b0 R H hs fr [] fun V N => GL l b0 R Hm ls V N fun V => DFin n D Q l b0 R H ls ts (SH b0 R Hm) V N) : GC ρ n D Q b0 R H (.region id l.toArray true) fr :=
  GC.mk fun w hw => C_draw (SSm := SH b0 R Hm) hok (fun w h => h.weak (fun r h => h) hsub) (fun w w' h k => h.keep k) h w hw
theorem GD_at {i : Nat} {o : Oper} (ho : full[i]? = some o) (h : GO full b0 R H o is V N Fin) : GD full b0 R H (i :: is) V N Fin := ⟨o, ho, h⟩
theorem GD_nil (h : Fin V N) : GD full b0 R H [] V N Fin := h
theorem GL_at {i : Nat} {o : Oper} (ho : full[i]? = some o) (h : GM full b0 R H o is V N FinL) : GL full b0 R H (i :: is) V N FinL := ⟨o, ho, h⟩
theorem GL_nil (h : FinL V) : GL full b0 R H [] V N FinL := h
theorem DFin_0 {ls ts : List Nat} {SSm : World → Prop} (h : TB n full b0 ls ts SSm (JFin n D Q b0) ts.length [] R H V) : DFin n D Q full b0 R H ls ts SSm V [] := fun w u hw _ => ⟨R, H, hw, h.use⟩
theorem DFin_n {ls ts : List Nat} {SSm : World → Prop} (h : ∀ w u, SH b0 R H w → (∀ t q, lkN N t = some q → q (u t) w) → TB n full b0 ls ts SSm (JFin n D Q b0) ts.length [] ((Off H, w) :: R) H (nsl N u ++ V)) : DFin n D Q full b0 R H ls ts SSm V N :=
  fun w u hw hq => ⟨_, H, hw.off, (h w u hw hq).use⟩
def noN (N : Rel) (o : Oper) : Bool := o.op.operands.toList.all fun | .tmp t => (lkN N t).isNone | _ => true
def gok (full : List Oper) (V : Slots) (N : Rel) (o : Oper) : Bool := match o.guard with
  | none => true
  | some (j, b) => match (full[j]?).bind (·.dst) with
    | some d => (lkN N d).isNone && (match look V d with | some (.bool c) => c == b | _ => false)
    | none => false
def gno (full : List Oper) (V : Slots) (N : Rel) (o : Oper) : Bool := match o.guard with
  | none => false
  | some (j, b) => match (full[j]?).bind (·.dst) with
    | some d => (lkN N d).isNone && (match look V d with | some (.bool c) => c != b | _ => false)
    | none => false
theorem St.under {o : Oper} {w : World} {K : Value → World → Prop} {u : Nat → Value} (hs : nsel o.op = true) (hn : noN N o = true) (h : St o V w K) : St o (nsl N u ++ V) w K := by
  intro f hf
  let f' : Operand → Value := fun x => match x with
    | .tmp t => (match lkN N t with | some _ => (look V t).getD (f (.tmp t)) | none => f (.tmp t))
    | x => f x
  have hx := h f' (fun x v hv => by
    cases x with
    | tmp t =>
      have hv' : look V t = some v := hv
      simp only [f']
      split
      · rw [hv']; rfl
      · rename_i hnn
        exact hf (.tmp t) v (by show look (nsl N u ++ V) t = some v; rw [look_nsl, hnn]; exact hv')
    | const c => exact hf _ v hv
    | global g => exact hf _ v hv
    | func g => exact hf _ v hv)
  have e : execOp f' o = execOp f o := execOp_congr o (fun cs b e => by rw [e] at hs; cases hs) (fun x hx => by
    cases x with
    | tmp t =>
      have := List.all_eq_true.1 hn (.tmp t) (by simpa using hx)
      simp only [Option.isNone_iff_eq_none] at this
      simp only [f', this]
    | const c => rfl
    | global g => rfl
    | func g => rfl)
  rw [← e]; exact hx
theorem StG.yes {o : Oper} {w : World} {K : Value → World → Prop} {u : Nat → Value} (hg : gok full V N o = true) (h : St o (nsl N u ++ V) w K) : StG full o (nsl N u ++ V) w K := by
  unfold StG
  unfold gok at hg
  cases hgd : o.guard with
  | none => exact h
  | some jb =>
    obtain ⟨j, b⟩ := jb
    rw [hgd] at hg
    simp only at hg ⊢
    cases hd : (full[j]?).bind (·.dst) with
    | none => rw [hd] at hg; cases hg
    | some d =>
      rw [hd] at hg
      simp only [Bool.and_eq_true, Option.isNone_iff_eq_none] at hg
      obtain ⟨h1, h2⟩ := hg
      cases hl : look V d with
      | none => rw [hl] at h2; cases h2
      | some v =>
        rw [hl] at h2
        cases v <;> simp at h2
        rename_i c
        obtain ⟨oj, ho, hod⟩ := Option.bind_eq_some_iff.1 hd
        refine ⟨c, ?_, fun _ => h, fun hne => absurd h2 hne⟩
        simp only [gval, ho, hod, look_nsl, h1, hl]
theorem StG.no {o : Oper} {w : World} {K : Value → World → Prop} {u : Nat → Value} (hg : gno full V N o = true) (h : K undef w) : StG full o (nsl N u ++ V) w K := by
  unfold StG
  unfold gno at hg
  cases hgd : o.guard with
  | none => rw [hgd] at hg; cases hg
  | some jb =>
    obtain ⟨j, b⟩ := jb
    rw [hgd] at hg
    simp only at hg ⊢
    cases hd : (full[j]?).bind (·.dst) with
    | none => rw [hd] at hg; cases hg
    | some d =>
      rw [hd] at hg
      simp only [Bool.and_eq_true, Option.isNone_iff_eq_none] at hg
      obtain ⟨h1, h2⟩ := hg
      cases hl : look V d with
      | none => rw [hl] at h2; cases h2
      | some v =>
        rw [hl] at h2
        cases v <;> simp at h2
        rename_i c
        obtain ⟨oj, ho, hod⟩ := Option.bind_eq_some_iff.1 hd
        refine ⟨c, ?_, fun e => absurd e h2, fun _ => h⟩
        simp only [gval, ho, hod, look_nsl, h1, hl]
theorem GD_ex {d : Nat} {op : Op} {ty : TypeId} {ps : String} {af : Array Edge} {g : Option (Nat × Bool)} {c : Value} (hg : (nsel op && gok full V N ⟨some d, op, ty, ps, af, g⟩ && noN N ⟨some d, op, ty, ps, af, g⟩) = true) (ho : Ob b0 R H ⟨some d, op, ty, ps, af, g⟩ V c)
    (h : GD full b0 R H is ((d, c) :: V) N Fin) : GO full b0 R H ⟨some d, op, ty, ps, af, g⟩ is V N Fin := by
  simp only [Bool.and_eq_true] at hg
  refine ⟨d, rfl, .inl ⟨c, fun w u hw hq => StG.yes hg.1.2 ?_, h⟩⟩
  exact (St.under hg.1.1 hg.2 (ho.use w hw)).mono fun v w' ⟨e, k⟩ => ⟨k, e⟩
theorem GD_no {d : Nat} {op : Op} {ty : TypeId} {ps : String} {af : Array Edge} {g : Option (Nat × Bool)} (hg : gno full V N ⟨some d, op, ty, ps, af, g⟩ = true)
    (h : GD full b0 R H is ((d, undef) :: V) N Fin) : GO full b0 R H ⟨some d, op, ty, ps, af, g⟩ is V N Fin :=
  ⟨d, rfl, .inl ⟨undef, fun w u hw hq => StG.no hg ⟨Keep.refl w, rfl⟩, h⟩⟩
/-- What is only described. -/
theorem GD_rel {d : Nat} {op : Op} {ty : TypeId} {ps : String} {af : Array Edge} {g : Option (Nat × Bool)} (p : Fact) (hp : Stab p) (hg : gok full V N ⟨some d, op, ty, ps, af, g⟩ = true)
    (ho : ∀ w u, SH b0 R H w → (∀ t q, lkN N t = some q → t ∈ reads full ⟨some d, op, ty, ps, af, g⟩ → q (u t) w) → St ⟨some d, op, ty, ps, af, g⟩ (nsl N u ++ V) w fun v w' => Keep w w' ∧ p v w')
    (h : GD full b0 R H is V ((d, p) :: N) Fin) : GO full b0 R H ⟨some d, op, ty, ps, af, g⟩ is V N Fin :=
  ⟨d, rfl, .inr ⟨p, hp, fun w u hw hq => StG.yes hg (ho w u hw hq), h⟩⟩
/-- A value that is known for sure, of a slot that is only described. -/
theorem GD_rex {d : Nat} {op : Op} {ty : TypeId} {ps : String} {af : Array Edge} {g : Option (Nat × Bool)} (c : Value) (hg : gok full V N ⟨some d, op, ty, ps, af, g⟩ = true)
    (ho : ∀ w u, SH b0 R H w → (∀ t q, lkN N t = some q → t ∈ reads full ⟨some d, op, ty, ps, af, g⟩ → q (u t) w) → St ⟨some d, op, ty, ps, af, g⟩ (nsl N u ++ V) w fun v w' => v = c ∧ Keep w w')
    (h : GD full b0 R H is ((d, c) :: V) N Fin) : GO full b0 R H ⟨some d, op, ty, ps, af, g⟩ is V N Fin :=
  ⟨d, rfl, .inl ⟨c, fun w u hw hq => StG.yes hg ((ho w u hw hq).mono fun v w' ⟨e, k⟩ => ⟨k, e⟩), h⟩⟩
theorem GD_cmp {d : Nat} {op : BinOp} {t yt ty : TypeId} {x y : Operand} {ps : String} {af : Array Edge} {g : Option (Nat × Bool)} {k : IntKind} {a b : Int} {p : Prop} [Decidable p]
    (hg : (gok full V N ⟨some d, .binOp op t x y yt, ty, ps, af, g⟩ && noN N ⟨some d, .binOp op t x y yt, ty, ps, af, g⟩) = true) (hx : ev V x = some (.int k a)) (hy : ev V y = some (.int k b))
    (hc : cmpB op a b = some (decide p)) (h1 : p → GD full b0 R H is ((d, .bool true) :: V) N Fin) (h2 : ¬ p → GD full b0 R H is ((d, .bool false) :: V) N Fin) :
    GO full b0 R H ⟨some d, .binOp op t x y yt, ty, ps, af, g⟩ is V N Fin := by
  by_cases hp : p
  · exact GD_ex (by simpa [nsel] using hg) (Ob_cmpT hx hy hc hp) (h1 hp)
  · exact GD_ex (by simpa [nsel] using hg) (Ob_cmpF hx hy hc hp) (h2 hp)
def rdN (full : List Oper) (N : Rel) (o : Oper) : Bool := (reads full o).all fun t => (lkN N t).isNone
theorem GL_ex {d : Nat} {op : Op} {ty : TypeId} {ps : String} {af : Array Edge} {g : Option (Nat × Bool)} {c : Value} (hg : (nsel op && gok full V N ⟨some d, op, ty, ps, af, g⟩ && noN N ⟨some d, op, ty, ps, af, g⟩ && rdN full N ⟨some d, op, ty, ps, af, g⟩) = true) (ho : Ob b0 R H ⟨some d, op, ty, ps, af, g⟩ V c)
    (h : GL full b0 R H is ((d, c) :: V) N FinL) : GM full b0 R H ⟨some d, op, ty, ps, af, g⟩ is V N FinL := by
  simp only [Bool.and_eq_true] at hg
  refine ⟨d, rfl, hg.2, c, fun w u hw hq => StG.yes hg.1.1.2 ?_, h⟩
  exact (St.under hg.1.1.1 hg.1.2 (ho.use w hw)).mono fun v w' ⟨e, k⟩ => ⟨k, e⟩
theorem GL_no {d : Nat} {op : Op} {ty : TypeId} {ps : String} {af : Array Edge} {g : Option (Nat × Bool)} (hg : (gno full V N ⟨some d, op, ty, ps, af, g⟩ && rdN full N ⟨some d, op, ty, ps, af, g⟩) = true)
    (h : GL full b0 R H is ((d, undef) :: V) N FinL) : GM full b0 R H ⟨some d, op, ty, ps, af, g⟩ is V N FinL := by
  simp only [Bool.and_eq_true] at hg
  exact ⟨d, rfl, hg.2, undef, fun w u hw hq => StG.no hg.1 ⟨Keep.refl w, rfl⟩, h⟩
end
attribute [irreducible] GD GO GL GM
end Go.Proofs.YtkbaaikidhbfmaaGreat
/- Slices in blocks of one's own: literals, make, append; what is known of them. No statement is proved here. -/
set_option linter.unusedVariables false
set_option linter.unusedSimpArgs false
namespace Go.Proofs.YtkbaaikidhbfmaaGreat
open Go.RowKit

theorem SH.perm {b0 : World} {R : Rgs} {H H' : Hp} {w : World} (h : SH b0 R H w) (hp : H.Perm H') : SH b0 R H' w :=
  ⟨h.bas, h.rng, fun p hm => h.own p (hp.mem_iff.2 hm), (hp.pairwise_iff (fun {a b} h => h.symm)).1 h.nd, fun p hm r hr hb => h.apt p (hp.mem_iff.2 hm) r hr hb⟩
/-- A slice in a block of one's own, or the nil slice: n elements of sz cells, data, and what lies behind. -/
def OwnC (sz : Nat) (v : Value) (n : Nat) (data sp : List Value) : Prop :=
  (v = .slice none 0 0 ∧ n = 0 ∧ data = [] ∧ sp = []) ∨ ∃ b c, v = .slice (some ⟨b, 0, none⟩) n c ∧ n ≤ c ∧ c ≤ 9223372036854775807 ∧ data.length = n * sz ∧ data.length + sp.length = c * sz
def rowH (v : Value) (e : TypeId) (cells : List Value) : Hp := match v with
  | .slice (some a) _ _ => [(a.block, .cells cells.toArray e)]
  | _ => []
/-- What an append takes: m elements of sz cells. -/
def SlC (w : World) (u : Value) (m sz : Nat) (news : List Value) : Prop := ∃ A c, u = .slice A m c ∧ news.length = m * sz ∧ (A = none → m = 0) ∧ ∀ a, A = some a → ∀ j v, news[j]? = some v → w.cell? (a.add j) = some v
class TyApp (t : Nat) (e sz by_ : outParam Nat) : Prop where
  h : P.underlying t = some (.slice e)
  i : (P.info? e).map (fun i => (i.zero.map fun z => z.cells.size, i.size, i.bytes)) = some (some (sz + 1), sz + 1, by_ + 1)
theorem TyApp.info {t e sz by_ : Nat} (h : TyApp t e sz by_) : ∃ (i : TypeInfo) (z : Value), P.info? e = some i ∧ i.zero = some z ∧ i.size = sz + 1 ∧ i.bytes = by_ + 1 ∧ z.cells.size = sz + 1 := by
  have := h.i
  cases hi : P.info? e with
  | none => rw [hi] at this; cases this
  | some i =>
    rw [hi] at this
    simp only [Option.map_some, Option.some.injEq, Prod.mk.injEq] at this
    obtain ⟨h1, h2, h3⟩ := this
    cases hz : i.zero with
    | none => rw [hz] at h1; cases h1
    | some z => rw [hz] at h1; exact ⟨i, z, rfl, hz, h2, h3, by simpa using h1⟩
theorem run_firstCells {w : World} {u : Value} {m sz : Nat} {news : List Value} (hx : SlC w u m sz news) : (Builtin.firstCells sz m u).run P w = .ok news.toArray w := by
  obtain ⟨A, c, rfl, hl, hn, hc⟩ := hx
  cases A with
  | none => have := hn rfl; subst this; simp at hl; subst hl; exact run_firstCells_none w sz 0 0 c
  | some a => exact run_firstCells_some w sz m a m c news hl (hc a rfl)
theorem splice_at : ∀ (news pre sp : List Value), news.length ≤ sp.length → splice (pre ++ sp) pre.length news = pre ++ news ++ sp.drop news.length
  | [], pre, sp, _ => by simp [splice]
  | v :: vs, pre, sp, h => by
    cases sp with
    | nil => simp at h
    | cons s ss =>
      have e : (pre ++ s :: ss).set pre.length v = (pre ++ [v]) ++ ss := by simp [List.set_append]
      simp only [splice, e]
      have := splice_at vs (pre ++ [v]) ss (by simpa using h)
      rw [show pre.length + 1 = (pre ++ [v]).length by simp, this]
      simp
theorem SH.row_new {b0 : World} {R : Rgs} {A : Hp} {w : World} (hw : SH b0 R A w) (e : TypeId) (cells : Array Value) (cs : List Value) (he : cells = cs.toArray) (n c : Nat) :
    SH b0 R (A ++ rowH (.slice (some ⟨w.heap.size, 0, none⟩) n c) e cs) (w.drew.alloc (.cells cells e)) := by
  subst he
  exact (hw.drew.new (.cells cs.toArray e)).perm (List.perm_append_comm (l₁ := [(w.heap.size, Obj.cells cs.toArray e)]))
theorem rowH_sub {A : Hp} {v : Value} {e : TypeId} {cs : List Value} : A.Sublist (A ++ rowH v e cs) := List.sublist_append_left _ _
theorem setH_app (A : Hp) (b : Nat) (o o' : Obj) : setH (A ++ [(b, o)]) A.length o' = A ++ [(b, o')] := by
  induction A with
  | nil => rfl
  | cons p r ih => simp [setH, ih]
theorem run_append {t e sz by_ : Nat} [h : TyApp t e sz by_] {b0 : World} {R : Rgs} {A : Hp} {w : World} {v u : Value} {n m : Nat} {olds news sp : List Value} {ty : TypeId}
    (hv : OwnC (sz + 1) v n olds sp) (hx : SlC w u m (sz + 1) news) (h1 : news.all oneCell = true) (hb : (n + m) * (by_ + 1) ≤ 140737488355328) (hn : n + m ≤ 9223372036854775807) (hw : SH b0 R (A ++ rowH v e (olds ++ sp)) w) :
    ∃ v' w' sp', (Builtin.append_ #[t, t] ty #[v, u]).run P w = .ok v' w' ∧ SH b0 R (A ++ rowH v' e (olds ++ news ++ sp')) w' ∧ OwnC (sz + 1) v' (n + m) (olds ++ news) sp' := by
  have hf := fun w' (h : SlC w' u m (sz + 1) news) => run_firstCells h
  obtain ⟨Ax, cx, rfl, hl, hnx, hcx⟩ := hx
  have hx : SlC w (.slice Ax m cx) m (sz + 1) news := ⟨Ax, cx, rfl, hl, hnx, hcx⟩
  have hfx := hf w hx
  have hu := h.h
  obtain ⟨i, z, hi, hz, hs, hby, hzs⟩ := h.info
  have hlen : ∀ (k : Nat), (Builtin.zeroCells z.cells k).toList.length = k * (sz + 1) := fun k => by rw [Array.length_toList, size_zeroCells, hzs]
  rcases hv with ⟨rfl, rfl, rfl, rfl⟩ | ⟨b, c, rfl, hnc, hc, hol, hcs⟩
  · rcases Nat.eq_zero_or_pos m with rfl | hpm
    · have : news = [] := by simpa using hl
      subst this
      refine ⟨.slice none 0 0, w, [], ?_, by simpa [rowH] using hw, .inl ⟨rfl, rfl, rfl, rfl⟩⟩
      simp [Builtin.append_, run_underlying hu, sizeOf, typeInfo, hi, Builtin.lenOf, hs, hfx, Result.andThen]
    · obtain ⟨a, rfl⟩ : ∃ a, Ax = some a := by
        cases Ax with
        | none => have := hnx rfl; omega
        | some a => exact ⟨a, rfl⟩
      have hr := run_append_nil (P := P) w t ty e i z hu hi hz a m cx news (by rw [hs]; exact hl) (hcx a rfl) hpm (by omega) (by rw [hby]; simp at hb; omega)
      have g1 := grownCap_ge w m 0 e
      have g2 := grownCap_le_maxLen w m 0 e (by simp only [maxLen]; omega)
      simp only [maxLen] at g2
      generalize grownCap w m 0 e = gc at hr g1 g2
      refine ⟨.slice (some ⟨w.heap.size, 0, none⟩) m gc, _, (Builtin.zeroCells z.cells (gc - m)).toList, hr, ?_, ?_⟩
      · exact SH.row_new (by simpa [rowH] using hw) e _ _ (by simp) m _
      · simp only [Nat.zero_add, List.nil_append]
        refine .inr ⟨w.heap.size, gc, rfl, g1, by omega, hl, ?_⟩
        rw [hlen, hl, ← Nat.add_mul, Nat.add_sub_cancel' g1]
  · by_cases hroom : n + m ≤ c
    · have hnl : news.length ≤ sp.length := by
        have h5 : (n + m) * (sz + 1) ≤ c * (sz + 1) := Nat.mul_le_mul_right _ hroom
        rw [Nat.add_mul] at h5; omega
      simp only [rowH] at hw
      have hi2 : (A ++ [(b, Obj.cells (olds ++ sp).toArray e)])[A.length]? = some (b, Obj.cells (olds ++ sp).toArray e) := by simp
      have hbk := hw.own _ (List.mem_of_getElem? hi2)
      obtain ⟨w', s1, s2, s3, s4, s5, s6, s7⟩ := run_storeCells (b := b) (T := e) news (olds ++ sp) olds.length 0 w hbk (by simp; omega) h1
      refine ⟨.slice (some ⟨b, 0, none⟩) (n + m) c, w', sp.drop news.length, ?_, ?_, .inr ⟨b, c, rfl, hroom, hc, by simp [hol, hl, Nat.add_mul], ?_⟩⟩
      · simp only [hol] at s1
        simp [Builtin.append_, run_underlying hu, sizeOf, typeInfo, hi, Builtin.lenOf, hs, hroom, hfx, Result.andThen, add_none, s1]
      · have := hw.upd hi2 s2 s3 s4 (by omega) (fun k _ hk => s6 k hk) s7
        rw [setH_app, Nat.add_zero, splice_at _ _ _ hnl] at this
        exact this
      · simp; omega
    · have holds : ∀ j v, olds[j]? = some v → w.cell? ((⟨b, 0, none⟩ : Addr).add j) = some v := fun j v hj => by
        have hbk := hw.own (b, Obj.cells (olds ++ sp).toArray e) (by simp [rowH])
        rw [add_none, cell_blk hbk, Nat.zero_add, List.getElem?_append_left (List.getElem?_eq_some_iff.1 hj).1, hj]
      have hol2 : Ax = none → False := fun e => by have := hnx e; omega
      obtain ⟨a, rfl⟩ : ∃ a, Ax = some a := by
        cases Ax with
        | none => exact (hol2 rfl).elim
        | some a => exact ⟨a, rfl⟩
      have hr := run_append_grow (P := P) w t ty e i z hu hi hz ⟨b, 0, none⟩ n c olds (by rw [hs]; exact hol) holds a m cx news (by rw [hs]; exact hl) (hcx a rfl) (by omega) (by omega) (by rw [hby]; exact growslice_fits (by omega) hb)
      have g1 := grownCap_ge w (n + m) c e
      have g2 := grownCap_le_maxLen w (n + m) c e (by simp only [maxLen]; omega)
      simp only [maxLen] at g2
      generalize grownCap w (n + m) c e = gc at hr g1 g2
      refine ⟨.slice (some ⟨w.heap.size, 0, none⟩) (n + m) gc, _, (Builtin.zeroCells z.cells (gc - (n + m))).toList, hr, ?_, ?_⟩
      · exact SH.row_new (hw.weak (fun r h => h) rowH_sub) e _ _ (by simp) (n + m) _
      · refine .inr ⟨w.heap.size, gc, rfl, g1, by omega, by simp [hol, hl, Nat.add_mul], ?_⟩
        rw [List.length_append, hlen, hol, hl, ← Nat.add_mul, ← Nat.add_mul, Nat.add_sub_cancel' g1]

/-- A slice of one's own with the data xs. -/
structure Own {α : Type} (sz : Nat) (enc : α → List Value) (v : Value) (xs : List α) (sp : List Value) : Prop where
  esz : ∀ x, (enc x).length = sz
  c : OwnC sz v xs.length (xs.flatMap enc) sp
section
variable {α : Type} {n d : Nat} {full : List Oper} {b0 : World} {R : Rgs} {H : Hp} {fr : Slots} {K : Kt} {ty : TypeId} {ps : String} {af : Array Edge} {G : Nat → Prop} {w1 : World} {sz : Nat} {enc : α → List Value} {v u : Value} {xs ys : List α} {sp : List Value} {w : World}
theorem Own.nil (h : ∀ x, (enc x).length = sz) : Own sz enc (.slice none 0 0) [] [] := ⟨h, .inl ⟨rfl, rfl, rfl, rfl⟩⟩
theorem SH.slArr (hw : SH b0 R H w) (hr : (G, w1) ∈ R) (h : Arr G w1 sz enc u ys) (hs : 0 < sz) : SlC w u ys.length sz (ys.flatMap enc) := by
  obtain ⟨A, c, rfl, hc, hm, hcs⟩ := (hw.arr hr h).h
  have hl := flatMap_len h.esz ys
  rcases hcs with h0 | ⟨b, off, rfl, hG, hcell⟩
  · rw [h0] at hl
    refine ⟨A, c, rfl, by rw [h0]; exact hl, fun e => ?_, fun a e j v hj => by rw [h0] at hj; simp at hj⟩
    rcases Nat.eq_zero_or_pos ys.length with h | h
    · exact h
    · have := Nat.mul_pos h hs; rw [← hl] at this; simp at this
  · refine ⟨_, c, rfl, hl, (fun e => by cases e), fun a e j v hj => ?_⟩
    cases e
    rw [add_none, hcell j (List.getElem?_eq_some_iff.1 hj).1, hj]
theorem SH.slOwn (hw : SH b0 R H w) {b m c : Nat} {cs : List Value} {T : TypeId} {fz : Nat × Nat} (hH : (b, Obj.cells cs.toArray T fz) ∈ H) (hl : cs.length = m * sz) : SlC w (.slice (some ⟨b, 0, none⟩) m c) m sz cs :=
  ⟨_, c, rfl, hl, (fun e => by cases e), fun a e j v hj => by cases e; rw [add_none, cell_blk (hw.own _ hH), Nat.zero_add, hj]⟩
theorem allOne_flat (h : ∀ x, (enc x).all oneCell = true) (xs : List α) : (xs.flatMap enc).all oneCell = true := by
  induction xs with
  | nil => rfl
  | cons x xs ih => rw [List.flatMap_cons, List.all_append, h, ih]; rfl
/-- Append to the row at the end of the known heap. -/
theorem JO_append (A : Hp) {t e by_ : Nat} {x y : Operand} [h : TyApp t e sz by_] (hd : Nat.blt d n = true) (hx : ev fr x = some v) (hy : ev fr y = some u) (hv : Own (sz + 1) enc v xs sp) (hH : H.Perm (A ++ rowH v e (xs.flatMap enc ++ sp)))
    (hu : ∀ w, SH b0 R H w → SlC w u ys.length (sz + 1) (ys.flatMap enc)) (h1 : (ys.flatMap enc).all oneCell = true) (hb : (xs.length + ys.length) * (by_ + 1) ≤ 140737488355328)
    (hK : ∀ v' sp', Own (sz + 1) enc v' (xs ++ ys) sp' → K R (A ++ rowH v' e ((xs ++ ys).flatMap enc ++ sp')) ((d, v') :: fr)) :
    JO n full b0 R H ⟨some d, .call ⟨.builtin .append, #[x, y], #[t, t]⟩, ty, ps, af, none⟩ fr K := by
  refine JO.mk (by rw [Bool.and_eq_true]; exact ⟨hd, rfl⟩) fun w hw f hf => ?_
  have hn : xs.length + ys.length ≤ 9223372036854775807 := by
    have h5 : (xs.length + ys.length) * 1 ≤ (xs.length + ys.length) * (by_ + 1) := Nat.mul_le_mul_left _ (by omega)
    rw [Nat.mul_one] at h5
    exact Nat.le_trans h5 (Nat.le_trans hb (by decide))
  obtain ⟨v', w', sp', h2, h3, h4⟩ := run_append (t := t) (A := A) (ty := ty) hv.c (hu w hw) h1 hb hn (hw.perm hH)
  have hx' := hf x _ hx
  have hy' := hf y _ hy
  have e1 : (execOp f { dst := some d, op := Op.call ⟨.builtin .append, #[x, y], #[t, t]⟩, type := ty, pos := ps, after := af, guard := none }).run P w = .ok (.value v') w' := by
    simp [execOp, resolve, hx', hy', invoke, builtin, h2, Result.andThen]
  rw [e1]
  have ho : Own (sz + 1) enc v' (xs ++ ys) sp' := ⟨hv.esz, by rw [List.length_append, List.flatMap_append]; exact h4⟩
  exact ⟨R, _, by rw [List.flatMap_append]; exact h3, fun r h => h, hK v' sp' ho⟩

/-! ### Literals and new arrays -/
theorem run_loopset (v : List Value) : ∀ (off j : Nat) (cs : List Value), (v.zipIdx j).foldl (fun (cs : Array Value) (p : Value × Nat) => cs.setIfInBounds (off + p.2) p.1) cs.toArray = (splice cs (off + j) v).toArray := by
  induction v with
  | nil => intro off j cs; rfl
  | cons x xs ih =>
    intro off j cs
    simp only [List.zipIdx_cons, List.foldl_cons, splice]
    rw [show cs.toArray.setIfInBounds (off + j) x = (cs.set (off + j) x).toArray by simp]
    rw [ih off (j + 1)]
    rfl
/-- The parts of a struct or an array, laid one by one. -/
def fillL (pl : Nat → Option (Nat × Nat)) (cs : List Value) : List (Nat × List Value) → Option (List Value)
  | [] => some cs
  | (i, v) :: rest => match pl i with
    | none => none
    | some (off, size) => if (Nat.beq v.length size && Nat.ble (off + v.length) cs.length) then fillL pl (splice cs off v) rest else none
theorem fill_fillL (pl : Nat → Option (Nat × Nat)) : ∀ (parts : List (Nat × Value)) (ls : List (Nat × List Value)) (cs : List Value), parts.map (fun p => (p.1, p.2.cells)) = ls.map (fun p => (p.1, p.2.toArray)) →
    Instr.fill pl cs.toArray parts = (fillL pl cs ls).map List.toArray
  | [], ls, cs, h => by
    cases ls with
    | nil => rfl
    | cons l ls => simp at h
  | (i, v) :: rest, ls, cs, h => by
    cases ls with
    | nil => simp at h
    | cons l ls =>
      obtain ⟨j, vs⟩ := l
      simp only [List.map_cons, List.cons.injEq, Prod.mk.injEq] at h
      obtain ⟨⟨rfl, h1⟩, h2⟩ := h
      simp only [Instr.fill, fillL]
      cases hp : pl i with
      | none => rfl
      | some os =>
        obtain ⟨off, size⟩ := os
        simp only [h1, List.size_toArray]
        by_cases hc : vs.length = size ∧ off + vs.length ≤ cs.length
        · rw [if_neg (by simp; omega), if_pos (by simp; omega)]
          have e := run_loopset vs off 0 cs
          rw [← fill_fillL pl rest ls _ h2]
          congr 1
          rw [Nat.add_zero] at e
          rw [← e]
          simp [Array.foldl_toList, List.zipIdx]
        · rw [if_pos (by simp; omega), if_neg (by simp; omega)]; rfl

class VP (vs : List (Nat × Value)) (ls : outParam (List (Nat × List Value))) : Prop where
  h : vs.map (fun p => (p.1, p.2.cells)) = ls.map (fun p => (p.1, p.2.toArray))
  o : ∀ l ∈ ls, l.2.all oneCell = true
instance : VP [] [] := ⟨rfl, fun _ h => by cases h⟩
instance {i : Nat} {v : Value} {cs : List Value} {vs : List (Nat × Value)} {ls : List (Nat × List Value)} [h : VC v cs] [k : VP vs ls] : VP ((i, v) :: vs) ((i, cs) :: ls) :=
  ⟨by simp [h.h, k.h], fun l hl => by rcases List.mem_cons.1 hl with rfl | hl; exact h.o; exact k.o l hl⟩
def evp (fr : Slots) : List (Nat × Operand) → Option (List (Nat × Value))
  | [] => some []
  | (i, x) :: xs => match ev fr x with
    | some v => match evp fr xs with
      | some vs => some ((i, v) :: vs)
      | none => none
    | none => none
theorem evp_map {f : Operand → Value} (hf : ∀ x v, ev fr x = some v → f x = v) : ∀ {cs : List (Nat × Operand)} {vs : List (Nat × Value)}, evp fr cs = some vs → cs.map (fun p => (p.1, f p.2)) = vs := by
  intro cs
  induction cs with
  | nil => intro vs e; simp [evp] at e; simp [e]
  | cons x xs ih =>
    intro vs e
    obtain ⟨i, x⟩ := x
    simp only [evp] at e
    split at e
    · rename_i v hv
      split at e
      · rename_i us hus; cases e; simp [hf x v hv, ih hus]
      · cases e
    · cases e
class TyStr (t : Nat) (pl : outParam (List (Nat × Nat))) (zs : outParam (List Value)) : Prop where
  h : ∀ (parts : Array (Nat × Value)) (cells : Array Value) (w : World), Instr.fill (fun i => pl[i]?) zs.toArray parts.toList = some cells → (Instr.build t parts).run P w = .ok (.agg cells) w
theorem run_places (w : World) (q : Field → Sem (Nat × Nat)) (hq : ∀ (f : Field) (i : TypeInfo), P.info? f.type = some i → (q f).run P w = .ok (f.offset, i.size) w) : ∀ (fs : List Field) (pl : List (Nat × Nat)), fs.mapM (fun f => (P.info? f.type).map fun i => (f.offset, i.size)) = some pl →
    (fs.mapM q).run P w = .ok pl w := by
  intro fs
  induction fs with
  | nil => intro pl h; simp at h; subst h; rw [List.mapM_nil, Sem.run_pure]
  | cons f fs ih =>
    intro pl h
    simp only [List.mapM_cons, Option.bind_eq_bind, Option.bind_eq_some_iff, Option.pure_def] at h
    obtain ⟨p, hp, ps, hps, h⟩ := h
    cases h
    obtain ⟨i, hi, rfl⟩ := Option.map_eq_some_iff.1 hp
    rw [List.mapM_cons]
    simp only [Sem.run_bind, hq f i hi, Result.andThen, ih ps hps, Sem.run_pure]
theorem TyStr.of {t : Nat} {fs : List Field} {z : Value} {pl : List (Nat × Nat)} {zs : List Value} (h : P.underlying t = some (.struct fs.toArray)) (hz : ∀ w, (zeroValue t).run P w = .ok z w) (hzs : z.cells = zs.toArray)
    (hp : fs.mapM (fun f => (P.info? f.type).map fun i => (f.offset, i.size)) = some pl) : TyStr t pl zs := ⟨fun parts cells w hf => by
  have h3 : (fun (i : Nat) => pl.toArray[i]?) = fun (i : Nat) => pl[i]? := by funext i; simp
  simp only [Instr.build]
  rw [Sem.run_bind, hz]
  simp only [Result.andThen, hzs]
  rw [Sem.run_bind, run_underlying h]
  simp only [Result.andThen]
  rw [Sem.run_bind, List.mapM_toArray, Sem.run_map, run_places w _ (fun f i hi => by simp [sizeOf, typeInfo, program, hi, Sem.run_bind, Result.andThen, Sem.run]) fs pl hp]
  simp only [Result.andThen, h3, hf]
  rfl⟩
theorem Ob_build {t : Nat} {parts : List (Nat × Operand)} {vs : List (Nat × Value)} {ls : List (Nat × List Value)} {pl : List (Nat × Nat)} {zs cs : List Value} {dst : Option Nat} {g : Option (Nat × Bool)} [h : TyStr t pl zs] (hx : evp fr parts = some vs) (k : VP vs ls)
    (hf : fillL (fun i => pl[i]?) zs ls = some cs) : Ob b0 R H ⟨dst, .build t parts.toArray, ty, ps, af, g⟩ fr (.agg cs.toArray) := .pure fun w f hfv => by
  have e := evp_map hfv hx
  have e2 := fill_fillL (fun i => pl[i]?) vs ls zs k.h
  rw [hf] at e2
  have := h.h (vs.toArray) cs.toArray w (by simpa using e2)
  simp only [execOp]
  rw [Sem.run_bind, show (parts.toArray.map fun x => (x.1, f x.2)) = vs.toArray by rw [← e]; simp, this]
  rfl

/-- All parts of a slice literal, in order. -/
theorem fillL_all (z : Nat) : ∀ (ls : List (List Value)) (j : Nat) (pre post : List Value), pre.length = j * z → post.length = ls.length * z → (∀ l ∈ ls, l.length = z) →
    fillL (fun i => some (i * z, z)) (pre ++ post) ((ls.zipIdx j).map fun p => (p.2, p.1)) = some (pre ++ ls.flatten)
  | [], j, pre, post, h1, h2, _ => by
    simp at h2
    simp [fillL, h2]
  | l :: ls, j, pre, post, h1, h2, h3 => by
    have hl := h3 l (by simp)
    have hpl : l.length ≤ post.length := by rw [h2, hl]; simp [Nat.add_mul]
    simp only [List.zipIdx_cons, List.map_cons, fillL]
    rw [if_pos (by simp [hl, h1, h2, Nat.add_mul])]
    rw [← h1, splice_at l pre post hpl]
    have := fillL_all z ls (j + 1) (pre ++ l) (post.drop l.length) (by simp [h1, hl, Nat.add_mul]) (by simp [h2, hl, Nat.add_mul]) (fun x hx => h3 x (by simp [hx]))
    rw [this]; simp
class VLs (vs : List Value) (sz : Nat) (ls : outParam (List (List Value))) : Prop where
  h : vs.map Value.cells = ls.map List.toArray
  s : ∀ l ∈ ls, l.length = sz
  o : ls.flatten.all oneCell = true
instance {sz : Nat} : VLs [] sz [] := ⟨rfl, (fun _ h => by cases h), rfl⟩
theorem VLs.cons {v : Value} {cs : List Value} {vs : List Value} {ls : List (List Value)} {sz : Nat} (h : VC v cs) (k : VLs vs sz ls) (e : cs.length = sz) : VLs (v :: vs) sz (cs :: ls) :=
  ⟨by simp [h.h, k.h], (fun l hl => by rcases List.mem_cons.1 hl with rfl | hl; exact e; exact k.s l hl), by simp only [List.flatten_cons, List.all_append, h.o, k.o]; rfl⟩
theorem evp_idx {parts : List (Nat × Operand)} {xs : List Operand} {vs : List Value} (hp : parts = (xs.zipIdx).map fun p => (p.2, p.1)) {f : Operand → Value} (h : xs.map f = vs) : parts.map (fun p => (p.1, f p.2)) = vs.zipIdx.map fun p => (p.2, p.1) := by
  subst hp; subst h
  rw [List.map_map, List.zipIdx_map, List.map_map]
  rfl
/-- A slice literal: a new block. -/
theorem run_buildSlice {t e s by_ : Nat} {z : Value} [h : TySl t e s by_] [hz : TyZ e z] {xs : List Value} {ls : List (List Value)} {w : World} (hv : xs.map Value.cells = ls.map List.toArray) (hs : ∀ l ∈ ls, l.length = s) (hsm : xs.length * s ≤ 16777216) :
    (Instr.buildSlice t xs.length (xs.zipIdx.map fun p => (p.2, p.1)).toArray).run P w = .ok (.slice (some ⟨w.heap.size, 0, none⟩) xs.length xs.length) { w with heap := w.heap.push (.cells ls.flatten.toArray e) } := by
  have hl : ls.length = xs.length := by have := congrArg List.length hv; simpa using this.symm
  have hfill : ∀ zs : List Value, zs.length = xs.length * s → Instr.fill (fun i => some (i * s, s)) zs.toArray (xs.zipIdx.map fun p => (p.2, p.1)) = some ls.flatten.toArray := fun zs hzs => by
    rw [fill_fillL _ _ ((ls.zipIdx).map fun p => (p.2, p.1)) zs ?_]
    · have := fillL_all s ls 0 [] zs (by simp) (by rw [hzs, hl]) hs
      simp only [List.nil_append] at this
      rw [this]; rfl
    · simp only [List.map_map]
      have e1 : ∀ (ys : List Value) (l : List (List Value)) (k : Nat), ys.map Value.cells = l.map List.toArray → (ys.zipIdx k).map ((fun p => (p.1, p.2.cells)) ∘ fun p => (p.2, p.1)) = (l.zipIdx k).map ((fun p => (p.1, p.2.toArray)) ∘ fun p => (p.2, p.1)) := by
        intro ys
        induction ys with
        | nil => intro l k h; cases l <;> simp at h ⊢
        | cons y ys ih =>
          intro l k h
          cases l with
          | nil => simp at h
          | cons a l =>
            simp only [List.map_cons, List.cons.injEq] at h
            simp only [List.zipIdx_cons, List.map_cons, Function.comp, h.1]
            exact congrArg _ (ih l (k + 1) h.2)
      exact e1 xs ls 0 hv
  have h16 : ¬ (2 ^ 24 < xs.length * s) := by omega
  simp only [Instr.buildSlice]
  rw [Sem.run_bind, run_underlying h.h]
  simp only [Result.andThen]
  rw [Sem.run_bind, h.s]
  simp only [Result.andThen]
  have hfa : ∀ arr : Array Value, arr.size = xs.length * s → Instr.fill (fun i => some (i * s, s)) arr (xs.zipIdx.map fun p => (p.2, p.1)) = some ls.flatten.toArray := fun arr ha => by
    have := hfill arr.toList (by simpa using ha)
    simpa using this
  by_cases h0 : xs.length * s = 0
  · have hf := hfa ((Array.range (xs.length * s)).map fun x => (#[] : Array Value)[x % 0]!) (by simp)
    rw [if_neg h16, if_pos h0]
    simp only [Sem.run_bind, Sem.run_pure, Result.andThen]
    have e3 : (#[] : Array Value).size = 0 := rfl
    simp only [e3, hf, Sem.run_bind, newRow, newObj, Sem.run, Result.andThen, Sem.run_pure]
  · have hf := hfa ((Array.range (xs.length * s)).map fun x => z.cells[x % z.cells.size]!) (by simp)
    rw [if_neg h16, if_neg h0]
    simp only [Sem.run_bind, Sem.run_pure, Result.andThen, hz.h]
    simp only [hf, Sem.run_bind, newRow, newObj, Sem.run, Result.andThen, Sem.run_pure]

/-- A slice literal. 'hc': its cells. -/
theorem JO_lit {t e s by_ m : Nat} {z : Value} {parts : List (Nat × Operand)} {vs : List Value} {ls : List (List Value)} {cs : List Value} [h : TySl t e s by_] [hz : TyZ e z] (hd : Nat.blt d n = true)
    (hp : parts = ((parts.map (·.2)).zipIdx).map fun p => (p.2, p.1)) (hx : evs fr (parts.map (·.2)) = some vs) (hv : VLs vs s ls) (hm : vs.length = m) (hsm : Nat.ble (m * s) 16777216 = true) (hc : ls.flatten = cs)
    (hK : ∀ b, K R ((b, .cells cs.toArray e) :: H) ((d, .slice (some ⟨b, 0, none⟩) m m) :: fr)) : JO n full b0 R H ⟨some d, .buildSlice t m parts.toArray, ty, ps, af, none⟩ fr K := by
  refine JO.mk (by rw [Bool.and_eq_true]; exact ⟨hd, rfl⟩) fun w hw f hf => ?_
  have e1 := evs_map hf hx
  have e2 := evp_idx hp e1
  subst hm
  have hr := run_buildSlice (t := t) (e := e) (z := z) (w := w) hv.h hv.s (by simpa using hsm)
  have e3 : (execOp f { dst := some d, op := Op.buildSlice t vs.length parts.toArray, type := ty, pos := ps, after := af, guard := none }).run P w = .ok (.value (.slice (some ⟨w.heap.size, 0, none⟩) vs.length vs.length)) { w with heap := w.heap.push (.cells ls.flatten.toArray e) } := by
    simp only [execOp]
    rw [Sem.run_bind, show (parts.toArray.map fun x => (x.1, f x.2)) = (vs.zipIdx.map fun p => (p.2, p.1)).toArray by rw [← e2]; simp, hr]
    rfl
  rw [e3]
  subst hc
  exact ⟨R, _, hw.new _, fun r h => h, hK w.heap.size⟩
class TyMk (t : Nat) (e sz by_ : outParam Nat) (zs : outParam (List Value)) : Prop where
  h : P.underlying t = some (.slice e)
  i : (P.info? e).map (fun i => (i.zero.map fun z => z.cells.toList, i.size, i.bytes)) = some (some zs, sz, by_)
  l : zs.length = sz
theorem TyMk.info {t e sz by_ : Nat} {zs : List Value} (h : TyMk t e sz by_ zs) : ∃ (i : TypeInfo) (z : Value), P.info? e = some i ∧ i.zero = some z ∧ i.size = sz ∧ i.bytes = by_ ∧ z.cells = zs.toArray := by
  have := h.i
  cases hi : P.info? e with
  | none => rw [hi] at this; cases this
  | some i =>
    rw [hi] at this
    simp only [Option.map_some, Option.some.injEq, Prod.mk.injEq] at this
    obtain ⟨h1, h2, h3⟩ := this
    cases hz : i.zero with
    | none => rw [hz] at h1; cases h1
    | some z => rw [hz] at h1; exact ⟨i, z, rfl, hz, h2, h3, by have := Option.some.inj h1; rw [← this]⟩
theorem range_flat (zs : List Value) : ∀ k : Nat, 0 < zs.length → (List.range (k * zs.length)).map (fun x => zs.toArray[x % zs.length]!) = (List.replicate k zs).flatten := by
  intro k hpos
  apply List.ext_getElem?
  intro j
  by_cases hj : j < k * zs.length
  · rw [List.getElem?_map, List.getElem?_range hj]
    simp only [Option.map_some]
    have h1 : j / zs.length < k := Nat.div_lt_of_lt_mul (by rw [Nat.mul_comm]; exact hj)
    have h2 := flatMap_at (enc := fun (_ : Nat) => zs) (sz := zs.length) (fun _ => rfl) (List.range k) (j / zs.length) (j % zs.length) (j / zs.length) (by simp [h1]) (Nat.mod_lt _ hpos)
    have h3 : (List.range k).flatMap (fun _ => zs) = (List.replicate k zs).flatten := by
      rw [List.flatMap_def]; congr 1; simp [List.map_const']
    rw [h3] at h2
    rw [show j / zs.length * zs.length + j % zs.length = j by rw [Nat.mul_comm]; exact Nat.div_add_mod j _] at h2
    rw [h2]
    have := Nat.mod_lt j hpos
    simp [getElem!_pos, this]
  · rw [List.getElem?_eq_none (by simp; omega), List.getElem?_eq_none (by simp; omega)]
/-- make([]T, n). -/
theorem JO_make {t e by_ : Nat} {zs : List Value} {x y : Operand} {kx ky : IntKind} {m : Nat} {x0 : α} [h : TyMk t e sz by_ zs] (hd : Nat.blt d n = true) (hx : ev fr x = some (.int kx (m : Int))) (hy : ev fr y = some (.int ky (m : Int)))
    (he : ∀ x : α, (enc x).length = sz) (hz : enc x0 = zs) (hs : 0 < sz) (hm : m * by_ ≤ 140737488355328) (hm2 : m ≤ 9223372036854775807)
    (hK : ∀ b, Own sz enc (.slice (some ⟨b, 0, none⟩) m m) (List.replicate m x0) [] → K R ((b, .cells ((List.replicate m x0).flatMap enc).toArray e) :: H) ((d, .slice (some ⟨b, 0, none⟩) m m) :: fr)) :
    JO n full b0 R H ⟨some d, .makeSlice t x y, ty, ps, af, none⟩ fr K := by
  obtain ⟨i, zv, hi, hzv, hsz, hby, hzc⟩ := h.info
  refine JO.mk (by rw [Bool.and_eq_true]; exact ⟨hd, rfl⟩) fun w hw f hf => ?_
  have hx' := hf x _ hx
  have hy' := hf y _ hy
  have hcells : (List.replicate m x0).flatMap enc = (List.replicate m zs).flatten := by
    rw [List.flatMap_def, List.map_replicate, hz]
  have hlen : zs.length = sz := h.l
  have hmc : madeCells zv.cells (m * i.size) = ((List.replicate m x0).flatMap enc).toArray := by
    rw [hcells, hzc, hsz, ← hlen, ← range_flat zs m (by omega)]
    apply Array.toList_inj.1
    simp [madeCells, Array.toList_range]
  have hr : (Instr.makeSlice t (f x) (f y)).run P w = .ok (.slice (some ⟨w.heap.size, 0, none⟩) m m) { w with heap := w.heap.push (.cells ((List.replicate m x0).flatMap enc).toArray e) } := by
    have hbm : (i.bytes : Int) * (m : Int) ≤ 281474976710656 := by
      have h5 : ((m * by_ : Nat) : Int) ≤ 140737488355328 := Int.ofNat_le.2 hm
      rw [hby, Int.mul_comm, ← Int.natCast_mul]
      exact Int.le_trans h5 (by decide)
    have := run_make (P := P) w t e i zv h.h hi hzv kx ky m m (by omega) (Int.le_refl _) hbm (by omega)
    rw [hx', hy', this]
    simp only [Int.toNat_natCast, hmc]
    rfl
  have e3 : (execOp f { dst := some d, op := Op.makeSlice t x y, type := ty, pos := ps, after := af, guard := none }).run P w = .ok (.value (.slice (some ⟨w.heap.size, 0, none⟩) m m)) { w with heap := w.heap.push (.cells ((List.replicate m x0).flatMap enc).toArray e) } := by
    simp only [execOp]
    rw [Sem.run_bind, hr]
    rfl
  rw [e3]
  refine ⟨R, _, hw.new _, fun r h => h, hK w.heap.size ⟨he, .inr ⟨w.heap.size, m, by simp, by simp, hm2, by rw [flatMap_len he], by rw [flatMap_len he]; simp⟩⟩⟩
end
end Go.Proofs.YtkbaaikidhbfmaaGreat
/- Elements of one's own slices; what is frozen; what is returned. No statement is proved here. -/
set_option linter.unusedVariables false
set_option linter.unusedSimpArgs false
namespace Go.Proofs.YtkbaaikidhbfmaaGreat
open Go.RowKit

section
variable {α : Type} {n d : Nat} {full : List Oper} {b0 : World} {R : Rgs} {H : Hp} {fr : Slots} {K : Kt} {dst : Option Nat} {g : Option (Nat × Bool)} {ty : TypeId} {ps : String} {af : Array Edge} {G : Nat → Prop} {w1 : World} {sz : Nat} {enc : α → List Value} {v u : Value} {xs ys : List α} {sp : List Value} {w : World}
/-- Where the i-th element begins. -/
def ix (sz i : Nat) : Nat := i * sz
theorem Ob_index_row {t e by_ b m c : Nat} {x y : Operand} {k : IntKind} {i : Nat} [h : TySl t e sz by_] (hx : ev fr x = some (.slice (some ⟨b, 0, none⟩) m c)) (hy : ev fr y = some (.int k (i : Int))) (hi : i < m) :
    Ob b0 R H ⟨dst, .indexAddr t x y, ty, ps, af, g⟩ fr (.pointer (some ⟨b, oo (ix sz i) 0, none⟩)) := .pure fun w f hf => by
  simp only [execOp, hf x _ hx, hf y _ hy]
  have h3 : 0 ≤ (i : Int) ∧ (i : Int) < (m : Int) := ⟨by omega, by omega⟩
  simp [Instr.indexAt, asIntOf, run_underlying h.h, h.s, hi, h3, Result.andThen, add_none, oo, ix]
/-- The same by a number. -/
theorem Ob_indexn {t e by_ : Nat} {x y : Operand} {v : Value} {k : IntKind} {i : Nat} [h : TySl t e sz by_] (hx : ev fr x = some v) (hA : Arr G w1 sz enc v xs) (hy : ev fr y = some (.int k (i : Int))) (hi : i < xs.length) (hs : 0 < sz) :
    Ob b0 R H ⟨dst, .indexAddr t x y, ty, ps, af, g⟩ fr (.pointer (some ⟨vb v, oo (vo v + ix sz i) 0, none⟩)) := Ob_index hx hA hy (by omega) (by omega) hs
theorem flat_sp (h : ∀ x, (enc x).length = sz) {i k : Nat} {a : α} (ha : xs[i]? = some a) (hk : k < sz) : (xs.flatMap enc ++ sp)[i * sz + k]? = (enc a)[k]? := by
  have h1 := flatMap_at h xs i k a ha hk
  have hlt : i * sz + k < (xs.flatMap enc).length := by
    rw [flatMap_len h]
    have hi := (List.getElem?_eq_some_iff.1 ha).1
    have : (i + 1) * sz ≤ xs.length * sz := Nat.mul_le_mul_right sz hi
    rw [Nat.succ_mul] at this; omega
  rw [List.getElem?_append_left hlt, h1]
theorem Ob_load_row {t b i k : Nat} {x : Operand} {T : TypeId} {fz : Nat × Nat} {a : α} [TyOne t] (he : ∀ x, (enc x).length = sz) (hx : ev fr x = some (.pointer (some ⟨b, oo (ix sz i) k, none⟩))) (hH : (b, Obj.cells (xs.flatMap enc ++ sp).toArray T fz) ∈ H) (ha : xs[i]? = some a)
    (hk : k < sz) (hu : (enc a)[k]? = some u) : Ob b0 R H ⟨dst, .load t x, ty, ps, af, g⟩ fr u :=
  Ob_load_own hx hH (by rw [show oo (ix sz i) k = i * sz + k from rfl, flat_sp he ha hk, hu])
theorem Ob_loads_row {t m b i k : Nat} {x : Operand} {T : TypeId} {fz : Nat × Nat} {a : α} {vs : List Value} [TyAgg t m] (he : ∀ x, (enc x).length = sz) (hx : ev fr x = some (.pointer (some ⟨b, oo (ix sz i) k, none⟩))) (hH : (b, Obj.cells (xs.flatMap enc ++ sp).toArray T fz) ∈ H) (ha : xs[i]? = some a)
    (hk : k + m ≤ sz) (hu : ((enc a).drop k).take m = vs) (hl : vs.length = m) : Ob b0 R H ⟨dst, .load t x, ty, ps, af, g⟩ fr (.agg vs.toArray) :=
  Ob_loads_own hx hH (by
    rw [← hu]
    apply List.ext_getElem?
    intro j
    rw [List.getElem?_take, List.getElem?_take]
    split
    · rename_i hj
      rw [List.getElem?_drop, List.getElem?_drop, show oo (ix sz i) k + j = i * sz + (k + j) from by simp [oo, ix, Nat.add_assoc], flat_sp he ha (by omega)]
    · rfl) hl
theorem splice_app (p q : List Value) : ∀ (vs : List Value) (off : Nat), off + vs.length ≤ p.length → splice (p ++ q) off vs = splice p off vs ++ q := by
  intro vs
  induction vs generalizing p with
  | nil => intro off h; rfl
  | cons v vs ih =>
    intro off h
    simp only [List.length_cons] at h
    simp only [splice]
    rw [show (p ++ q).set off v = p.set off v ++ q by rw [List.set_append, if_pos (by omega)]]
    exact ih (p.set off v) (off + 1) (by simp; omega)
theorem splice_pre (p q : List Value) : ∀ (vs : List Value) (off : Nat), splice (p ++ q) (p.length + off) vs = p ++ splice q off vs := by
  intro vs
  induction vs generalizing q with
  | nil => intro off; rfl
  | cons v vs ih =>
    intro off
    simp only [splice]
    rw [show (p ++ q).set (p.length + off) v = p ++ q.set off v by rw [List.set_append, if_neg (by omega)]; simp]
    exact ih (q.set off v) (off + 1)
theorem splice_flat (h : ∀ x, (enc x).length = sz) : ∀ (xs : List α) (i k : Nat) (a a' : α) (vs : List Value), xs[i]? = some a → k + vs.length ≤ sz → splice (enc a) k vs = enc a' → splice (xs.flatMap enc ++ sp) (i * sz + k) vs = (xs.set i a').flatMap enc ++ sp
  | [], i, k, a, a', vs, ha, _, _ => by simp at ha
  | y :: ys, 0, k, a, a', vs, ha, hk, hs => by
    simp at ha; subst ha
    simp only [List.flatMap_cons, Nat.zero_mul, Nat.zero_add, List.set_cons_zero, List.append_assoc]
    rw [splice_app _ _ vs k (by rw [h]; exact hk), hs]
  | y :: ys, i + 1, k, a, a', vs, ha, hk, hs => by
    simp at ha
    simp only [List.flatMap_cons, List.set_cons_succ, List.append_assoc]
    rw [show (i + 1) * sz + k = (enc y).length + (i * sz + k) by rw [h, Nat.succ_mul]; omega, splice_pre, splice_flat h ys i k a a' vs ha hk hs]
/-- A store into an element of one's own. -/
theorem JO_store_row {t m : Nat} {x y : Operand} {b i k j : Nat} {v : Value} {vs : List Value} {a a' : α} {T : TypeId} [hsz : TySz t m] (he : ∀ x, (enc x).length = sz)
    (hx : ev fr x = some (.pointer (some ⟨b, oo (ix sz i) k, none⟩))) (hy : ev fr y = some v) (hi : H[j]? = some (b, .cells (xs.flatMap enc ++ sp).toArray T)) (hc : VC v vs) (hl : vs.length = m) (ha : xs[i]? = some a) (hk : k + m ≤ sz) (hs : splice (enc a) k vs = enc a')
    (h : K R (setH H j (.cells ((xs.set i a').flatMap enc ++ sp).toArray T)) fr) : JO n full b0 R H ⟨none, .store t x y, ty, ps, af, none⟩ fr K := by
  refine JO_store (m := m) (vs := vs) hx hy hi hc hl ?_ ?_ h
  · apply Nat.ble_eq_true_of_le
    have := (List.getElem?_eq_some_iff.1 ha).1
    have h2 : (i + 1) * sz ≤ xs.length * sz := Nat.mul_le_mul_right sz this
    rw [Nat.succ_mul] at h2
    rw [List.length_append, flatMap_len he]
    simp only [oo, ix]; omega
  · rw [show oo (ix sz i) k = i * sz + k from rfl, splice_flat he xs i k a a' vs ha (by omega) hs]
theorem Ob_len_own {t e s by_ m : Nat} {x : Operand} {data : List Value} [h : TySl t e s by_] (hx : ev fr x = some v) (hv : OwnC sz v m data sp) :
    Ob b0 R H ⟨dst, .call ⟨.builtin .len, #[x], #[t]⟩, ty, ps, af, g⟩ fr (.int .i64 (m : Int)) := by
  rcases hv with ⟨rfl, rfl, _, _⟩ | ⟨b, c, rfl, _⟩
  · exact Ob_len_lit hx
  · exact Ob_len_lit hx
/-- Of a row of one's own there is no more to come: it is read from here on. -/
theorem SH.freeze {A : Hp} {e : TypeId} (hv : Own sz enc v xs sp) (hs : 0 < sz) (hw : SH b0 R (A ++ rowH v e (xs.flatMap enc ++ sp)) w) : SH b0 ((fun b => b = vb v ∧ v ≠ .slice none 0 0, w) :: R) A w ∧ Arr (fun b => b = vb v ∧ v ≠ .slice none 0 0) w sz enc v xs ∧ (∀ r ∈ R, ∀ b, b = vb v ∧ v ≠ .slice none 0 0 → r.1 b → r.2.heap.size ≤ b) := by
  have hsub := hw.weak (fun r h => h) (rowH_sub (A := A) (v := v) (e := e) (cs := xs.flatMap enc ++ sp))
  obtain ⟨he, hc⟩ := hv
  rcases hc with ⟨rfl, h0, h1, h2⟩ | ⟨b, c, rfl, hnc, hcm, hl, hlc⟩
  · refine ⟨hsub.add _ fun p _ h => h.2 rfl, ⟨he, none, 0, by rw [h0], by omega, by omega, .inl h1⟩, fun r _ b hb => absurd rfl hb.2⟩
  · have hm : (b, Obj.cells (xs.flatMap enc ++ sp).toArray e) ∈ A ++ rowH (.slice (some ⟨b, 0, none⟩) xs.length c) e (xs.flatMap enc ++ sp) := by simp [rowH]
    have hb := hw.own _ hm
    refine ⟨hsub.add _ fun p hp hpb => ?_, ⟨he, _, c, rfl, hnc, hcm, .inr ⟨b, 0, rfl, ⟨rfl, by simp⟩, fun j hj => ?_⟩⟩, fun r hr b' hb' hrb => ?_⟩
    · have := List.pairwise_append.1 hw.nd
      exact this.2.2 p hp _ (by simp [rowH]; rfl) hpb.1
    · rw [cell_blk hb, Nat.zero_add, List.getElem?_append_left hj]
    · have := hw.apt _ hm r hr
      have e1 : b' = b := hb'.1
      subst e1
      exact this hrb
theorem GC_freeze {ρ : Option Nat} {D : List Deferred} {Q : Post} {A : Hp} {e : TypeId} {c : Code} (hv : Own sz enc v xs sp) (hs : 0 < sz)
    (h : ∀ G w1, Arr G w1 sz enc v xs → (∀ r ∈ R, ∀ b, G b → r.1 b → r.2.heap.size ≤ b) → GC ρ n D Q b0 ((G, w1) :: R) A c fr) : GC ρ n D Q b0 R (A ++ rowH v e (xs.flatMap enc ++ sp)) c fr :=
  GC.mk fun w hw => by
    obtain ⟨h1, h2, h3⟩ := hw.freeze hv hs
    exact (h _ w h2 h3).use w h1
theorem GX_freeze {D : List Deferred} {Q : Post} {A : Hp} {e : TypeId} {x : Exit} (hv : Own sz enc v xs sp) (hs : 0 < sz)
    (h : ∀ G w1, Arr G w1 sz enc v xs → (∀ r ∈ R, ∀ b, G b → r.1 b → r.2.heap.size ≤ b) → GX n D Q b0 ((G, w1) :: R) A x fr) : GX n D Q b0 R (A ++ rowH v e (xs.flatMap enc ++ sp)) x fr :=
  GX.mk fun w hw => by
    obtain ⟨h1, h2, h3⟩ := hw.freeze hv hs
    exact (h _ w h2 h3).use w h1
theorem SH.litArr (hw : SH b0 R H w) (xs : List α) {b m c : Nat} {cs : List Value} {T : TypeId} {fz : Nat × Nat} (he : ∀ x, (enc x).length = sz) (hH : (b, Obj.cells cs.toArray T fz) ∈ H) (hc : cs = xs.flatMap enc) (hm : m = xs.length) (hmc : Nat.ble m c = true) (hcm : Nat.ble c 9223372036854775807 = true) :
    Arr All w sz enc (.slice (some ⟨b, 0, none⟩) m c) xs := by
  subst hc; subst hm
  exact ⟨he, _, c, rfl, Nat.le_of_ble_eq_true hmc, Nat.le_of_ble_eq_true hcm, .inr ⟨b, 0, rfl, trivial, fun j hj => by rw [cell_blk (hw.own _ hH), Nat.zero_add]⟩⟩
/-- New memory, seen from a world before. -/
abbrev New (w : World) : Nat → Prop := fun b => w.heap.size ≤ b
theorem Arr.new {R' : Rgs} (h : Arr G w1 sz enc v xs) (hG : ∀ r ∈ R, ∀ b, G b → r.1 b → r.2.heap.size ≤ b) (hm : ((fun _ => True), b0) ∈ R) (hr : (G, w1) ∈ R') (hw : SH b0 R' H w) : Arr (New b0) w sz enc v xs :=
  (hw.arr hr h).weaken fun b hb _ => hG _ hm b hb trivial
theorem Own.ret {A : Hp} {e : TypeId} (hv : Own sz enc v xs sp) (hs : 0 < sz) (hw : SH b0 R (A ++ rowH v e (xs.flatMap enc ++ sp)) w) (hm : ((fun _ => True), b0) ∈ R) : Arr (New b0) w sz enc v xs := by
  obtain ⟨h1, h2, h3⟩ := hw.freeze hv hs
  exact h2.weaken fun b hb _ => h3 _ hm b hb trivial
theorem Own.lit {b m : Nat} (xs : List α) (he : ∀ x, (enc x).length = sz) (hm : m = xs.length) (hcm : Nat.ble m 9223372036854775807 = true) : Own sz enc (.slice (some ⟨b, 0, none⟩) m m) xs [] :=
  ⟨he, .inr ⟨b, m, by rw [hm], by omega, Nat.le_of_ble_eq_true hcm, by rw [flatMap_len he], by rw [flatMap_len he, hm]; rfl⟩⟩
theorem Own.v1 (hv : Own sz enc v xs sp) : V1 v := by
  rcases hv.c with ⟨rfl, _⟩ | ⟨b, c, rfl, _⟩ <;> exact ⟨rfl⟩
end
end Go.Proofs.YtkbaaikidhbfmaaGreat
/- More of the table, as instances. Printed by wip/gentypes.py. No statement is proved here. -/
set_option linter.unusedVariables false
namespace Go.Proofs.YtkbaaikidhbfmaaGreat
open Go.RowKit
instance : TyApp 22 61 1 15 := ⟨Tryz.underlying22, by kernel_rfl⟩
instance : TyMk 22 61 2 16 [.int .i64 0, .int .i64 0] := ⟨Tryz.underlying22, by kernel_rfl, rfl⟩
instance : TyApp 23 33 0 23 := ⟨Tryz.underlying23, by kernel_rfl⟩
instance : TyMk 23 33 1 24 [.slice none 0 0] := ⟨Tryz.underlying23, by kernel_rfl, rfl⟩
instance : TyApp 24 102 2 23 := ⟨Tryz.underlying24, by kernel_rfl⟩
instance : TyMk 24 102 3 24 [.int .i64 0, .int .i64 0, .int .i64 0] := ⟨Tryz.underlying24, by kernel_rfl, rfl⟩
instance : TyStr 25 [(0, 1), (1, 1), (2, 1)] [.slice none 0 0, .slice none 0 0, .slice none 0 0] := TyStr.of Tryz.underlying25 (TyZ.h (t := 25)) rfl (by kernel_rfl)
instance : TyStr 26 [(0, 1), (1, 1), (2, 1)] [.slice none 0 0, .slice none 0 0, .slice none 0 0] := TyStr.of Tryz.underlying26 (TyZ.h (t := 26)) rfl (by kernel_rfl)
instance : TyStr 27 [(0, 1), (1, 1)] [.int .i64 0, .int .i64 0] := TyStr.of Tryz.underlying27 (TyZ.h (t := 27)) rfl (by kernel_rfl)
instance : TyStr 28 [(0, 1), (1, 1)] [.int .i64 0, .int .i64 0] := TyStr.of Tryz.underlying28 (TyZ.h (t := 28)) rfl (by kernel_rfl)
instance : TyApp 29 108 3 31 := ⟨Tryz.underlying29, by kernel_rfl⟩
instance : TyMk 29 108 4 32 [.int .i64 0, .int .i64 0, .int .i64 0, .int .i64 0] := ⟨Tryz.underlying29, by kernel_rfl, rfl⟩
instance : TyApp 30 104 2 23 := ⟨Tryz.underlying30, by kernel_rfl⟩
instance : TyMk 30 104 3 24 [.int .i64 0, .int .i64 0, .bool false] := ⟨Tryz.underlying30, by kernel_rfl, rfl⟩
instance : TyStr 31 [(0, 2), (2, 1), (3, 1), (4, 1)] [.int .i64 0, .int .i64 0, .slice none 0 0, .int .i64 0, .slice none 0 0] := TyStr.of Tryz.underlying31 (TyZ.h (t := 31)) rfl (by kernel_rfl)
instance : TyStr 32 [(0, 2), (2, 1), (3, 1), (4, 1)] [.int .i64 0, .int .i64 0, .slice none 0 0, .int .i64 0, .slice none 0 0] := TyStr.of Tryz.underlying32 (TyZ.h (t := 32)) rfl (by kernel_rfl)
instance : TyApp 33 3 0 7 := ⟨Tryz.underlying33, by kernel_rfl⟩
instance : TyMk 33 3 1 8 [.int .i64 0] := ⟨Tryz.underlying33, by kernel_rfl, rfl⟩
instance : TyStr 34 [(0, 3), (3, 5), (8, 1), (9, 1), (10, 1), (11, 1), (12, 1)] [.slice none 0 0, .slice none 0 0, .slice none 0 0, .int .i64 0, .int .i64 0, .slice none 0 0, .int .i64 0, .slice none 0 0, .slice none 0 0, .int .i64 0, .int .i64 0, .int .i64 0, .int .i64 0] := TyStr.of Tryz.underlying34 (TyZ.h (t := 34)) rfl (by kernel_rfl)
instance : TyStr 35 [(0, 3), (3, 5), (8, 1), (9, 1), (10, 1), (11, 1), (12, 1)] [.slice none 0 0, .slice none 0 0, .slice none 0 0, .int .i64 0, .int .i64 0, .slice none 0 0, .int .i64 0, .slice none 0 0, .slice none 0 0, .int .i64 0, .int .i64 0, .int .i64 0, .int .i64 0] := TyStr.of Tryz.underlying35 (TyZ.h (t := 35)) rfl (by kernel_rfl)
instance : TyApp 38 59 1 15 := ⟨Tryz.underlying38, by kernel_rfl⟩
instance : TyMk 38 59 2 16 [.int .i64 0, .int .i64 0] := ⟨Tryz.underlying38, by kernel_rfl, rfl⟩
instance : TyApp 42 80 1 15 := ⟨Tryz.underlying42, by kernel_rfl⟩
instance : TyMk 42 80 2 16 [.int .i64 0, .int .i64 0] := ⟨Tryz.underlying42, by kernel_rfl, rfl⟩
instance : TyApp 43 170 2 23 := ⟨Tryz.underlying43, by kernel_rfl⟩
instance : TyMk 43 170 3 24 [.int .i64 0, .int .i64 0, .int .i64 0] := ⟨Tryz.underlying43, by kernel_rfl, rfl⟩
instance : TyStr 44 [(0, 1), (1, 1), (2, 1)] [.slice none 0 0, .slice none 0 0, .slice none 0 0] := TyStr.of Tryz.underlying44 (TyZ.h (t := 44)) rfl (by kernel_rfl)
instance : TyStr 45 [(0, 1), (1, 1), (2, 1)] [.slice none 0 0, .slice none 0 0, .slice none 0 0] := TyStr.of Tryz.underlying45 (TyZ.h (t := 45)) rfl (by kernel_rfl)
instance : TyStr 46 [(0, 1), (1, 1)] [.int .i64 0, .int .i64 0] := TyStr.of Tryz.underlying46 (TyZ.h (t := 46)) rfl (by kernel_rfl)
instance : TyApp 47 174 3 31 := ⟨Tryz.underlying47, by kernel_rfl⟩
instance : TyMk 47 174 4 32 [.int .i64 0, .int .i64 0, .int .i64 0, .int .i64 0] := ⟨Tryz.underlying47, by kernel_rfl, rfl⟩
instance : TyApp 48 177 2 23 := ⟨Tryz.underlying48, by kernel_rfl⟩
instance : TyMk 48 177 3 24 [.int .i64 0, .int .i64 0, .bool false] := ⟨Tryz.underlying48, by kernel_rfl, rfl⟩
instance : TyStr 49 [(0, 2), (2, 1), (3, 1), (4, 1)] [.int .i64 0, .int .i64 0, .slice none 0 0, .int .i64 0, .slice none 0 0] := TyStr.of Tryz.underlying49 (TyZ.h (t := 49)) rfl (by kernel_rfl)
instance : TyStr 50 [(0, 2), (2, 1), (3, 1), (4, 1)] [.int .i64 0, .int .i64 0, .slice none 0 0, .int .i64 0, .slice none 0 0] := TyStr.of Tryz.underlying50 (TyZ.h (t := 50)) rfl (by kernel_rfl)
instance : TyStr 51 [(0, 3), (3, 5), (8, 1), (9, 1), (10, 1), (11, 1), (12, 1)] [.slice none 0 0, .slice none 0 0, .slice none 0 0, .int .i64 0, .int .i64 0, .slice none 0 0, .int .i64 0, .slice none 0 0, .slice none 0 0, .int .i64 0, .int .i64 0, .int .i64 0, .int .i64 0] := TyStr.of Tryz.underlying51 (TyZ.h (t := 51)) rfl (by kernel_rfl)
instance : TyStr 52 [(0, 3), (3, 5), (8, 1), (9, 1), (10, 1), (11, 1), (12, 1)] [.slice none 0 0, .slice none 0 0, .slice none 0 0, .int .i64 0, .int .i64 0, .slice none 0 0, .int .i64 0, .slice none 0 0, .slice none 0 0, .int .i64 0, .int .i64 0, .int .i64 0, .int .i64 0] := TyStr.of Tryz.underlying52 (TyZ.h (t := 52)) rfl (by kernel_rfl)
instance : TyApp 54 86 2 55 := ⟨Tryz.underlying54, by kernel_rfl⟩
instance : TyMk 54 86 3 56 [.slice none 0 0, .int .i64 0, .slice none 0 0] := ⟨Tryz.underlying54, by kernel_rfl, rfl⟩
instance : TyStr 59 [(0, 1), (1, 1)] [.int .i64 0, .int .i64 0] := TyStr.of Tryz.underlying59 (TyZ.h (t := 59)) rfl (by kernel_rfl)
instance : TyStr 61 [(0, 1), (1, 1)] [.int .i64 0, .int .i64 0] := TyStr.of Tryz.underlying61 (TyZ.h (t := 61)) rfl (by kernel_rfl)
instance : TyStr 80 [(0, 1), (1, 1)] [.int .i64 0, .int .i64 0] := TyStr.of Tryz.underlying80 (TyZ.h (t := 80)) rfl (by kernel_rfl)
instance : TyStr 83 [(0, 1), (1, 1)] [.int .i64 0, .slice none 0 0] := TyStr.of Tryz.underlying83 (TyZ.h (t := 83)) rfl (by kernel_rfl)
instance : TyStr 84 [(0, 1), (1, 1)] [.int .i64 0, .slice none 0 0] := TyStr.of Tryz.underlying84 (TyZ.h (t := 84)) rfl (by kernel_rfl)
instance : TyStr 85 [(0, 1), (1, 2)] [.slice none 0 0, .int .i64 0, .slice none 0 0] := TyStr.of Tryz.underlying85 (TyZ.h (t := 85)) rfl (by kernel_rfl)
instance : TyStr 86 [(0, 1), (1, 2)] [.slice none 0 0, .int .i64 0, .slice none 0 0] := TyStr.of Tryz.underlying86 (TyZ.h (t := 86)) rfl (by kernel_rfl)
instance : TyApp 95 90 0 1 := ⟨Tryz.underlying95, by kernel_rfl⟩
instance : TyMk 95 90 1 2 [.int .u16 0] := ⟨Tryz.underlying95, by kernel_rfl, rfl⟩
instance : TyStr 101 [(0, 1), (1, 2)] [.int .i64 0, .int .i64 0, .int .i64 0] := TyStr.of Tryz.underlying101 (TyZ.h (t := 101)) rfl (by kernel_rfl)
instance : TyStr 102 [(0, 1), (1, 2)] [.int .i64 0, .int .i64 0, .int .i64 0] := TyStr.of Tryz.underlying102 (TyZ.h (t := 102)) rfl (by kernel_rfl)
instance : TyStr 103 [(0, 1), (1, 1), (2, 1)] [.int .i64 0, .int .i64 0, .bool false] := TyStr.of Tryz.underlying103 (TyZ.h (t := 103)) rfl (by kernel_rfl)
instance : TyStr 104 [(0, 1), (1, 1), (2, 1)] [.int .i64 0, .int .i64 0, .bool false] := TyStr.of Tryz.underlying104 (TyZ.h (t := 104)) rfl (by kernel_rfl)
instance : TyStr 107 [(0, 2), (2, 1), (3, 1)] [.int .i64 0, .int .i64 0, .int .i64 0, .int .i64 0] := TyStr.of Tryz.underlying107 (TyZ.h (t := 107)) rfl (by kernel_rfl)
instance : TyStr 108 [(0, 2), (2, 1), (3, 1)] [.int .i64 0, .int .i64 0, .int .i64 0, .int .i64 0] := TyStr.of Tryz.underlying108 (TyZ.h (t := 108)) rfl (by kernel_rfl)
instance : TyStr 124 [(0, 1)] [.nilFunc] := TyStr.of Tryz.underlying124 (TyZ.h (t := 124)) rfl (by kernel_rfl)
instance : TyStr 125 [(0, 1)] [.nilFunc] := TyStr.of Tryz.underlying125 (TyZ.h (t := 125)) rfl (by kernel_rfl)
instance : TyApp 128 46 1 15 := ⟨Tryz.underlying128, by kernel_rfl⟩
instance : TyMk 128 46 2 16 [.int .i64 0, .int .i64 0] := ⟨Tryz.underlying128, by kernel_rfl, rfl⟩
instance : TyApp 150 84 1 31 := ⟨Tryz.underlying150, by kernel_rfl⟩
instance : TyMk 150 84 2 32 [.int .i64 0, .slice none 0 0] := ⟨Tryz.underlying150, by kernel_rfl, rfl⟩
instance : TyStr 162 [(0, 1)] [.nilFunc] := TyStr.of Tryz.underlying162 (TyZ.h (t := 162)) rfl (by kernel_rfl)
instance : TyStr 163 [(0, 1)] [.nilFunc] := TyStr.of Tryz.underlying163 (TyZ.h (t := 163)) rfl (by kernel_rfl)
instance : TyStr 169 [(0, 1), (1, 2)] [.int .i64 0, .int .i64 0, .int .i64 0] := TyStr.of Tryz.underlying169 (TyZ.h (t := 169)) rfl (by kernel_rfl)
instance : TyStr 170 [(0, 1), (1, 2)] [.int .i64 0, .int .i64 0, .int .i64 0] := TyStr.of Tryz.underlying170 (TyZ.h (t := 170)) rfl (by kernel_rfl)
instance : TyStr 173 [(0, 2), (2, 1), (3, 1)] [.int .i64 0, .int .i64 0, .int .i64 0, .int .i64 0] := TyStr.of Tryz.underlying173 (TyZ.h (t := 173)) rfl (by kernel_rfl)
instance : TyStr 174 [(0, 2), (2, 1), (3, 1)] [.int .i64 0, .int .i64 0, .int .i64 0, .int .i64 0] := TyStr.of Tryz.underlying174 (TyZ.h (t := 174)) rfl (by kernel_rfl)
instance : TyStr 177 [(0, 1), (1, 1), (2, 1)] [.int .i64 0, .int .i64 0, .bool false] := TyStr.of Tryz.underlying177 (TyZ.h (t := 177)) rfl (by kernel_rfl)
instance : TyStr 180 [(0, 1)] [.nilFunc] := TyStr.of Tryz.underlying180 (TyZ.h (t := 180)) rfl (by kernel_rfl)
instance : TyStr 181 [(0, 1)] [.nilFunc] := TyStr.of Tryz.underlying181 (TyZ.h (t := 181)) rfl (by kernel_rfl)
instance : TyApp 183 38 0 23 := ⟨Tryz.underlying183, by kernel_rfl⟩
instance : TyMk 183 38 1 24 [.slice none 0 0] := ⟨Tryz.underlying183, by kernel_rfl, rfl⟩
instance : TyApp 185 195 2 23 := ⟨Tryz.underlying185, by kernel_rfl⟩
instance : TyMk 185 195 3 24 [.int .i64 0, .int .i64 0, .int .i64 0] := ⟨Tryz.underlying185, by kernel_rfl, rfl⟩
instance : TyStr 187 [(0, 13), (13, 1), (14, 1)] [.slice none 0 0, .slice none 0 0, .slice none 0 0, .int .i64 0, .int .i64 0, .slice none 0 0, .int .i64 0, .slice none 0 0, .slice none 0 0, .int .i64 0, .int .i64 0, .int .i64 0, .int .i64 0, .slice none 0 0, .map none] := TyStr.of Tryz.underlying187 (TyZ.h (t := 187)) rfl (by kernel_rfl)
instance : TyStr 188 [(0, 13), (13, 1), (14, 1)] [.slice none 0 0, .slice none 0 0, .slice none 0 0, .int .i64 0, .int .i64 0, .slice none 0 0, .int .i64 0, .slice none 0 0, .slice none 0 0, .int .i64 0, .int .i64 0, .int .i64 0, .int .i64 0, .slice none 0 0, .map none] := TyStr.of Tryz.underlying188 (TyZ.h (t := 188)) rfl (by kernel_rfl)
instance : TyStr 189 [(0, 1), (1, 1)] [.int .i64 0, .int .i64 0] := TyStr.of Tryz.underlying189 (TyZ.h (t := 189)) rfl (by kernel_rfl)
instance : TyStr 190 [(0, 1), (1, 1)] [.int .i64 0, .int .i64 0] := TyStr.of Tryz.underlying190 (TyZ.h (t := 190)) rfl (by kernel_rfl)
instance : TyStr 201 [(0, 1), (1, 1)] [.int .i64 0, .slice none 0 0] := TyStr.of Tryz.underlying201 (TyZ.h (t := 201)) rfl (by kernel_rfl)
instance : TyApp 217 236 2 23 := ⟨Tryz.underlying217, by kernel_rfl⟩
instance : TyMk 217 236 3 24 [.int .i64 0, .int .i64 0, .int .i64 0] := ⟨Tryz.underlying217, by kernel_rfl, rfl⟩
instance : TyStr 218 [(0, 5), (5, 1)] [.int .i64 0, .int .i64 0, .slice none 0 0, .int .i64 0, .slice none 0 0, .slice none 0 0] := TyStr.of Tryz.underlying218 (TyZ.h (t := 218)) rfl (by kernel_rfl)
instance : TyStr 219 [(0, 5), (5, 1)] [.int .i64 0, .int .i64 0, .slice none 0 0, .int .i64 0, .slice none 0 0, .slice none 0 0] := TyStr.of Tryz.underlying219 (TyZ.h (t := 219)) rfl (by kernel_rfl)
instance : TyApp 223 230 4 39 := ⟨Tryz.underlying223, by kernel_rfl⟩
instance : TyMk 223 230 5 40 [.int .i64 0, .int .i64 0, .int .i64 0, .int .i64 0, .int .i64 0] := ⟨Tryz.underlying223, by kernel_rfl, rfl⟩
instance : TyStr 224 [(0, 3), (3, 1), (4, 1)] [.slice none 0 0, .slice none 0 0, .slice none 0 0, .slice none 0 0, .map none] := TyStr.of Tryz.underlying224 (TyZ.h (t := 224)) rfl (by kernel_rfl)
instance : TyStr 225 [(0, 3), (3, 1), (4, 1)] [.slice none 0 0, .slice none 0 0, .slice none 0 0, .slice none 0 0, .map none] := TyStr.of Tryz.underlying225 (TyZ.h (t := 225)) rfl (by kernel_rfl)
instance : TyStr 232 [(0, 1), (1, 1)] [.int .i64 0, .int .i64 0] := TyStr.of Tryz.underlying232 (TyZ.h (t := 232)) rfl (by kernel_rfl)
instance : TyStr 233 [(0, 1), (1, 1)] [.int .i64 0, .int .i64 0] := TyStr.of Tryz.underlying233 (TyZ.h (t := 233)) rfl (by kernel_rfl)
end Go.Proofs.YtkbaaikidhbfmaaGreat
/- What the driver tries at one operation whose value is known: one word for it (the script is this word's own). No statement is proved here. -/
set_option linter.unusedVariables false
set_option linter.unusedSimpArgs false
namespace Go.Proofs.YtkbaaikidhbfmaaGreat
open Go.RowKit

theorem mem_ {α : Type} {x : α} {l : List α} (h : x ∈ l := by first | exact .head _ | exact .tail _ (.head _) | exact .tail _ (.tail _ (.head _)) | exact .tail _ (.tail _ (.tail _ (.head _))) | exact .tail _ (.tail _ (.tail _ (.tail _ (.head _)))) | exact .tail _ (.tail _ (.tail _ (.tail _ (.tail _ (.head _))))) | exact .tail _ (.tail _ (.tail _ (.tail _ (.tail _ (.tail _ (.head _)))))) | exact .tail _ (.tail _ (.tail _ (.tail _ (.tail _ (.tail _ (.tail _ (.head _)))))))) : x ∈ l := h
theorem SH.same {b0 : World} {R R' : Rgs} {H H' : Hp} (hR : ∀ r ∈ R, r ∈ R' := by first | exact fun _ h => h | exact fun _ h => .tail _ h | exact fun _ h => .tail _ (.tail _ h) | exact fun _ h => .tail _ (.tail _ (.tail _ h)) | exact fun _ h => .tail _ (.tail _ (.tail _ (.tail _ h))) | exact fun _ h => .tail _ (.tail _ (.tail _ (.tail _ (.tail _ h)))) | exact fun _ h => .tail _ (.tail _ (.tail _ (.tail _ (.tail _ (.tail _ h))))) | exact fun _ h => .tail _ (.tail _ (.tail _ (.tail _ (.tail _ (.tail _ (.tail _ h)))))) | exact fun _ h => .tail _ (.tail _ (.tail _ (.tail _ (.tail _ (.tail _ (.tail _ (.tail _ h))))))) | exact fun _ h => .tail _ (.tail _ (.tail _ (.tail _ (.tail _ (.tail _ (.tail _ (.tail _ (.tail _ h)))))))) | exact fun _ h => .tail _ (.tail _ (.tail _ (.tail _ (.tail _ (.tail _ (.tail _ (.tail _ (.tail _ (.tail _ h))))))))) | exact fun _ h => .tail _ (.tail _ (.tail _ (.tail _ (.tail _ (.tail _ (.tail _ (.tail _ (.tail _ (.tail _ (.tail _ h))))))))))) (hH : H.Sublist H' := by first | exact List.Sublist.refl _ | exact .cons _ (List.Sublist.refl _) | exact .cons _ (.cons _ (List.Sublist.refl _)) | exact .cons _ (.cons _ (.cons _ (List.Sublist.refl _))) | exact .cons _ (.cons _ (.cons _ (.cons _ (List.Sublist.refl _)))) | exact .cons _ (.cons _ (.cons _ (.cons _ (.cons _ (List.Sublist.refl _))))) | exact .cons _ (.cons _ (.cons _ (.cons _ (.cons _ (.cons _ (List.Sublist.refl _)))))) | exact .cons _ (.cons _ (.cons _ (.cons _ (.cons _ (.cons _ (.cons _ (List.Sublist.refl _))))))) | exact .cons _ (.cons _ (.cons _ (.cons _ (.cons _ (.cons _ (.cons _ (.cons _ (List.Sublist.refl _))))))))) :
    ∀ w, SH b0 R' H' w → SH b0 R H w := fun w h => h.weak hR hH
theorem ssm_ {p : Prop} (h : p := by first | exact .inr (fun _ _ => trivial) | exact .inr (fun _ h => h) | exact .inr SH.same | exact .inl rfl) : p := h
section
variable {α : Type} {n d : Nat} {full : List Oper} {b0 : World} {R : Rgs} {H : Hp} {fr : Slots} {K : Kt} {dst : Option Nat} {g : Option (Nat × Bool)} {ty : TypeId} {ps : String} {af : Array Edge} {G : Nat → Prop} {w1 : World} {sz : Nat} {enc : α → List Value} {v u : Value} {xs ys : List α} {sp : List Value} {w : World}
theorem Ob_eqlT {t yt : TypeId} {x y : Operand} {k : IntKind} {a b : Int} (hx : ev fr x = some (.int k a)) (hy : ev fr y = some (.int k b)) (h : a = b) : Ob b0 R H ⟨dst, .binOp .eql t x y yt, ty, ps, af, g⟩ fr (.bool true) := Ob_cmpT (p := a = b) (dp := inferInstance) hx hy rfl h
theorem Ob_eqlF {t yt : TypeId} {x y : Operand} {k : IntKind} {a b : Int} (hx : ev fr x = some (.int k a)) (hy : ev fr y = some (.int k b)) (h : a ≠ b) : Ob b0 R H ⟨dst, .binOp .eql t x y yt, ty, ps, af, g⟩ fr (.bool false) := Ob_cmpF (p := a = b) (dp := inferInstance) hx hy rfl (by omega)
theorem Ob_neqT {t yt : TypeId} {x y : Operand} {k : IntKind} {a b : Int} (hx : ev fr x = some (.int k a)) (hy : ev fr y = some (.int k b)) (h : a ≠ b) : Ob b0 R H ⟨dst, .binOp .neq t x y yt, ty, ps, af, g⟩ fr (.bool true) := Ob_cmpT (p := a ≠ b) (dp := inferInstance) hx hy rfl h
theorem Ob_neqF {t yt : TypeId} {x y : Operand} {k : IntKind} {a b : Int} (hx : ev fr x = some (.int k a)) (hy : ev fr y = some (.int k b)) (h : a = b) : Ob b0 R H ⟨dst, .binOp .neq t x y yt, ty, ps, af, g⟩ fr (.bool false) := Ob_cmpF (p := a ≠ b) (dp := inferInstance) hx hy rfl (by omega)
theorem Ob_lssT {t yt : TypeId} {x y : Operand} {k : IntKind} {a b : Int} (hx : ev fr x = some (.int k a)) (hy : ev fr y = some (.int k b)) (h : a < b) : Ob b0 R H ⟨dst, .binOp .lss t x y yt, ty, ps, af, g⟩ fr (.bool true) := Ob_cmpT (p := a < b) (dp := inferInstance) hx hy rfl h
theorem Ob_lssF {t yt : TypeId} {x y : Operand} {k : IntKind} {a b : Int} (hx : ev fr x = some (.int k a)) (hy : ev fr y = some (.int k b)) (h : b ≤ a) : Ob b0 R H ⟨dst, .binOp .lss t x y yt, ty, ps, af, g⟩ fr (.bool false) := Ob_cmpF (p := a < b) (dp := inferInstance) hx hy rfl (by omega)
theorem Ob_leqT {t yt : TypeId} {x y : Operand} {k : IntKind} {a b : Int} (hx : ev fr x = some (.int k a)) (hy : ev fr y = some (.int k b)) (h : a ≤ b) : Ob b0 R H ⟨dst, .binOp .leq t x y yt, ty, ps, af, g⟩ fr (.bool true) := Ob_cmpT (p := a ≤ b) (dp := inferInstance) hx hy rfl h
theorem Ob_leqF {t yt : TypeId} {x y : Operand} {k : IntKind} {a b : Int} (hx : ev fr x = some (.int k a)) (hy : ev fr y = some (.int k b)) (h : b < a) : Ob b0 R H ⟨dst, .binOp .leq t x y yt, ty, ps, af, g⟩ fr (.bool false) := Ob_cmpF (p := a ≤ b) (dp := inferInstance) hx hy rfl (by omega)
theorem Ob_gtrT {t yt : TypeId} {x y : Operand} {k : IntKind} {a b : Int} (hx : ev fr x = some (.int k a)) (hy : ev fr y = some (.int k b)) (h : b < a) : Ob b0 R H ⟨dst, .binOp .gtr t x y yt, ty, ps, af, g⟩ fr (.bool true) := Ob_cmpT (p := b < a) (dp := inferInstance) hx hy rfl h
theorem Ob_gtrF {t yt : TypeId} {x y : Operand} {k : IntKind} {a b : Int} (hx : ev fr x = some (.int k a)) (hy : ev fr y = some (.int k b)) (h : a ≤ b) : Ob b0 R H ⟨dst, .binOp .gtr t x y yt, ty, ps, af, g⟩ fr (.bool false) := Ob_cmpF (p := b < a) (dp := inferInstance) hx hy rfl (by omega)
theorem Ob_geqT {t yt : TypeId} {x y : Operand} {k : IntKind} {a b : Int} (hx : ev fr x = some (.int k a)) (hy : ev fr y = some (.int k b)) (h : b ≤ a) : Ob b0 R H ⟨dst, .binOp .geq t x y yt, ty, ps, af, g⟩ fr (.bool true) := Ob_cmpT (p := b ≤ a) (dp := inferInstance) hx hy rfl h
theorem Ob_geqF {t yt : TypeId} {x y : Operand} {k : IntKind} {a b : Int} (hx : ev fr x = some (.int k a)) (hy : ev fr y = some (.int k b)) (h : a < b) : Ob b0 R H ⟨dst, .binOp .geq t x y yt, ty, ps, af, g⟩ fr (.bool false) := Ob_cmpF (p := b ≤ a) (dp := inferInstance) hx hy rfl (by omega)
/-- The i-th one; there is one. -/
def nth [Inhabited α] (xs : List α) (i : Nat) : α := xs.getD i default
theorem nth_some [Inhabited α] {i : Nat} (h : i < xs.length) : xs[i]? = some (nth xs i) := by simp [nth, h]
theorem Ob_loadn [Inhabited α] {t m i k : Nat} {x : Operand} [TyOne t] (hx : ev fr x = some (.pointer (some ⟨vb v, oo (vo v + m) k, none⟩))) (hA : Arr G w1 sz enc v xs) (hr : (G, w1) ∈ R) (hm : m = ix sz i) (hi : i < xs.length) (hk : k < sz) (hu : (enc (nth xs i))[k]? = some u) :
    Ob b0 R H ⟨dst, .load t x, ty, ps, af, g⟩ fr u := Ob_load_arr hx hA hr hm (nth_some hi) hk hu
theorem Ob_loadsn [Inhabited α] {t m i k j : Nat} {x : Operand} {vs : List Value} [TyAgg t j] (hx : ev fr x = some (.pointer (some ⟨vb v, oo (vo v + m) k, none⟩))) (hA : Arr G w1 sz enc v xs) (hr : (G, w1) ∈ R) (hm : m = ix sz i) (hi : i < xs.length) (hk : k + j ≤ sz)
    (hu : ((enc (nth xs i)).drop k).take j = vs) (hl : vs.length = j) : Ob b0 R H ⟨dst, .load t x, ty, ps, af, g⟩ fr (.agg vs.toArray) := Ob_loads_arr hx hA hr hm (nth_some hi) hk hu hl
end
theorem dT {p : Prop} {dp : Decidable p} (h : p) : Value.bool true = .bool (decide p) := by rw [decide_eq_true h]
theorem dF {p : Prop} {dp : Decidable p} (h : ¬ p) : Value.bool false = .bool (decide p) := by rw [decide_eq_false h]
theorem nfl {l l' : List Value} (h : l = l' := by first
  | exact (rfl : _ = []) | exact (rfl : _ = [_, _]) | exact (rfl : _ = [_]) | exact (rfl : _ = [_, _, _]) | exact (rfl : _ = [_, _, _, _]) | exact (rfl : _ = [_, _, _, _, _, _, _, _, _, _, _, _, _]) | exact (rfl : _ = [_, _, _, _, _])
  | exact (rfl : _ = [_, _, _, _, _, _]) | exact (rfl : _ = [_, _, _, _, _, _, _]) | exact (rfl : _ = [_, _, _, _, _, _, _, _]) | exact (rfl : _ = [_, _, _, _, _, _, _, _, _]) | exact (rfl : _ = [_, _, _, _, _, _, _, _, _, _]) | exact (rfl : _ = [_, _, _, _, _, _, _, _, _, _, _])
  | exact (rfl : _ = [_, _, _, _, _, _, _, _, _, _, _, _]) | exact (rfl : _ = [_, _, _, _, _, _, _, _, _, _, _, _, _, _]) | exact (rfl : _ = [_, _, _, _, _, _, _, _, _, _, _, _, _, _, _])) : l = l' := h
theorem nfo {l : Option (List Value)} {l' : List Value} (h : l = some l' := by first
  | exact (rfl : _ = some [_, _]) | exact (rfl : _ = some [_]) | exact (rfl : _ = some [_, _, _]) | exact (rfl : _ = some [_, _, _, _]) | exact (rfl : _ = some [_, _, _, _, _, _, _, _, _, _, _, _, _])
  | exact (rfl : _ = some [_, _, _, _, _]) | exact (rfl : _ = some [_, _, _, _, _, _]) | exact (rfl : _ = some [_, _, _, _, _, _, _, _, _, _, _, _, _, _, _])) : l = some l' := h
theorem vls {vs : List Value} {sz : Nat} {ls : List (List Value)} (h : VLs vs sz ls := by first
  | exact inferInstance | exact .cons inferInstance inferInstance rfl | exact .cons inferInstance (.cons inferInstance inferInstance rfl) rfl | exact .cons inferInstance (.cons inferInstance (.cons inferInstance inferInstance rfl) rfl) rfl) : VLs vs sz ls := h
theorem ob1 {b0 : World} {R : Rgs} {H : Hp} {o : Oper} {fr : Slots} {c : Value} (h : Ob b0 R H o fr c := by first
  | (apply Ob_move; exact rfl) | (apply Ob_assign; exact rfl) | (apply Ob_load_own; exact rfl; exact mem_; exact rfl) | (apply Ob_eqlT; exact rfl; exact rfl; omega) | (apply Ob_eqlF; exact rfl; exact rfl; omega) | (apply Ob_neqT; exact rfl; exact rfl; omega) | (apply Ob_neqF; exact rfl; exact rfl; omega) | (apply Ob_lssT; exact rfl; exact rfl; omega) | (apply Ob_lssF; exact rfl; exact rfl; omega) | (apply Ob_leqT; exact rfl; exact rfl; omega) | (apply Ob_leqF; exact rfl; exact rfl; omega) | (apply Ob_gtrT; exact rfl; exact rfl; omega) | (apply Ob_gtrF; exact rfl; exact rfl; omega) | (apply Ob_geqT; exact rfl; exact rfl; omega) | (apply Ob_geqF; exact rfl; exact rfl; omega)
  | (apply Ob_field; exact rfl) | (apply Ob_fieldo; exact rfl) | (apply Ob_pick_t; exact rfl; exact rfl) | (apply Ob_pick_f; exact rfl; exact rfl) | (apply Ob_extract; exact rfl; exact rfl)
  | (apply Ob_add; exact rfl; exact rfl; omega) | (apply Ob_sub; exact rfl; exact rfl; omega) | (apply Ob_all_own; exact rfl; exact mem_; exact rfl) | (apply Ob_loads_own; exact rfl; exact mem_; exact nfl; exact rfl) | (apply Ob_nilCheck; exact rfl) | (apply Ob_not; exact rfl)
  | (apply Ob_len_lit; exact rfl) | (apply Ob_len; exact rfl; assumption) | (apply Ob_indexn; exact rfl; assumption; exact rfl; omega; decide) | (apply Ob_index; exact rfl; assumption; exact rfl; omega; omega; decide)
  | (apply Ob_build; exact rfl; exact inferInstance; exact nfo) | (apply Ob_max; exact rfl; exact rfl) | (apply Ob_min; exact rfl; exact rfl) | (apply Ob_makeFunc; exact rfl)
  | exact Ob_loadn rfl (by assumption) mem_ rfl (by omega) (by decide) rfl | exact Ob_loadsn rfl (by assumption) mem_ rfl (by omega) (by decide) nfl (by rfl)) : Ob b0 R H o fr c := h
end Go.Proofs.YtkbaaikidhbfmaaGreat
/- Function values that are asked of elements. No statement is proved here. -/
set_option linter.unusedVariables false
set_option linter.unusedSimpArgs false
namespace Go.Proofs.YtkbaaikidhbfmaaGreat
open Go.RowKit
section
variable {α : Type} {n d : Nat} {full : List Oper} {b0 : World} {R : Rgs} {H : Hp} {fr : Slots} {K : Kt} {dst : Option Nat} {g : Option (Nat × Bool)} {ty : TypeId} {ps : String} {af : Array Edge}
theorem Ob_makeFuncR {fn : Go.Fn} {rs cs : List Operand} {us vs : List Value} (hr : evs fr rs = some us) (hx : evs fr cs = some vs) : Ob b0 R H ⟨dst, .makeFunc fn rs.toArray cs.toArray, ty, ps, af, g⟩ fr (.func fn us.toArray vs.toArray) := .pure fun w f hf => by
  have e1 := evs_map hf hr
  have e2 := evs_map hf hx
  simp only [execOp, Instr.makeFunc]
  rw [show Array.map f rs.toArray = us.toArray by rw [← e1]; simp, show Array.map f cs.toArray = vs.toArray by rw [← e2]; simp]
  rfl
/-- A call of a function value. -/
theorem St_callf {f : FuncId} {x : Operand} {ar : List Operand} {vs us cap : List Value} {ts : Array TypeId} {w : World} {K : Value → World → Prop} [h : Ent f] (hf0 : ev fr x = some (.func (.func f) us.toArray cap.toArray)) (hx : evs fr ar = some vs)
    (hc : Rt f (us ++ vs ++ cap) w K) : St ⟨dst, .call ⟨.value x, ar.toArray, ts⟩, ty, ps, af, g⟩ fr w K := fun ρf hf => by
  have e := evs_map hf hx
  have e0 := hf _ _ hf0
  have e1 : Array.map ρf ar.toArray = vs.toArray := by rw [← e]; simp
  simp only [execOp, resolve, e0, Deferred.ofValue, e1]
  simp only [Sem.run_bind, Sem.run_pure, Result.andThen, invoke]
  rw [h.h]
  simp only [Upon]
  have e2 : (us.toArray ++ vs.toArray ++ cap.toArray).toList = us ++ vs ++ cap := by simp
  rw [e2]
  exact hc
/-- A function value that answers yes or no of one argument, in every world that keeps w0. -/
def Pass (w0 : World) (fv : Value) (enc : α → Value) (p : α → Bool) : Prop :=
  ∃ (f : FuncId) (us cap : List Value), fv = .func (.func f) us.toArray cap.toArray ∧ Ent f ∧ ∀ x w, Keep w0 w → Rt f (us ++ [enc x] ++ cap) w fun v w' => v = .bool (p x) ∧ Keep w w'
theorem Pass.v1 {w0 : World} {fv : Value} {enc : α → Value} {p : α → Bool} (h : Pass w0 fv enc p) : V1 fv := by
  obtain ⟨f, us, cap, rfl, _⟩ := h; exact ⟨rfl⟩
theorem Pass.keep {w0 w1 : World} {fv : Value} {enc : α → Value} {p : α → Bool} (h : Pass w0 fv enc p) (k : Keep w0 w1) : Pass w1 fv enc p := by
  obtain ⟨f, us, cap, rfl, hE, hp⟩ := h; exact ⟨f, us, cap, rfl, hE, fun x w hk => hp x w (k.trans hk)⟩
theorem Ob_callp {w0 : World} {x y : Operand} {fv u : Value} {enc : α → Value} {p : α → Bool} {a : α} {ts : Array TypeId} (hx : ev fr x = some fv) (hp : Pass w0 fv enc p) (hy : ev fr y = some u) (hu : u = enc a) (hk : ∀ w, SH b0 R H w → Keep w0 w) :
    Ob b0 R H ⟨dst, .call ⟨.value x, #[y], ts⟩, ty, ps, af, g⟩ fr (.bool (p a)) := by
  obtain ⟨f, us, cap, rfl, hE, hc⟩ := hp
  subst hu
  exact Ob.mk fun w hw => St_callf (h := hE) (ar := [y]) (vs := [enc a]) hx (by simp [evs, hy]) (hc a w (hk w hw))
end
end Go.Proofs.YtkbaaikidhbfmaaGreat
/- The driver's steps under short names: one word for a step of the code, one for its conditions. No statement is proved here. -/
set_option linter.unusedVariables false
set_option linter.unusedSimpArgs false
namespace Go.Proofs.YtkbaaikidhbfmaaGreat
open Go.RowKit
/-- A goal p comes down to q. -/
class S1 (p : Prop) (q : outParam Prop) : Prop where
  h : q → p
theorem s_ {p q : Prop} [i : S1 p q] (hq : q) : p := i.h hq
section
variable {n : Nat} {ρ : Option Nat} {D : List Deferred} {Q Q' : Post} {full : List Oper} {b0 : World} {R : Rgs} {H : Hp} {fr : Slots} {K : Kt}
instance {o : Oper} {rest : List Oper} {Fin : Kt} : S1 (J n full b0 Fin (o :: rest) R H fr) (JO n full b0 R H o fr (J n full b0 Fin rest)) := ⟨J_op⟩
instance : S1 (J n full b0 (JFin n D Q b0) [] R H fr) (GX n D Q b0 R H .normal fr) := ⟨fun h => J_nil (Fin := JFin n D Q b0) (R := R) (H := H) (fr := fr) h⟩
instance {x y : Code} : S1 (GC ρ n D Q b0 R H (.seq x y) fr) (GC ρ n D (Exit.then (fun a w => y.wpIn (FW ρ) 0 P Q a w) Q) b0 R H x fr) := ⟨GC_seq⟩
instance {id : Nat} {l : List Oper} : S1 (GC ρ n D Q b0 R H (.region id l.toArray false) fr) (J n l b0 (JFin n D Q b0) l R H fr) := ⟨GC_region⟩
instance {y : Code} : S1 (GX n D (Exit.then (fun a w => y.wpIn (FW ρ) 0 P Q a w) Q') b0 R H .normal fr) (GC ρ n D Q b0 R H y fr) := ⟨GX_then⟩
instance {id : Nat} {c : Code} : S1 (GC ρ n D Q b0 R H (.block id c) fr) (GC ρ n D (Exit.inBlock id Q) b0 R H c fr) := ⟨GC_block⟩
instance : S1 (GC ρ n D Q b0 R H .ret fr) (GX n D Q b0 R H .ret fr) := ⟨GC_ret⟩
instance : S1 (GC ρ n D Q b0 R H .skip fr) (GX n D Q b0 R H .normal fr) := ⟨GC_skip⟩
instance {l : Nat} : S1 (GC ρ n D Q b0 R H (.label l) fr) (GX n D Q b0 R H .normal fr) := ⟨GC_label⟩
instance {id : Nat} : S1 (GC ρ n D Q b0 R H (.exit id) fr) (GX n D Q b0 R H (.exit id) fr) := ⟨GC_exit⟩
instance {id : Nat} : S1 (GX n D (Exit.inBlock id Q) b0 R H .normal fr) (GX n D Q b0 R H .normal fr) := ⟨GX_block_normal⟩
instance {id : Nat} : S1 (GX n D (Exit.inBlock id Q) b0 R H (.exit id) fr) (GX n D Q b0 R H .normal fr) := ⟨GX_block_here⟩
instance {k : Act → World → Prop} {id : Nat} : S1 (GX n D (Exit.then k Q) b0 R H (.exit id) fr) (GX n D Q b0 R H (.exit id) fr) := ⟨GX_then_exit⟩
instance {k : Act → World → Prop} : S1 (GX n D (Exit.then k Q) b0 R H .ret fr) (GX n D Q b0 R H .ret fr) := ⟨GX_then_ret⟩
instance {id : Nat} : S1 (GX n D (Exit.inBlock id Q) b0 R H .ret fr) (GX n D Q b0 R H .ret fr) := ⟨GX_block_ret⟩
end
section
variable {n d : Nat} {D : List Deferred} {Q : Post} {full : List Oper} {b0 : World} {R : Rgs} {H : Hp} {fr : Slots} {K : Kt} {ty : TypeId} {ps : String} {af : Array Edge} {ρ : Option Nat}
/-- The i-th block. -/
theorem hi_ {i b : Nat} {cs : List Value} {T : TypeId} (h : H[i]? = some (b, Obj.cells cs.toArray T) := by first | exact (rfl : (_ : Hp)[0]? = _) | exact (rfl : (_ : Hp)[1]? = _) | exact (rfl : (_ : Hp)[2]? = _) | exact (rfl : (_ : Hp)[3]? = _) | exact (rfl : (_ : Hp)[4]? = _) | exact (rfl : (_ : Hp)[5]? = _) | exact (rfl : (_ : Hp)[6]? = _) | exact (rfl : (_ : Hp)[7]? = _) | exact (rfl : (_ : Hp)[8]? = _) | exact (rfl : (_ : Hp)[9]? = _)) : H[i]? = some (b, Obj.cells cs.toArray T) := h
theorem b_ {t : TypeId} {x : Operand} {v : Value} {cs : List Value} (hb : Nat.blt d n = true ∧ ev fr x = some v ∧ VC v cs) (h : ∀ b, K R ((b, .cells cs.toArray t) :: H) ((d, .pointer (some ⟨b, 0, none⟩)) :: fr)) :
    JO n full b0 R H ⟨some d, .box t x, ty, ps, af, none⟩ fr K := JO_box hb.1 hb.2.1 hb.2.2 h
theorem a_ {t : TypeId} {z : Value} {cs : List Value} [hz : TyZ t z] (hb : Nat.blt d n = true ∧ VC z cs) (h : ∀ b, K R ((b, .cells cs.toArray t) :: H) ((d, .pointer (some ⟨b, 0, none⟩)) :: fr)) :
    JO n full b0 R H ⟨some d, .alloc t, ty, ps, af, none⟩ fr K := JO_alloc hb.1 hb.2 h
theorem i_ {t e s by_ m : Nat} {z : Value} {parts : List (Nat × Operand)} {vs : List Value} {ls : List (List Value)} {cs : List Value} [h : TySl t e s by_] [hz : TyZ e z]
    (hb : Nat.blt d n = true ∧ parts = ((parts.map (·.2)).zipIdx).map (fun p => (p.2, p.1)) ∧ evs fr (parts.map (·.2)) = some vs ∧ VLs vs s ls ∧ vs.length = m ∧ Nat.ble (m * s) 16777216 = true ∧ ls.flatten = cs)
    (hK : ∀ b, K R ((b, .cells cs.toArray e) :: H) ((d, .slice (some ⟨b, 0, none⟩) m m) :: fr)) : JO n full b0 R H ⟨some d, .buildSlice t m parts.toArray, ty, ps, af, none⟩ fr K :=
  JO_lit hb.1 hb.2.1 hb.2.2.1 hb.2.2.2.1 hb.2.2.2.2.1 hb.2.2.2.2.2.1 hb.2.2.2.2.2.2 hK
theorem p_ {t : TypeId} {x y : Operand} {b off m i : Nat} {v : Value} {vs cs cs' : List Value} {T : TypeId} [hsz : TySz t m]
    (hb : ev fr x = some (.pointer (some ⟨b, off, none⟩)) ∧ ev fr y = some v ∧ H[i]? = some (b, .cells cs.toArray T) ∧ VC v vs ∧ vs.length = m ∧ Nat.ble (off + m) cs.length = true ∧ splice cs off vs = cs')
    (h : K R (setH H i (.cells cs'.toArray T)) fr) : JO n full b0 R H ⟨none, .store t x y, ty, ps, af, none⟩ fr K :=
  JO_store hb.1 hb.2.1 hb.2.2.1 hb.2.2.2.1 hb.2.2.2.2.1 hb.2.2.2.2.2.1 hb.2.2.2.2.2.2 h
theorem n_ {dd : Option Nat} {op : Op} {j : Nat} {b : Bool} (hj : gval full fr j = some (.bool !b) ∧ (dOk n dd && dfr op) = true)
    (h : K R H (putS fr dd undef)) : JO n full b0 R H ⟨dd, op, ty, ps, af, some (j, b)⟩ fr K := JO_no hj.1 hj.2 h
theorem c_ {op : BinOp} {t yt : TypeId} {x y : Operand} {k : IntKind} {a b : Int} {p : Prop} {dp : Decidable p} (hb : Nat.blt d n = true ∧ ev fr x = some (.int k a) ∧ ev fr y = some (.int k b) ∧ cmpB op a b = some (decide p))
    (h1 : p → K R H ((d, .bool true) :: fr)) (h2 : ¬ p → K R H ((d, .bool false) :: fr)) : JO n full b0 R H ⟨some d, .binOp op t x y yt, ty, ps, af, none⟩ fr K :=
  JO_cmp hb.1 hb.2.1 hb.2.2.1 hb.2.2.2 h1 h2
theorem q1_ {ls ts done : List Nat} {SSm : World → Prop} {k j : Nat} {o : Oper} (hb : tready full ts done = [j] ∧ full[j]? = some o ∧ (lateDone full ls done = true ∨ ∀ w, SH b0 R H w → SSm w))
    (h : JO n full b0 R H o fr (TB n full b0 ls ts SSm K k (j :: done))) : TB n full b0 ls ts SSm K (k + 1) done R H fr := TB_one hb.1 hb.2.1 hb.2.2 h
theorem q2_ {ls ts done : List Nat} {SSm : World → Prop} {k i j : Nat} {o p : Oper} (hb : tready full ts done = [i, j] ∧ full[i]? = some o ∧ full[j]? = some p ∧ (lateDone full ls done = true ∨ ∀ w, SH b0 R H w → SSm w))
    (h1 : JO n full b0 R H o fr (TB n full b0 ls ts SSm K k (i :: done))) (h2 : JO n full b0 R H p fr (TB n full b0 ls ts SSm K k (j :: done))) : TB n full b0 ls ts SSm K (k + 1) done R H fr := TB_two hb.1 hb.2.1 hb.2.2.1 hb.2.2.2 h1 h2
theorem q0_ {ls ts done : List Nat} {SSm : World → Prop} {k : Nat} (hb : tready full ts done = [] ∧ (lateDone full ls done = true ∨ ∀ w, SH b0 R H w → SSm w)) (h : GX n D Q b0 R H .normal fr) : TB n full b0 ls ts SSm (JFin n D Q b0) k done R H fr := TB_end hb.1 hb.2 h
variable {is : List Nat} {V : Slots} {N : Rel} {Fin : Slots → Rel → Prop}
theorem g_ {op : BinOp} {t yt : TypeId} {x y : Operand} {g : Option (Nat × Bool)} {k : IntKind} {a b : Int} {p : Prop} {dp : Decidable p}
    (hb : (gok full V N ⟨some d, .binOp op t x y yt, ty, ps, af, g⟩ && noN N ⟨some d, .binOp op t x y yt, ty, ps, af, g⟩) = true ∧ ev V x = some (.int k a) ∧ ev V y = some (.int k b) ∧ cmpB op a b = some (decide p))
    (h1 : p → GD full b0 R H is ((d, .bool true) :: V) N Fin) (h2 : ¬ p → GD full b0 R H is ((d, .bool false) :: V) N Fin) : GO full b0 R H ⟨some d, .binOp op t x y yt, ty, ps, af, g⟩ is V N Fin := GD_cmp hb.1 hb.2.1 hb.2.2.1 hb.2.2.2 h1 h2
instance : S1 (GD full b0 R H [] V N Fin) (Fin V N) := ⟨GD_nil⟩
instance {FinL : Slots → Prop} : S1 (GL full b0 R H [] V N FinL) (FinL V) := ⟨GL_nil⟩
end
/-- Fewer blocks are known. -/
theorem sub_ {Hm H : Hp} (h : Hm.Sublist H := by repeat (first | exact List.nil_sublist _ | exact List.Sublist.refl _ | apply List.Sublist.cons_cons | apply List.Sublist.cons)) : Hm.Sublist H := h
theorem SH.sl {b0 : World} {R : Rgs} {H : Hp} {w : World} {Hm : Hp} (hw : SH b0 R H w) (h : Hm.Sublist H := by repeat (first | exact List.nil_sublist _ | exact List.Sublist.refl _ | apply List.Sublist.cons_cons | apply List.Sublist.cons)) : SH b0 R Hm w := hw.weak (fun r h => h) h
theorem ssn_ {p : Prop} (h : p := by first | exact ssm_ | exact .inr fun w h => h.sl) : p := h
/-- The conditions of a step. -/
theorem z_ {p : Prop} (h : p := by first | exact rfl | exact ⟨rfl, inferInstance⟩ | exact ⟨rfl, rfl, inferInstance⟩ | (refine ⟨rfl, rfl, ?_, ?_⟩; exact hi_; exact ⟨inferInstance, rfl, rfl, nfl⟩) | exact ⟨rfl, rfl, rfl, vls, rfl, rfl, nfl⟩ | exact ⟨rfl, rfl, rfl, rfl⟩ | exact ⟨rfl, rfl⟩ | exact ⟨rfl, rfl, ssn_⟩ | exact ⟨rfl, ssn_⟩ | exact ⟨rfl, rfl, rfl, ssn_⟩) : p := h
end Go.Proofs.YtkbaaikidhbfmaaGreat
/- The data of the chapter and how they lie in memory. No statement is proved here. -/
set_option linter.unusedVariables false
namespace Go.Proofs.YtkbaaikidhbfmaaGreat
open Go.RowKit
abbrev Rg := Int × Int
def encR (r : Rg) : List Value := [.int .i64 r.1, .int .i64 r.2]
structure Smp where
  vat : Int
  lo : Int
  hi : Int
  deriving Inhabited, DecidableEq
def encS (s : Smp) : List Value := [.int .i64 s.vat, .int .i64 s.lo, .int .i64 s.hi]
structure BV where
  lo : Int
  hi : Int
  early : Int
  late : Int
  deriving Inhabited, DecidableEq
def encV (s : BV) : List Value := [.int .i64 s.lo, .int .i64 s.hi, .int .i64 s.early, .int .i64 s.late]
structure BS where
  vat : Int
  hour : Int
  done : Bool
  deriving Inhabited, DecidableEq
def encB (s : BS) : List Value := [.int .i64 s.vat, .int .i64 s.hour, .bool s.done]
def encO (v : Value) : List Value := [v]
instance : Inhabited Value := ⟨.bool false⟩
instance {x : Int} : VA (encI x) := ⟨rfl⟩
instance {x : Rg} : VA (encR x) := ⟨rfl⟩
instance {x : Smp} : VA (encS x) := ⟨rfl⟩
instance {x : BV} : VA (encV x) := ⟨rfl⟩
instance {x : BS} : VA (encB x) := ⟨rfl⟩
/-- A slice of slices of ints. -/
structure Nest (G : Nat → Prop) (w : World) (v : Value) (hs : List Value) (xss : List (List Int)) : Prop where
  len : hs.length = xss.length
  arr : Arr G w 1 encO v hs
  row : ∀ i, i < xss.length → Arr G w 1 encI (nth hs i) (nth xss i)
theorem Arr.v1 {α : Type} {G : Nat → Prop} {w : World} {sz : Nat} {enc : α → List Value} {v : Value} {xs : List α} (h : Arr G w sz enc v xs) : V1 v := by
  obtain ⟨A, c, rfl, _⟩ := h.h; exact ⟨rfl⟩
theorem Nest.move {G : Nat → Prop} {w w' : World} {v : Value} {hs : List Value} {xss : List (List Int)} (h : Nest G w v hs xss) (hw : ∀ b, G b → b < w.heap.size → w'.heap[b]? = w.heap[b]?) : Nest G w' v hs xss :=
  ⟨h.len, h.arr.move hw, fun i hi => (h.row i hi).move hw⟩
theorem Nest.keep {G : Nat → Prop} {w w' : World} {v : Value} {hs : List Value} {xss : List (List Int)} (h : Nest G w v hs xss) (k : Keep w w') : Nest G w' v hs xss := h.move fun b _ hb => k.block b hb
theorem Nest.weaken {G G' : Nat → Prop} {w : World} {v : Value} {hs : List Value} {xss : List (List Int)} (h : Nest G w v hs xss) (hG : ∀ b, G b → b < w.heap.size → G' b) : Nest G' w v hs xss :=
  ⟨h.len, h.arr.weaken hG, fun i hi => (h.row i hi).weaken hG⟩
/-- A yard: fields, vats, samples. -/
structure Yd where
  fields : List Rg
  vats : List (List Int)
  smps : List Smp
  deriving Inhabited, DecidableEq
structure Bt where
  sun : Rg
  vats : List BV
  last : Int
  smps : List BS
  deriving Inhabited, DecidableEq
structure Crs where
  sun : Int
  needs : List Int
  deriving Inhabited, DecidableEq
structure Wk where
  yard : Yd
  beat : Bt
  ends : List Int
  boxes : Int
  force : Int
  last : Int
  cake : Int
  deriving Inhabited, DecidableEq
end Go.Proofs.YtkbaaikidhbfmaaGreat
