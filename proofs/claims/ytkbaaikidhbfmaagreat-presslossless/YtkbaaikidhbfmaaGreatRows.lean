/-
  No cell of these rows narrows 'for every input' (looked for: loops, veiled, ifaces, maps, wideKeys, modest, calm, conditions, laid).
  DERIVED. THE GIVEN ROWS OF THIS SEAT. 17 by the template 'for every input the law returns true; each argument reads behind the call as it read before'; 0 by the template 'total and deterministic' (their statements: YtkbaaikidhbfmaaGreatTotals.lean).
  GIVEN WITH THE SEED: the statements are not yours to turn. If you find one false, say at which input.
  Laid BY PROGRAM, IN A SANDBOX (cutbox-rows.mjs): the forced cells as the released guide's own fill.sh prints them over the translation 9a40b5488305aa72… (all of the seat's roots in one cut). By AI agents, Wed Nov 11 2026. No macro, syntax, notation, axiom, sorry.
-/
import Derived.Test.YtkbaaikidhbfmaaGreatChecked
import GoSem.Claim
import GoSem.ClaimJoined
import GoSem.ClaimMapViews
import Derived.JoinedTies
import Derived.KernelRfl
namespace Go.Proofs.YtkbaaikidhbfmaaGreat
/- THE CELL 'sum', in the pinned program and in every row, IS THE sha256 OF THE DUMP (.gsa) THAT YtkbaaikidhbfmaaGreatProg.lean LOADS. Nothing in Lean hashes anything: it is a label: what it is worth is what the hold of that sum in a sandbox is worth. -/
noncomputable def Tryz.pinned : Pinned := { name := "ytkbaaikidhbfmaagreat", sum := "9a40b5488305aa72c90796a7700e3e3cd4809df6bd29436857ecf48b4eeff8fc", checked := Tryz.checked }
namespace Rows
def none {H : Type} : Left H := { results := [], args := [] }

/-- 'anillaw09.PressMuds': WHATEVER THE INPUT: true; the input reads as it did. -/
def pressMudsSpec : ChangeSpec := { name := "pressMuds", fn := fun _ => fun
  | [d] => { results := [.lit (.bool true)], args := [d] }
  | _ => none }
def pressMudsRow : OpenClaim := { program := "ytkbaaikidhbfmaagreat", sum := "9a40b5488305aa72c90796a7700e3e3cd4809df6bd29436857ecf48b4eeff8fc", func := "anil/anillaw09.PressMuds", spec := "pressMuds", unfollowed := true, recurses := true, plainKeys := false, apart := false }
def PressMudsSaid : Prop := pressMudsRow.holds Tryz.pinned (OpenSpec.ofChange pressMudsSpec)

/-- ITS FALSE NEIGHBOUR: 'it returns false'. Refute it at one input. -/
def pressMudsWrong : ChangeSpec := { name := "pressMuds", fn := fun _ => fun
  | [d] => { results := [.lit (.bool false)], args := [d] }
  | _ => none }
def PressMudsWrongFalsely : Prop := pressMudsRow.holds Tryz.pinned (OpenSpec.ofChange pressMudsWrong)

/-- 'anillaw09.PressNeeds': WHATEVER THE INPUT: true; the input reads as it did. -/
def pressNeedsSpec : ChangeSpec := { name := "pressNeeds", fn := fun _ => fun
  | [d] => { results := [.lit (.bool true)], args := [d] }
  | _ => none }
def pressNeedsRow : OpenClaim := { program := "ytkbaaikidhbfmaagreat", sum := "9a40b5488305aa72c90796a7700e3e3cd4809df6bd29436857ecf48b4eeff8fc", func := "anil/anillaw09.PressNeeds", spec := "pressNeeds", unfollowed := true, recurses := true, plainKeys := false, apart := false }
def PressNeedsSaid : Prop := pressNeedsRow.holds Tryz.pinned (OpenSpec.ofChange pressNeedsSpec)

/-- ITS FALSE NEIGHBOUR: 'it returns false'. Refute it at one input. -/
def pressNeedsWrong : ChangeSpec := { name := "pressNeeds", fn := fun _ => fun
  | [d] => { results := [.lit (.bool false)], args := [d] }
  | _ => none }
def PressNeedsWrongFalsely : Prop := pressNeedsRow.holds Tryz.pinned (OpenSpec.ofChange pressNeedsWrong)

/-- 'anillaw09.PressPlays': WHATEVER THE INPUT: true; the input reads as it did. -/
def pressPlaysSpec : ChangeSpec := { name := "pressPlays", fn := fun _ => fun
  | [d1, d2] => { results := [.lit (.bool true)], args := [d1, d2] }
  | _ => none }
def pressPlaysRow : OpenClaim := { program := "ytkbaaikidhbfmaagreat", sum := "9a40b5488305aa72c90796a7700e3e3cd4809df6bd29436857ecf48b4eeff8fc", func := "anil/anillaw09.PressPlays", spec := "pressPlays", unfollowed := true, recurses := true, plainKeys := false, apart := false }
def PressPlaysSaid : Prop := pressPlaysRow.holds Tryz.pinned (OpenSpec.ofChange pressPlaysSpec)

/-- ITS FALSE NEIGHBOUR: 'it returns false'. Refute it at one input. -/
def pressPlaysWrong : ChangeSpec := { name := "pressPlays", fn := fun _ => fun
  | [d1, d2] => { results := [.lit (.bool false)], args := [d1, d2] }
  | _ => none }
def PressPlaysWrongFalsely : Prop := pressPlaysRow.holds Tryz.pinned (OpenSpec.ofChange pressPlaysWrong)

/-- 'anillaw09.PressWise': WHATEVER THE INPUT: true; the input reads as it did. -/
def pressWiseSpec : ChangeSpec := { name := "pressWise", fn := fun _ => fun
  | [d] => { results := [.lit (.bool true)], args := [d] }
  | _ => none }
def pressWiseRow : OpenClaim := { program := "ytkbaaikidhbfmaagreat", sum := "9a40b5488305aa72c90796a7700e3e3cd4809df6bd29436857ecf48b4eeff8fc", func := "anil/anillaw09.PressWise", spec := "pressWise", unfollowed := true, recurses := true, plainKeys := false, apart := false }
def PressWiseSaid : Prop := pressWiseRow.holds Tryz.pinned (OpenSpec.ofChange pressWiseSpec)

/-- ITS FALSE NEIGHBOUR: 'it returns false'. Refute it at one input. -/
def pressWiseWrong : ChangeSpec := { name := "pressWise", fn := fun _ => fun
  | [d] => { results := [.lit (.bool false)], args := [d] }
  | _ => none }
def PressWiseWrongFalsely : Prop := pressWiseRow.holds Tryz.pinned (OpenSpec.ofChange pressWiseWrong)

/-- 'aniltop.TopWise': WHATEVER THE INPUT: true; the input reads as it did. -/
def topWiseSpec : ChangeSpec := { name := "topWise", fn := fun _ => fun
  | [d] => { results := [.lit (.bool true)], args := [d] }
  | _ => none }
def topWiseRow : OpenClaim := { program := "ytkbaaikidhbfmaagreat", sum := "9a40b5488305aa72c90796a7700e3e3cd4809df6bd29436857ecf48b4eeff8fc", func := "anil/aniltop.TopWise", spec := "topWise", unfollowed := true, recurses := true, plainKeys := false, apart := false }
def TopWiseSaid : Prop := topWiseRow.holds Tryz.pinned (OpenSpec.ofChange topWiseSpec)

/-- ITS FALSE NEIGHBOUR: 'it returns false'. Refute it at one input. -/
def topWiseWrong : ChangeSpec := { name := "topWise", fn := fun _ => fun
  | [d] => { results := [.lit (.bool false)], args := [d] }
  | _ => none }
def TopWiseWrongFalsely : Prop := topWiseRow.holds Tryz.pinned (OpenSpec.ofChange topWiseWrong)

/-- 'anillaw09.PressTruth': WHATEVER THE INPUT: true; the input reads as it did. -/
def pressTruthSpec : ChangeSpec := { name := "pressTruth", fn := fun _ => fun
  | [d1, d2] => { results := [.lit (.bool true)], args := [d1, d2] }
  | _ => none }
def pressTruthRow : OpenClaim := { program := "ytkbaaikidhbfmaagreat", sum := "9a40b5488305aa72c90796a7700e3e3cd4809df6bd29436857ecf48b4eeff8fc", func := "anil/anillaw09.PressTruth", spec := "pressTruth", unfollowed := true, recurses := true, plainKeys := false, apart := false }
def PressTruthSaid : Prop := pressTruthRow.holds Tryz.pinned (OpenSpec.ofChange pressTruthSpec)

/-- ITS FALSE NEIGHBOUR: 'it returns false'. Refute it at one input. -/
def pressTruthWrong : ChangeSpec := { name := "pressTruth", fn := fun _ => fun
  | [d1, d2] => { results := [.lit (.bool false)], args := [d1, d2] }
  | _ => none }
def PressTruthWrongFalsely : Prop := pressTruthRow.holds Tryz.pinned (OpenSpec.ofChange pressTruthWrong)

/-- 'aniltop.TopExact': WHATEVER THE INPUT: true; the input reads as it did. -/
def topExactSpec : ChangeSpec := { name := "topExact", fn := fun _ => fun
  | [d1, d2] => { results := [.lit (.bool true)], args := [d1, d2] }
  | _ => none }
def topExactRow : OpenClaim := { program := "ytkbaaikidhbfmaagreat", sum := "9a40b5488305aa72c90796a7700e3e3cd4809df6bd29436857ecf48b4eeff8fc", func := "anil/aniltop.TopExact", spec := "topExact", unfollowed := true, recurses := true, plainKeys := false, apart := false }
def TopExactSaid : Prop := topExactRow.holds Tryz.pinned (OpenSpec.ofChange topExactSpec)

/-- ITS FALSE NEIGHBOUR: 'it returns false'. Refute it at one input. -/
def topExactWrong : ChangeSpec := { name := "topExact", fn := fun _ => fun
  | [d1, d2] => { results := [.lit (.bool false)], args := [d1, d2] }
  | _ => none }
def TopExactWrongFalsely : Prop := topExactRow.holds Tryz.pinned (OpenSpec.ofChange topExactWrong)

/-- 'anillaw09.PressBoxes': WHATEVER THE INPUT: true; the input reads as it did. -/
def pressBoxesSpec : ChangeSpec := { name := "pressBoxes", fn := fun _ => fun
  | [d] => { results := [.lit (.bool true)], args := [d] }
  | _ => none }
def pressBoxesRow : OpenClaim := { program := "ytkbaaikidhbfmaagreat", sum := "9a40b5488305aa72c90796a7700e3e3cd4809df6bd29436857ecf48b4eeff8fc", func := "anil/anillaw09.PressBoxes", spec := "pressBoxes", unfollowed := true, recurses := true, plainKeys := false, apart := false }
def PressBoxesSaid : Prop := pressBoxesRow.holds Tryz.pinned (OpenSpec.ofChange pressBoxesSpec)

/-- ITS FALSE NEIGHBOUR: 'it returns false'. Refute it at one input. -/
def pressBoxesWrong : ChangeSpec := { name := "pressBoxes", fn := fun _ => fun
  | [d] => { results := [.lit (.bool false)], args := [d] }
  | _ => none }
def PressBoxesWrongFalsely : Prop := pressBoxesRow.holds Tryz.pinned (OpenSpec.ofChange pressBoxesWrong)

/-- 'anillaw09.PressForce': WHATEVER THE INPUT: true; the input reads as it did. -/
def pressForceSpec : ChangeSpec := { name := "pressForce", fn := fun _ => fun
  | [d1, d2] => { results := [.lit (.bool true)], args := [d1, d2] }
  | _ => none }
def pressForceRow : OpenClaim := { program := "ytkbaaikidhbfmaagreat", sum := "9a40b5488305aa72c90796a7700e3e3cd4809df6bd29436857ecf48b4eeff8fc", func := "anil/anillaw09.PressForce", spec := "pressForce", unfollowed := true, recurses := true, plainKeys := false, apart := false }
def PressForceSaid : Prop := pressForceRow.holds Tryz.pinned (OpenSpec.ofChange pressForceSpec)

/-- ITS FALSE NEIGHBOUR: 'it returns false'. Refute it at one input. -/
def pressForceWrong : ChangeSpec := { name := "pressForce", fn := fun _ => fun
  | [d1, d2] => { results := [.lit (.bool false)], args := [d1, d2] }
  | _ => none }
def PressForceWrongFalsely : Prop := pressForceRow.holds Tryz.pinned (OpenSpec.ofChange pressForceWrong)

/-- 'anillaw09.PressLate': WHATEVER THE INPUT: true; the input reads as it did. -/
def pressLateSpec : ChangeSpec := { name := "pressLate", fn := fun _ => fun
  | [d1, d2, d3] => { results := [.lit (.bool true)], args := [d1, d2, d3] }
  | _ => none }
def pressLateRow : OpenClaim := { program := "ytkbaaikidhbfmaagreat", sum := "9a40b5488305aa72c90796a7700e3e3cd4809df6bd29436857ecf48b4eeff8fc", func := "anil/anillaw09.PressLate", spec := "pressLate", unfollowed := true, recurses := true, plainKeys := false, apart := false }
def PressLateSaid : Prop := pressLateRow.holds Tryz.pinned (OpenSpec.ofChange pressLateSpec)

/-- ITS FALSE NEIGHBOUR: 'it returns false'. Refute it at one input. -/
def pressLateWrong : ChangeSpec := { name := "pressLate", fn := fun _ => fun
  | [d1, d2, d3] => { results := [.lit (.bool false)], args := [d1, d2, d3] }
  | _ => none }
def PressLateWrongFalsely : Prop := pressLateRow.holds Tryz.pinned (OpenSpec.ofChange pressLateWrong)

/-- 'anillaw09.PressWiser': WHATEVER THE INPUT: true; the input reads as it did. -/
def pressWiserSpec : ChangeSpec := { name := "pressWiser", fn := fun _ => fun
  | [d1, d2] => { results := [.lit (.bool true)], args := [d1, d2] }
  | _ => none }
def pressWiserRow : OpenClaim := { program := "ytkbaaikidhbfmaagreat", sum := "9a40b5488305aa72c90796a7700e3e3cd4809df6bd29436857ecf48b4eeff8fc", func := "anil/anillaw09.PressWiser", spec := "pressWiser", unfollowed := true, recurses := true, plainKeys := false, apart := false }
def PressWiserSaid : Prop := pressWiserRow.holds Tryz.pinned (OpenSpec.ofChange pressWiserSpec)

/-- ITS FALSE NEIGHBOUR: 'it returns false'. Refute it at one input. -/
def pressWiserWrong : ChangeSpec := { name := "pressWiser", fn := fun _ => fun
  | [d1, d2] => { results := [.lit (.bool false)], args := [d1, d2] }
  | _ => none }
def PressWiserWrongFalsely : Prop := pressWiserRow.holds Tryz.pinned (OpenSpec.ofChange pressWiserWrong)

/-- 'anillaw09.PressKnown': WHATEVER THE INPUT: true; the input reads as it did. -/
def pressKnownSpec : ChangeSpec := { name := "pressKnown", fn := fun _ => fun
  | [d1, d2, d3, d4] => { results := [.lit (.bool true)], args := [d1, d2, d3, d4] }
  | _ => none }
def pressKnownRow : OpenClaim := { program := "ytkbaaikidhbfmaagreat", sum := "9a40b5488305aa72c90796a7700e3e3cd4809df6bd29436857ecf48b4eeff8fc", func := "anil/anillaw09.PressKnown", spec := "pressKnown", unfollowed := true, recurses := true, plainKeys := false, apart := false }
def PressKnownSaid : Prop := pressKnownRow.holds Tryz.pinned (OpenSpec.ofChange pressKnownSpec)

/-- ITS FALSE NEIGHBOUR: 'it returns false'. Refute it at one input. -/
def pressKnownWrong : ChangeSpec := { name := "pressKnown", fn := fun _ => fun
  | [d1, d2, d3, d4] => { results := [.lit (.bool false)], args := [d1, d2, d3, d4] }
  | _ => none }
def PressKnownWrongFalsely : Prop := pressKnownRow.holds Tryz.pinned (OpenSpec.ofChange pressKnownWrong)

/-- 'anillaw09.PressLossless': WHATEVER THE INPUT: true; the input reads as it did. -/
def pressLosslessSpec : ChangeSpec := { name := "pressLossless", fn := fun _ => fun
  | [d1, d2, d3] => { results := [.lit (.bool true)], args := [d1, d2, d3] }
  | _ => none }
def pressLosslessRow : OpenClaim := { program := "ytkbaaikidhbfmaagreat", sum := "9a40b5488305aa72c90796a7700e3e3cd4809df6bd29436857ecf48b4eeff8fc", func := "anil/anillaw09.PressLossless", spec := "pressLossless", unfollowed := true, recurses := true, plainKeys := false, apart := false }
def PressLosslessSaid : Prop := pressLosslessRow.holds Tryz.pinned (OpenSpec.ofChange pressLosslessSpec)

/-- ITS FALSE NEIGHBOUR: 'it returns false'. Refute it at one input. -/
def pressLosslessWrong : ChangeSpec := { name := "pressLossless", fn := fun _ => fun
  | [d1, d2, d3] => { results := [.lit (.bool false)], args := [d1, d2, d3] }
  | _ => none }
def PressLosslessWrongFalsely : Prop := pressLosslessRow.holds Tryz.pinned (OpenSpec.ofChange pressLosslessWrong)

/-- 'anillaw09.PressBundle': WHATEVER THE INPUT: true; the input reads as it did. -/
def pressBundleSpec : ChangeSpec := { name := "pressBundle", fn := fun _ => fun
  | [d1, d2, d3] => { results := [.lit (.bool true)], args := [d1, d2, d3] }
  | _ => none }
def pressBundleRow : OpenClaim := { program := "ytkbaaikidhbfmaagreat", sum := "9a40b5488305aa72c90796a7700e3e3cd4809df6bd29436857ecf48b4eeff8fc", func := "anil/anillaw09.PressBundle", spec := "pressBundle", unfollowed := true, recurses := true, plainKeys := false, apart := false }
def PressBundleSaid : Prop := pressBundleRow.holds Tryz.pinned (OpenSpec.ofChange pressBundleSpec)

/-- ITS FALSE NEIGHBOUR: 'it returns false'. Refute it at one input. -/
def pressBundleWrong : ChangeSpec := { name := "pressBundle", fn := fun _ => fun
  | [d1, d2, d3] => { results := [.lit (.bool false)], args := [d1, d2, d3] }
  | _ => none }
def PressBundleWrongFalsely : Prop := pressBundleRow.holds Tryz.pinned (OpenSpec.ofChange pressBundleWrong)

/-- 'anillaw09.PressBest': WHATEVER THE INPUT: true; the input reads as it did. -/
def pressBestSpec : ChangeSpec := { name := "pressBest", fn := fun _ => fun
  | [d1, d2, d3] => { results := [.lit (.bool true)], args := [d1, d2, d3] }
  | _ => none }
def pressBestRow : OpenClaim := { program := "ytkbaaikidhbfmaagreat", sum := "9a40b5488305aa72c90796a7700e3e3cd4809df6bd29436857ecf48b4eeff8fc", func := "anil/anillaw09.PressBest", spec := "pressBest", unfollowed := true, recurses := true, plainKeys := false, apart := false }
def PressBestSaid : Prop := pressBestRow.holds Tryz.pinned (OpenSpec.ofChange pressBestSpec)

/-- ITS FALSE NEIGHBOUR: 'it returns false'. Refute it at one input. -/
def pressBestWrong : ChangeSpec := { name := "pressBest", fn := fun _ => fun
  | [d1, d2, d3] => { results := [.lit (.bool false)], args := [d1, d2, d3] }
  | _ => none }
def PressBestWrongFalsely : Prop := pressBestRow.holds Tryz.pinned (OpenSpec.ofChange pressBestWrong)

/-- 'anillaw09.PressBoxed': WHATEVER THE INPUT: true; the input reads as it did. -/
def pressBoxedSpec : ChangeSpec := { name := "pressBoxed", fn := fun _ => fun
  | [d1, d2] => { results := [.lit (.bool true)], args := [d1, d2] }
  | _ => none }
def pressBoxedRow : OpenClaim := { program := "ytkbaaikidhbfmaagreat", sum := "9a40b5488305aa72c90796a7700e3e3cd4809df6bd29436857ecf48b4eeff8fc", func := "anil/anillaw09.PressBoxed", spec := "pressBoxed", unfollowed := true, recurses := true, plainKeys := false, apart := false }
def PressBoxedSaid : Prop := pressBoxedRow.holds Tryz.pinned (OpenSpec.ofChange pressBoxedSpec)

/-- ITS FALSE NEIGHBOUR: 'it returns false'. Refute it at one input. -/
def pressBoxedWrong : ChangeSpec := { name := "pressBoxed", fn := fun _ => fun
  | [d1, d2] => { results := [.lit (.bool false)], args := [d1, d2] }
  | _ => none }
def PressBoxedWrongFalsely : Prop := pressBoxedRow.holds Tryz.pinned (OpenSpec.ofChange pressBoxedWrong)

/-- 'anillaw09.PressNoBetter': WHATEVER THE INPUT: true; the input reads as it did. -/
def pressNoBetterSpec : ChangeSpec := { name := "pressNoBetter", fn := fun _ => fun
  | [d1, d2, d3, d4] => { results := [.lit (.bool true)], args := [d1, d2, d3, d4] }
  | _ => none }
def pressNoBetterRow : OpenClaim := { program := "ytkbaaikidhbfmaagreat", sum := "9a40b5488305aa72c90796a7700e3e3cd4809df6bd29436857ecf48b4eeff8fc", func := "anil/anillaw09.PressNoBetter", spec := "pressNoBetter", unfollowed := true, recurses := true, plainKeys := false, apart := false }
def PressNoBetterSaid : Prop := pressNoBetterRow.holds Tryz.pinned (OpenSpec.ofChange pressNoBetterSpec)

/-- ITS FALSE NEIGHBOUR: 'it returns false'. Refute it at one input. -/
def pressNoBetterWrong : ChangeSpec := { name := "pressNoBetter", fn := fun _ => fun
  | [d1, d2, d3, d4] => { results := [.lit (.bool false)], args := [d1, d2, d3, d4] }
  | _ => none }
def PressNoBetterWrongFalsely : Prop := pressNoBetterRow.holds Tryz.pinned (OpenSpec.ofChange pressNoBetterWrong)

/- THE SECOND FORM. 'bulk': how many values and letters a reading holds, each counted each time it is reached (what is shared counts as often as it is met; a slice's spare places count too). A statement '..UptoSaid' is the law's where the arguments, and the package variables that the reading takes, are together of bulk at most 1048576: NARROWER than '..Said'. Prove '..Said' where nothing that the law and all that it calls make is longer than what came in: it says more and counts as full. Else prove '..UptoSaid'. A law counts once. -/
mutual
def uptoBulk {H : Type} : DataW H → Nat
  | .lit (.string bytes) => bytes.length + 1
  | .lit _ => 1
  | .nil => 1
  | .ptr d => uptoBulk d + 1
  | .slice elems spare => uptoBulkAll elems + uptoBulkAll spare + 1
  | .agg parts => uptoBulkAll parts + 1
  | .iface _ d => uptoBulk d + 1
  | .map entries => uptoBulkEntries entries + 1
  | .held _ => 1
def uptoBulkAll {H : Type} : List (DataW H) → Nat
  | [] => 0
  | d :: r => uptoBulk d + uptoBulkAll r
def uptoBulkEntries {H : Type} : List (Lit × DataW H) → Nat
  | [] => 0
  | x :: r => uptoBulkEntry x + uptoBulkEntries r
def uptoBulkEntry {H : Type} : Lit × DataW H → Nat
  | (.string bytes, d) => bytes.length + uptoBulk d + 1
  | (_, d) => uptoBulk d + 1
 end
def uptoSmall : (H : Type) → List (DataW H) → Bool := fun _ ds => decide (uptoBulkAll ds ≤ 1048576)
def OpenSpec.upto (s : _root_.Go.ChangeSpec) : _root_.Go.OpenSpec := { _root_.Go.OpenSpec.ofChange s with cond := some uptoSmall }

/-- 'anillaw09.PressMuds', WHERE WHAT IT READS IS OF BULK AT MOST 1048576: true; the input reads as it did. -/
def pressMudsUptoRow : OpenClaim := { program := "ytkbaaikidhbfmaagreat", sum := "9a40b5488305aa72c90796a7700e3e3cd4809df6bd29436857ecf48b4eeff8fc", func := "anil/anillaw09.PressMuds", spec := "pressMuds", unfollowed := true, recurses := true, plainKeys := false, apart := false, narrowed := true }
def PressMudsUptoSaid : Prop := pressMudsUptoRow.holds Tryz.pinned (OpenSpec.upto pressMudsSpec)

/-- 'anillaw09.PressNeeds', WHERE WHAT IT READS IS OF BULK AT MOST 1048576: true; the input reads as it did. -/
def pressNeedsUptoRow : OpenClaim := { program := "ytkbaaikidhbfmaagreat", sum := "9a40b5488305aa72c90796a7700e3e3cd4809df6bd29436857ecf48b4eeff8fc", func := "anil/anillaw09.PressNeeds", spec := "pressNeeds", unfollowed := true, recurses := true, plainKeys := false, apart := false, narrowed := true }
def PressNeedsUptoSaid : Prop := pressNeedsUptoRow.holds Tryz.pinned (OpenSpec.upto pressNeedsSpec)

/-- 'anillaw09.PressPlays', WHERE WHAT IT READS IS OF BULK AT MOST 1048576: true; the input reads as it did. -/
def pressPlaysUptoRow : OpenClaim := { program := "ytkbaaikidhbfmaagreat", sum := "9a40b5488305aa72c90796a7700e3e3cd4809df6bd29436857ecf48b4eeff8fc", func := "anil/anillaw09.PressPlays", spec := "pressPlays", unfollowed := true, recurses := true, plainKeys := false, apart := false, narrowed := true }
def PressPlaysUptoSaid : Prop := pressPlaysUptoRow.holds Tryz.pinned (OpenSpec.upto pressPlaysSpec)

/-- 'anillaw09.PressWise', WHERE WHAT IT READS IS OF BULK AT MOST 1048576: true; the input reads as it did. -/
def pressWiseUptoRow : OpenClaim := { program := "ytkbaaikidhbfmaagreat", sum := "9a40b5488305aa72c90796a7700e3e3cd4809df6bd29436857ecf48b4eeff8fc", func := "anil/anillaw09.PressWise", spec := "pressWise", unfollowed := true, recurses := true, plainKeys := false, apart := false, narrowed := true }
def PressWiseUptoSaid : Prop := pressWiseUptoRow.holds Tryz.pinned (OpenSpec.upto pressWiseSpec)

/-- 'aniltop.TopWise', WHERE WHAT IT READS IS OF BULK AT MOST 1048576: true; the input reads as it did. -/
def topWiseUptoRow : OpenClaim := { program := "ytkbaaikidhbfmaagreat", sum := "9a40b5488305aa72c90796a7700e3e3cd4809df6bd29436857ecf48b4eeff8fc", func := "anil/aniltop.TopWise", spec := "topWise", unfollowed := true, recurses := true, plainKeys := false, apart := false, narrowed := true }
def TopWiseUptoSaid : Prop := topWiseUptoRow.holds Tryz.pinned (OpenSpec.upto topWiseSpec)

/-- 'anillaw09.PressTruth', WHERE WHAT IT READS IS OF BULK AT MOST 1048576: true; the input reads as it did. -/
def pressTruthUptoRow : OpenClaim := { program := "ytkbaaikidhbfmaagreat", sum := "9a40b5488305aa72c90796a7700e3e3cd4809df6bd29436857ecf48b4eeff8fc", func := "anil/anillaw09.PressTruth", spec := "pressTruth", unfollowed := true, recurses := true, plainKeys := false, apart := false, narrowed := true }
def PressTruthUptoSaid : Prop := pressTruthUptoRow.holds Tryz.pinned (OpenSpec.upto pressTruthSpec)

/-- 'aniltop.TopExact', WHERE WHAT IT READS IS OF BULK AT MOST 1048576: true; the input reads as it did. -/
def topExactUptoRow : OpenClaim := { program := "ytkbaaikidhbfmaagreat", sum := "9a40b5488305aa72c90796a7700e3e3cd4809df6bd29436857ecf48b4eeff8fc", func := "anil/aniltop.TopExact", spec := "topExact", unfollowed := true, recurses := true, plainKeys := false, apart := false, narrowed := true }
def TopExactUptoSaid : Prop := topExactUptoRow.holds Tryz.pinned (OpenSpec.upto topExactSpec)

/-- 'anillaw09.PressBoxes', WHERE WHAT IT READS IS OF BULK AT MOST 1048576: true; the input reads as it did. -/
def pressBoxesUptoRow : OpenClaim := { program := "ytkbaaikidhbfmaagreat", sum := "9a40b5488305aa72c90796a7700e3e3cd4809df6bd29436857ecf48b4eeff8fc", func := "anil/anillaw09.PressBoxes", spec := "pressBoxes", unfollowed := true, recurses := true, plainKeys := false, apart := false, narrowed := true }
def PressBoxesUptoSaid : Prop := pressBoxesUptoRow.holds Tryz.pinned (OpenSpec.upto pressBoxesSpec)

/-- 'anillaw09.PressForce', WHERE WHAT IT READS IS OF BULK AT MOST 1048576: true; the input reads as it did. -/
def pressForceUptoRow : OpenClaim := { program := "ytkbaaikidhbfmaagreat", sum := "9a40b5488305aa72c90796a7700e3e3cd4809df6bd29436857ecf48b4eeff8fc", func := "anil/anillaw09.PressForce", spec := "pressForce", unfollowed := true, recurses := true, plainKeys := false, apart := false, narrowed := true }
def PressForceUptoSaid : Prop := pressForceUptoRow.holds Tryz.pinned (OpenSpec.upto pressForceSpec)

/-- 'anillaw09.PressLate', WHERE WHAT IT READS IS OF BULK AT MOST 1048576: true; the input reads as it did. -/
def pressLateUptoRow : OpenClaim := { program := "ytkbaaikidhbfmaagreat", sum := "9a40b5488305aa72c90796a7700e3e3cd4809df6bd29436857ecf48b4eeff8fc", func := "anil/anillaw09.PressLate", spec := "pressLate", unfollowed := true, recurses := true, plainKeys := false, apart := false, narrowed := true }
def PressLateUptoSaid : Prop := pressLateUptoRow.holds Tryz.pinned (OpenSpec.upto pressLateSpec)

/-- 'anillaw09.PressWiser', WHERE WHAT IT READS IS OF BULK AT MOST 1048576: true; the input reads as it did. -/
def pressWiserUptoRow : OpenClaim := { program := "ytkbaaikidhbfmaagreat", sum := "9a40b5488305aa72c90796a7700e3e3cd4809df6bd29436857ecf48b4eeff8fc", func := "anil/anillaw09.PressWiser", spec := "pressWiser", unfollowed := true, recurses := true, plainKeys := false, apart := false, narrowed := true }
def PressWiserUptoSaid : Prop := pressWiserUptoRow.holds Tryz.pinned (OpenSpec.upto pressWiserSpec)

/-- 'anillaw09.PressKnown', WHERE WHAT IT READS IS OF BULK AT MOST 1048576: true; the input reads as it did. -/
def pressKnownUptoRow : OpenClaim := { program := "ytkbaaikidhbfmaagreat", sum := "9a40b5488305aa72c90796a7700e3e3cd4809df6bd29436857ecf48b4eeff8fc", func := "anil/anillaw09.PressKnown", spec := "pressKnown", unfollowed := true, recurses := true, plainKeys := false, apart := false, narrowed := true }
def PressKnownUptoSaid : Prop := pressKnownUptoRow.holds Tryz.pinned (OpenSpec.upto pressKnownSpec)

/-- 'anillaw09.PressLossless', WHERE WHAT IT READS IS OF BULK AT MOST 1048576: true; the input reads as it did. -/
def pressLosslessUptoRow : OpenClaim := { program := "ytkbaaikidhbfmaagreat", sum := "9a40b5488305aa72c90796a7700e3e3cd4809df6bd29436857ecf48b4eeff8fc", func := "anil/anillaw09.PressLossless", spec := "pressLossless", unfollowed := true, recurses := true, plainKeys := false, apart := false, narrowed := true }
def PressLosslessUptoSaid : Prop := pressLosslessUptoRow.holds Tryz.pinned (OpenSpec.upto pressLosslessSpec)

/-- 'anillaw09.PressBundle', WHERE WHAT IT READS IS OF BULK AT MOST 1048576: true; the input reads as it did. -/
def pressBundleUptoRow : OpenClaim := { program := "ytkbaaikidhbfmaagreat", sum := "9a40b5488305aa72c90796a7700e3e3cd4809df6bd29436857ecf48b4eeff8fc", func := "anil/anillaw09.PressBundle", spec := "pressBundle", unfollowed := true, recurses := true, plainKeys := false, apart := false, narrowed := true }
def PressBundleUptoSaid : Prop := pressBundleUptoRow.holds Tryz.pinned (OpenSpec.upto pressBundleSpec)

/-- 'anillaw09.PressBest', WHERE WHAT IT READS IS OF BULK AT MOST 1048576: true; the input reads as it did. -/
def pressBestUptoRow : OpenClaim := { program := "ytkbaaikidhbfmaagreat", sum := "9a40b5488305aa72c90796a7700e3e3cd4809df6bd29436857ecf48b4eeff8fc", func := "anil/anillaw09.PressBest", spec := "pressBest", unfollowed := true, recurses := true, plainKeys := false, apart := false, narrowed := true }
def PressBestUptoSaid : Prop := pressBestUptoRow.holds Tryz.pinned (OpenSpec.upto pressBestSpec)

/-- 'anillaw09.PressBoxed', WHERE WHAT IT READS IS OF BULK AT MOST 1048576: true; the input reads as it did. -/
def pressBoxedUptoRow : OpenClaim := { program := "ytkbaaikidhbfmaagreat", sum := "9a40b5488305aa72c90796a7700e3e3cd4809df6bd29436857ecf48b4eeff8fc", func := "anil/anillaw09.PressBoxed", spec := "pressBoxed", unfollowed := true, recurses := true, plainKeys := false, apart := false, narrowed := true }
def PressBoxedUptoSaid : Prop := pressBoxedUptoRow.holds Tryz.pinned (OpenSpec.upto pressBoxedSpec)

/-- 'anillaw09.PressNoBetter', WHERE WHAT IT READS IS OF BULK AT MOST 1048576: true; the input reads as it did. -/
def pressNoBetterUptoRow : OpenClaim := { program := "ytkbaaikidhbfmaagreat", sum := "9a40b5488305aa72c90796a7700e3e3cd4809df6bd29436857ecf48b4eeff8fc", func := "anil/anillaw09.PressNoBetter", spec := "pressNoBetter", unfollowed := true, recurses := true, plainKeys := false, apart := false, narrowed := true }
def PressNoBetterUptoSaid : Prop := pressNoBetterUptoRow.holds Tryz.pinned (OpenSpec.upto pressNoBetterSpec)

end Rows
end Go.Proofs.YtkbaaikidhbfmaaGreat
