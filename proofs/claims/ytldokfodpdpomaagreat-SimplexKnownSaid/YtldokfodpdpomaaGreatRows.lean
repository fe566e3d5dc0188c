/-
  No cell of these rows narrows 'for every input' (looked for: loops, veiled, ifaces, maps, wideKeys, modest, calm, conditions, laid).
  DERIVED. THE GIVEN ROWS OF THIS SEAT. 6 by the template 'for every input the law returns true; each argument reads behind the call as it read before'; 0 by the template 'total and deterministic' (their statements: YtldokfodpdpomaaGreatTotals.lean).
  GIVEN WITH THE SEED: the statements are not yours to turn. If you find one false, say at which input.
  Laid BY PROGRAM, IN A SANDBOX (cutbox-rows.mjs): the forced cells as the released guide's own fill.sh prints them over the translation e4e04601f7094f8b… (all of the seat's roots in one cut). By AI agents, Wed Nov 11 2026. No macro, syntax, notation, axiom, sorry.
-/
import Derived.Test.YtldokfodpdpomaaGreatChecked
import GoSem.Claim
import GoSem.ClaimJoined
import GoSem.ClaimMapViews
import Derived.JoinedTies
import Derived.KernelRfl
namespace Go.Proofs.YtldokfodpdpomaaGreat
/- THE CELL 'sum', in the pinned program and in every row, IS THE sha256 OF THE DUMP (.gsa) THAT YtldokfodpdpomaaGreatProg.lean LOADS. Nothing in Lean hashes anything: it is a label: what it is worth is what the hold of that sum in a sandbox is worth. -/
noncomputable def Tryz.pinned : Pinned := { name := "ytldokfodpdpomaagreat", sum := "e4e04601f7094f8b48fbd94c3d5ee7d0e46c550fe6ec404a2e61120a613a69fb", checked := Tryz.checked }
namespace Rows
def none {H : Type} : Left H := { results := [], args := [] }

/-- 'parlourlaw04.SimplexProves': WHATEVER THE INPUT: true; the input reads as it did. -/
def simplexProvesSpec : ChangeSpec := { name := "simplexProves", fn := fun _ => fun
  | [d1, d2, d3] => { results := [.lit (.bool true)], args := [d1, d2, d3] }
  | _ => none }
def simplexProvesRow : OpenClaim := { program := "ytldokfodpdpomaagreat", sum := "e4e04601f7094f8b48fbd94c3d5ee7d0e46c550fe6ec404a2e61120a613a69fb", func := "parlour/parlourlaw04.SimplexProves", spec := "simplexProves", unfollowed := true, recurses := true, apart := false }
def SimplexProvesSaid : Prop := simplexProvesRow.holds Tryz.pinned (OpenSpec.ofChange simplexProvesSpec)

/-- ITS FALSE NEIGHBOUR: 'it returns false'. Refute it at one input. -/
def simplexProvesWrong : ChangeSpec := { name := "simplexProves", fn := fun _ => fun
  | [d1, d2, d3] => { results := [.lit (.bool false)], args := [d1, d2, d3] }
  | _ => none }
def SimplexProvesWrongFalsely : Prop := simplexProvesRow.holds Tryz.pinned (OpenSpec.ofChange simplexProvesWrong)

/-- 'parlourlaw04.SimplexDuals': WHATEVER THE INPUT: true; the input reads as it did. -/
def simplexDualsSpec : ChangeSpec := { name := "simplexDuals", fn := fun _ => fun
  | [d1, d2, d3] => { results := [.lit (.bool true)], args := [d1, d2, d3] }
  | _ => none }
def simplexDualsRow : OpenClaim := { program := "ytldokfodpdpomaagreat", sum := "e4e04601f7094f8b48fbd94c3d5ee7d0e46c550fe6ec404a2e61120a613a69fb", func := "parlour/parlourlaw04.SimplexDuals", spec := "simplexDuals", unfollowed := true, recurses := true, apart := false }
def SimplexDualsSaid : Prop := simplexDualsRow.holds Tryz.pinned (OpenSpec.ofChange simplexDualsSpec)

/-- ITS FALSE NEIGHBOUR: 'it returns false'. Refute it at one input. -/
def simplexDualsWrong : ChangeSpec := { name := "simplexDuals", fn := fun _ => fun
  | [d1, d2, d3] => { results := [.lit (.bool false)], args := [d1, d2, d3] }
  | _ => none }
def SimplexDualsWrongFalsely : Prop := simplexDualsRow.holds Tryz.pinned (OpenSpec.ofChange simplexDualsWrong)

/-- 'parlourlaw04.SimplexDicts': WHATEVER THE INPUT: true; the input reads as it did. -/
def simplexDictsSpec : ChangeSpec := { name := "simplexDicts", fn := fun _ => fun
  | [d1, d2, d3] => { results := [.lit (.bool true)], args := [d1, d2, d3] }
  | _ => none }
def simplexDictsRow : OpenClaim := { program := "ytldokfodpdpomaagreat", sum := "e4e04601f7094f8b48fbd94c3d5ee7d0e46c550fe6ec404a2e61120a613a69fb", func := "parlour/parlourlaw04.SimplexDicts", spec := "simplexDicts", unfollowed := true, recurses := true, apart := false }
def SimplexDictsSaid : Prop := simplexDictsRow.holds Tryz.pinned (OpenSpec.ofChange simplexDictsSpec)

/-- ITS FALSE NEIGHBOUR: 'it returns false'. Refute it at one input. -/
def simplexDictsWrong : ChangeSpec := { name := "simplexDicts", fn := fun _ => fun
  | [d1, d2, d3] => { results := [.lit (.bool false)], args := [d1, d2, d3] }
  | _ => none }
def SimplexDictsWrongFalsely : Prop := simplexDictsRow.holds Tryz.pinned (OpenSpec.ofChange simplexDictsWrong)

/-- 'parlourlaw04.SimplexRuns': WHATEVER THE INPUT: true; the input reads as it did. -/
def simplexRunsSpec : ChangeSpec := { name := "simplexRuns", fn := fun _ => fun
  | [d] => { results := [.lit (.bool true)], args := [d] }
  | _ => none }
def simplexRunsRow : OpenClaim := { program := "ytldokfodpdpomaagreat", sum := "e4e04601f7094f8b48fbd94c3d5ee7d0e46c550fe6ec404a2e61120a613a69fb", func := "parlour/parlourlaw04.SimplexRuns", spec := "simplexRuns", unfollowed := true, recurses := true, apart := false }
def SimplexRunsSaid : Prop := simplexRunsRow.holds Tryz.pinned (OpenSpec.ofChange simplexRunsSpec)

/-- ITS FALSE NEIGHBOUR: 'it returns false'. Refute it at one input. -/
def simplexRunsWrong : ChangeSpec := { name := "simplexRuns", fn := fun _ => fun
  | [d] => { results := [.lit (.bool false)], args := [d] }
  | _ => none }
def SimplexRunsWrongFalsely : Prop := simplexRunsRow.holds Tryz.pinned (OpenSpec.ofChange simplexRunsWrong)

/-- 'parlourlaw04.SimplexPivots': WHATEVER THE INPUT: true; the input reads as it did. -/
def simplexPivotsSpec : ChangeSpec := { name := "simplexPivots", fn := fun _ => fun
  | [d1, d2, d3] => { results := [.lit (.bool true)], args := [d1, d2, d3] }
  | _ => none }
def simplexPivotsRow : OpenClaim := { program := "ytldokfodpdpomaagreat", sum := "e4e04601f7094f8b48fbd94c3d5ee7d0e46c550fe6ec404a2e61120a613a69fb", func := "parlour/parlourlaw04.SimplexPivots", spec := "simplexPivots", unfollowed := true, recurses := true, apart := false }
def SimplexPivotsSaid : Prop := simplexPivotsRow.holds Tryz.pinned (OpenSpec.ofChange simplexPivotsSpec)

/-- ITS FALSE NEIGHBOUR: 'it returns false'. Refute it at one input. -/
def simplexPivotsWrong : ChangeSpec := { name := "simplexPivots", fn := fun _ => fun
  | [d1, d2, d3] => { results := [.lit (.bool false)], args := [d1, d2, d3] }
  | _ => none }
def SimplexPivotsWrongFalsely : Prop := simplexPivotsRow.holds Tryz.pinned (OpenSpec.ofChange simplexPivotsWrong)

/-- 'parlourlaw04.SimplexKnown': WHATEVER THE INPUT: true; the input reads as it did. -/
def simplexKnownSpec : ChangeSpec := { name := "simplexKnown", fn := fun _ => fun
  | [] => { results := [.lit (.bool true)], args := [] }
  | _ => none }
def simplexKnownRow : OpenClaim := { program := "ytldokfodpdpomaagreat", sum := "e4e04601f7094f8b48fbd94c3d5ee7d0e46c550fe6ec404a2e61120a613a69fb", func := "parlour/parlourlaw04.SimplexKnown", spec := "simplexKnown", unfollowed := true, recurses := true, apart := false }
def SimplexKnownSaid : Prop := simplexKnownRow.holds Tryz.pinned (OpenSpec.ofChange simplexKnownSpec)

/-- ITS FALSE NEIGHBOUR: 'it returns false'. Refute it at one input. -/
def simplexKnownWrong : ChangeSpec := { name := "simplexKnown", fn := fun _ => fun
  | [] => { results := [.lit (.bool false)], args := [] }
  | _ => none }
def SimplexKnownWrongFalsely : Prop := simplexKnownRow.holds Tryz.pinned (OpenSpec.ofChange simplexKnownWrong)

/- THE SECOND FORM. 'bulk': how many values and letters a reading holds, each counted each time it is reached (what is shared counts as often as it is met; a slice's spare places count too). A statement '..UptoSaid' is the law's where the arguments, and the package variables that the reading takes, are together of bulk at most 1048576: NARROWER than '..Said'. Prove '..Said' where nothing that the law and all that it calls make is longer than what came in: it says more and counts as full. Else prove '..UptoSaid'. A law counts once. -/
mutual
def uptoBulk {H : Type} : DataW H → Nat
  | .lit (.string bytes) => bytes.length + 1
  | .lit _ => 1
  | .nil => 1
  | .ptr d => uptoBulk d + 1
  | .slice elems spare => uptoBulkAll elems + uptoBulkAll spare + 1
  | .agg parts => uptoBulkAll parts + 1
  | .iface _ d => uptoBulk d + 1
  | .map entries => uptoBulkEntries entries + 1
  | .held _ => 1
def uptoBulkAll {H : Type} : List (DataW H) → Nat
  | [] => 0
  | d :: r => uptoBulk d + uptoBulkAll r
def uptoBulkEntries {H : Type} : List (Lit × DataW H) → Nat
  | [] => 0
  | x :: r => uptoBulkEntry x + uptoBulkEntries r
def uptoBulkEntry {H : Type} : Lit × DataW H → Nat
  | (.string bytes, d) => bytes.length + uptoBulk d + 1
  | (_, d) => uptoBulk d + 1
 end
def uptoSmall : (H : Type) → List (DataW H) → Bool := fun _ ds => decide (uptoBulkAll ds ≤ 1048576)
def OpenSpec.upto (s : _root_.Go.ChangeSpec) : _root_.Go.OpenSpec := { _root_.Go.OpenSpec.ofChange s with cond := some uptoSmall }

/-- 'parlourlaw04.SimplexProves', WHERE WHAT IT READS IS OF BULK AT MOST 1048576: true; the input reads as it did. -/
def simplexProvesUptoRow : OpenClaim := { program := "ytldokfodpdpomaagreat", sum := "e4e04601f7094f8b48fbd94c3d5ee7d0e46c550fe6ec404a2e61120a613a69fb", func := "parlour/parlourlaw04.SimplexProves", spec := "simplexProves", unfollowed := true, recurses := true, apart := false, narrowed := true }
def SimplexProvesUptoSaid : Prop := simplexProvesUptoRow.holds Tryz.pinned (OpenSpec.upto simplexProvesSpec)

/-- 'parlourlaw04.SimplexDuals', WHERE WHAT IT READS IS OF BULK AT MOST 1048576: true; the input reads as it did. -/
def simplexDualsUptoRow : OpenClaim := { program := "ytldokfodpdpomaagreat", sum := "e4e04601f7094f8b48fbd94c3d5ee7d0e46c550fe6ec404a2e61120a613a69fb", func := "parlour/parlourlaw04.SimplexDuals", spec := "simplexDuals", unfollowed := true, recurses := true, apart := false, narrowed := true }
def SimplexDualsUptoSaid : Prop := simplexDualsUptoRow.holds Tryz.pinned (OpenSpec.upto simplexDualsSpec)

/-- 'parlourlaw04.SimplexDicts', WHERE WHAT IT READS IS OF BULK AT MOST 1048576: true; the input reads as it did. -/
def simplexDictsUptoRow : OpenClaim := { program := "ytldokfodpdpomaagreat", sum := "e4e04601f7094f8b48fbd94c3d5ee7d0e46c550fe6ec404a2e61120a613a69fb", func := "parlour/parlourlaw04.SimplexDicts", spec := "simplexDicts", unfollowed := true, recurses := true, apart := false, narrowed := true }
def SimplexDictsUptoSaid : Prop := simplexDictsUptoRow.holds Tryz.pinned (OpenSpec.upto simplexDictsSpec)

/-- 'parlourlaw04.SimplexRuns', WHERE WHAT IT READS IS OF BULK AT MOST 1048576: true; the input reads as it did. -/
def simplexRunsUptoRow : OpenClaim := { program := "ytldokfodpdpomaagreat", sum := "e4e04601f7094f8b48fbd94c3d5ee7d0e46c550fe6ec404a2e61120a613a69fb", func := "parlour/parlourlaw04.SimplexRuns", spec := "simplexRuns", unfollowed := true, recurses := true, apart := false, narrowed := true }
def SimplexRunsUptoSaid : Prop := simplexRunsUptoRow.holds Tryz.pinned (OpenSpec.upto simplexRunsSpec)

/-- 'parlourlaw04.SimplexPivots', WHERE WHAT IT READS IS OF BULK AT MOST 1048576: true; the input reads as it did. -/
def simplexPivotsUptoRow : OpenClaim := { program := "ytldokfodpdpomaagreat", sum := "e4e04601f7094f8b48fbd94c3d5ee7d0e46c550fe6ec404a2e61120a613a69fb", func := "parlour/parlourlaw04.SimplexPivots", spec := "simplexPivots", unfollowed := true, recurses := true, apart := false, narrowed := true }
def SimplexPivotsUptoSaid : Prop := simplexPivotsUptoRow.holds Tryz.pinned (OpenSpec.upto simplexPivotsSpec)

/-- 'parlourlaw04.SimplexKnown', WHERE WHAT IT READS IS OF BULK AT MOST 1048576: true; the input reads as it did. -/
def simplexKnownUptoRow : OpenClaim := { program := "ytldokfodpdpomaagreat", sum := "e4e04601f7094f8b48fbd94c3d5ee7d0e46c550fe6ec404a2e61120a613a69fb", func := "parlour/parlourlaw04.SimplexKnown", spec := "simplexKnown", unfollowed := true, recurses := true, apart := false, narrowed := true }
def SimplexKnownUptoSaid : Prop := simplexKnownUptoRow.holds Tryz.pinned (OpenSpec.upto simplexKnownSpec)

end Rows
end Go.Proofs.YtldokfodpdpomaaGreat
