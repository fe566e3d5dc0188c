/-
  No cell of these rows narrows 'for every input' (looked for: loops, veiled, ifaces, maps, wideKeys, modest, calm, conditions, laid).
  DERIVED. THE GIVEN ROWS OF THIS SEAT. 5 by the template 'for every input the law returns true; each argument reads behind the call as it read before'; 0 by the template 'total and deterministic' (their statements: YtfehhpnmlgninaaGreatTotals.lean).
  GIVEN WITH THE SEED: the statements are not yours to turn. If you find one false, say at which input.
  Laid BY PROGRAM, IN A SANDBOX (cutbox-rows.mjs): the forced cells as the released guide's own fill.sh prints them over the translation 28b0d8e37fd14dce… (all of the seat's roots in one cut). By AI agents, Wed Nov 11 2026. No macro, syntax, notation, axiom, sorry.
-/
import Derived.Test.YtfehhpnmlgninaaGreatChecked
import GoSem.Claim
import GoSem.ClaimJoined
import GoSem.ClaimMapViews
import Derived.JoinedTies
import Derived.KernelRfl
namespace Go.Proofs.YtfehhpnmlgninaaGreat
/- THE CELL 'sum', in the pinned program and in every row, IS THE sha256 OF THE DUMP (.gsa) THAT YtfehhpnmlgninaaGreatProg.lean LOADS. Nothing in Lean hashes anything: it is a label: what it is worth is what the hold of that sum in a sandbox is worth. -/
noncomputable def Tryz.pinned : Pinned := { name := "ytfehhpnmlgninaagreat", sum := "28b0d8e37fd14dced1478aeda0559bc1b573354afdac914762be5d7d15a511d1", checked := Tryz.checked }
namespace Rows
def none {H : Type} : Left H := { results := [], args := [] }

/-- 'parlourlaw28.RegretRuns': WHATEVER THE INPUT: true; the input reads as it did. -/
def regretRunsSpec : ChangeSpec := { name := "regretRuns", fn := fun _ => fun
  | [d1, d2, d3] => { results := [.lit (.bool true)], args := [d1, d2, d3] }
  | _ => none }
def regretRunsRow : OpenClaim := { program := "ytfehhpnmlgninaagreat", sum := "28b0d8e37fd14dced1478aeda0559bc1b573354afdac914762be5d7d15a511d1", func := "parlour/parlourlaw28.RegretRuns", spec := "regretRuns", unfollowed := true, recurses := true, apart := false }
def RegretRunsSaid : Prop := regretRunsRow.holds Tryz.pinned (OpenSpec.ofChange regretRunsSpec)

/-- ITS FALSE NEIGHBOUR: 'it returns false'. Refute it at one input. -/
def regretRunsWrong : ChangeSpec := { name := "regretRuns", fn := fun _ => fun
  | [d1, d2, d3] => { results := [.lit (.bool false)], args := [d1, d2, d3] }
  | _ => none }
def RegretRunsWrongFalsely : Prop := regretRunsRow.holds Tryz.pinned (OpenSpec.ofChange regretRunsWrong)

/-- 'parlourlaw28.RegretBalanced': WHATEVER THE INPUT: true; the input reads as it did. -/
def regretBalancedSpec : ChangeSpec := { name := "regretBalanced", fn := fun _ => fun
  | [d1, d2, d3, d4] => { results := [.lit (.bool true)], args := [d1, d2, d3, d4] }
  | _ => none }
def regretBalancedRow : OpenClaim := { program := "ytfehhpnmlgninaagreat", sum := "28b0d8e37fd14dced1478aeda0559bc1b573354afdac914762be5d7d15a511d1", func := "parlour/parlourlaw28.RegretBalanced", spec := "regretBalanced", unfollowed := true, recurses := true, apart := false }
def RegretBalancedSaid : Prop := regretBalancedRow.holds Tryz.pinned (OpenSpec.ofChange regretBalancedSpec)

/-- ITS FALSE NEIGHBOUR: 'it returns false'. Refute it at one input. -/
def regretBalancedWrong : ChangeSpec := { name := "regretBalanced", fn := fun _ => fun
  | [d1, d2, d3, d4] => { results := [.lit (.bool false)], args := [d1, d2, d3, d4] }
  | _ => none }
def RegretBalancedWrongFalsely : Prop := regretBalancedRow.holds Tryz.pinned (OpenSpec.ofChange regretBalancedWrong)

/-- 'parlourlaw28.RegretParts': WHATEVER THE INPUT: true; the input reads as it did. -/
def regretPartsSpec : ChangeSpec := { name := "regretParts", fn := fun _ => fun
  | [d1, d2, d3, d4] => { results := [.lit (.bool true)], args := [d1, d2, d3, d4] }
  | _ => none }
def regretPartsRow : OpenClaim := { program := "ytfehhpnmlgninaagreat", sum := "28b0d8e37fd14dced1478aeda0559bc1b573354afdac914762be5d7d15a511d1", func := "parlour/parlourlaw28.RegretParts", spec := "regretParts", unfollowed := true, recurses := true, apart := false }
def RegretPartsSaid : Prop := regretPartsRow.holds Tryz.pinned (OpenSpec.ofChange regretPartsSpec)

/-- ITS FALSE NEIGHBOUR: 'it returns false'. Refute it at one input. -/
def regretPartsWrong : ChangeSpec := { name := "regretParts", fn := fun _ => fun
  | [d1, d2, d3, d4] => { results := [.lit (.bool false)], args := [d1, d2, d3, d4] }
  | _ => none }
def RegretPartsWrongFalsely : Prop := regretPartsRow.holds Tryz.pinned (OpenSpec.ofChange regretPartsWrong)

/-- 'parlourlaw28.RegretBound': WHATEVER THE INPUT: true; the input reads as it did. -/
def regretBoundSpec : ChangeSpec := { name := "regretBound", fn := fun _ => fun
  | [d1, d2] => { results := [.lit (.bool true)], args := [d1, d2] }
  | _ => none }
def regretBoundRow : OpenClaim := { program := "ytfehhpnmlgninaagreat", sum := "28b0d8e37fd14dced1478aeda0559bc1b573354afdac914762be5d7d15a511d1", func := "parlour/parlourlaw28.RegretBound", spec := "regretBound", unfollowed := true, recurses := true, apart := false }
def RegretBoundSaid : Prop := regretBoundRow.holds Tryz.pinned (OpenSpec.ofChange regretBoundSpec)

/-- ITS FALSE NEIGHBOUR: 'it returns false'. Refute it at one input. -/
def regretBoundWrong : ChangeSpec := { name := "regretBound", fn := fun _ => fun
  | [d1, d2] => { results := [.lit (.bool false)], args := [d1, d2] }
  | _ => none }
def RegretBoundWrongFalsely : Prop := regretBoundRow.holds Tryz.pinned (OpenSpec.ofChange regretBoundWrong)

/-- 'parlourlaw28.RegretNames': WHATEVER THE INPUT: true; the input reads as it did. -/
def regretNamesSpec : ChangeSpec := { name := "regretNames", fn := fun _ => fun
  | [] => { results := [.lit (.bool true)], args := [] }
  | _ => none }
def regretNamesRow : OpenClaim := { program := "ytfehhpnmlgninaagreat", sum := "28b0d8e37fd14dced1478aeda0559bc1b573354afdac914762be5d7d15a511d1", func := "parlour/parlourlaw28.RegretNames", spec := "regretNames", unfollowed := true, recurses := true, apart := false }
def RegretNamesSaid : Prop := regretNamesRow.holds Tryz.pinned (OpenSpec.ofChange regretNamesSpec)

/-- ITS FALSE NEIGHBOUR: 'it returns false'. Refute it at one input. -/
def regretNamesWrong : ChangeSpec := { name := "regretNames", fn := fun _ => fun
  | [] => { results := [.lit (.bool false)], args := [] }
  | _ => none }
def RegretNamesWrongFalsely : Prop := regretNamesRow.holds Tryz.pinned (OpenSpec.ofChange regretNamesWrong)

/- THE SECOND FORM. 'bulk': how many values and letters a reading holds, each counted each time it is reached (what is shared counts as often as it is met; a slice's spare places count too). A statement '..UptoSaid' is the law's where the arguments, and the package variables that the reading takes, are together of bulk at most 1048576: NARROWER than '..Said'. Prove '..Said' where nothing that the law and all that it calls make is longer than what came in: it says more and counts as full. Else prove '..UptoSaid'. A law counts once. -/
mutual
def uptoBulk {H : Type} : DataW H → Nat
  | .lit (.string bytes) => bytes.length + 1
  | .lit _ => 1
  | .nil => 1
  | .ptr d => uptoBulk d + 1
  | .slice elems spare => uptoBulkAll elems + uptoBulkAll spare + 1
  | .agg parts => uptoBulkAll parts + 1
  | .iface _ d => uptoBulk d + 1
  | .map entries => uptoBulkEntries entries + 1
  | .held _ => 1
def uptoBulkAll {H : Type} : List (DataW H) → Nat
  | [] => 0
  | d :: r => uptoBulk d + uptoBulkAll r
def uptoBulkEntries {H : Type} : List (Lit × DataW H) → Nat
  | [] => 0
  | x :: r => uptoBulkEntry x + uptoBulkEntries r
def uptoBulkEntry {H : Type} : Lit × DataW H → Nat
  | (.string bytes, d) => bytes.length + uptoBulk d + 1
  | (_, d) => uptoBulk d + 1
 end
def uptoSmall : (H : Type) → List (DataW H) → Bool := fun _ ds => decide (uptoBulkAll ds ≤ 1048576)
def OpenSpec.upto (s : _root_.Go.ChangeSpec) : _root_.Go.OpenSpec := { _root_.Go.OpenSpec.ofChange s with cond := some uptoSmall }

/-- 'parlourlaw28.RegretRuns', WHERE WHAT IT READS IS OF BULK AT MOST 1048576: true; the input reads as it did. -/
def regretRunsUptoRow : OpenClaim := { program := "ytfehhpnmlgninaagreat", sum := "28b0d8e37fd14dced1478aeda0559bc1b573354afdac914762be5d7d15a511d1", func := "parlour/parlourlaw28.RegretRuns", spec := "regretRuns", unfollowed := true, recurses := true, apart := false, narrowed := true }
def RegretRunsUptoSaid : Prop := regretRunsUptoRow.holds Tryz.pinned (OpenSpec.upto regretRunsSpec)

/-- 'parlourlaw28.RegretBalanced', WHERE WHAT IT READS IS OF BULK AT MOST 1048576: true; the input reads as it did. -/
def regretBalancedUptoRow : OpenClaim := { program := "ytfehhpnmlgninaagreat", sum := "28b0d8e37fd14dced1478aeda0559bc1b573354afdac914762be5d7d15a511d1", func := "parlour/parlourlaw28.RegretBalanced", spec := "regretBalanced", unfollowed := true, recurses := true, apart := false, narrowed := true }
def RegretBalancedUptoSaid : Prop := regretBalancedUptoRow.holds Tryz.pinned (OpenSpec.upto regretBalancedSpec)

/-- 'parlourlaw28.RegretParts', WHERE WHAT IT READS IS OF BULK AT MOST 1048576: true; the input reads as it did. -/
def regretPartsUptoRow : OpenClaim := { program := "ytfehhpnmlgninaagreat", sum := "28b0d8e37fd14dced1478aeda0559bc1b573354afdac914762be5d7d15a511d1", func := "parlour/parlourlaw28.RegretParts", spec := "regretParts", unfollowed := true, recurses := true, apart := false, narrowed := true }
def RegretPartsUptoSaid : Prop := regretPartsUptoRow.holds Tryz.pinned (OpenSpec.upto regretPartsSpec)

/-- 'parlourlaw28.RegretBound', WHERE WHAT IT READS IS OF BULK AT MOST 1048576: true; the input reads as it did. -/
def regretBoundUptoRow : OpenClaim := { program := "ytfehhpnmlgninaagreat", sum := "28b0d8e37fd14dced1478aeda0559bc1b573354afdac914762be5d7d15a511d1", func := "parlour/parlourlaw28.RegretBound", spec := "regretBound", unfollowed := true, recurses := true, apart := false, narrowed := true }
def RegretBoundUptoSaid : Prop := regretBoundUptoRow.holds Tryz.pinned (OpenSpec.upto regretBoundSpec)

/-- 'parlourlaw28.RegretNames', WHERE WHAT IT READS IS OF BULK AT MOST 1048576: true; the input reads as it did. -/
def regretNamesUptoRow : OpenClaim := { program := "ytfehhpnmlgninaagreat", sum := "28b0d8e37fd14dced1478aeda0559bc1b573354afdac914762be5d7d15a511d1", func := "parlour/parlourlaw28.RegretNames", spec := "regretNames", unfollowed := true, recurses := true, apart := false, narrowed := true }
def RegretNamesUptoSaid : Prop := regretNamesUptoRow.holds Tryz.pinned (OpenSpec.upto regretNamesSpec)

end Rows
end Go.Proofs.YtfehhpnmlgninaaGreat
