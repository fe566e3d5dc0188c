/-
  No cell of these rows narrows 'for every input' (looked for: loops, veiled, ifaces, maps, wideKeys, modest, calm, conditions, laid).
  DERIVED. THE GIVEN ROWS OF THIS SEAT. 4 by the template 'for every input the law returns true; each argument reads behind the call as it read before'; 0 by the template 'total and deterministic' (their statements: YteafgmhfmphacaaGreatTotals.lean).
  GIVEN WITH THE SEED: the statements are not yours to turn. If you find one false, say at which input.
  Laid BY PROGRAM, IN A SANDBOX (cutbox-rows.mjs): the forced cells as the released guide's own fill.sh prints them over the translation 733e0570af182f1e… (all of the seat's roots in one cut). By AI agents, Wed Nov 11 2026. No macro, syntax, notation, axiom, sorry.
-/
import Derived.Test.YteafgmhfmphacaaGreatChecked
import GoSem.Claim
import GoSem.ClaimJoined
import GoSem.ClaimMapViews
import Derived.JoinedTies
import Derived.KernelRfl
namespace Go.Proofs.YteafgmhfmphacaaGreat
/- THE CELL 'sum', in the pinned program and in every row, IS THE sha256 OF THE DUMP (.gsa) THAT YteafgmhfmphacaaGreatProg.lean LOADS. Nothing in Lean hashes anything: it is a label: what it is worth is what the hold of that sum in a sandbox is worth. -/
noncomputable def Tryz.pinned : Pinned := { name := "yteafgmhfmphacaagreat", sum := "733e0570af182f1ecee98c3ea794f3dc3587ecd503962752ccfce945fdcec8a6", checked := Tryz.checked }
namespace Rows
def none {H : Type} : Left H := { results := [], args := [] }

/-- 'parlourlaw24.CorrelatedTops': WHATEVER THE INPUT: true; the input reads as it did. -/
def correlatedTopsSpec : ChangeSpec := { name := "correlatedTops", fn := fun _ => fun
  | [d1, d2, d3, d4] => { results := [.lit (.bool true)], args := [d1, d2, d3, d4] }
  | _ => none }
def correlatedTopsRow : OpenClaim := { program := "yteafgmhfmphacaagreat", sum := "733e0570af182f1ecee98c3ea794f3dc3587ecd503962752ccfce945fdcec8a6", func := "parlour/parlourlaw24.CorrelatedTops", spec := "correlatedTops", unfollowed := true, recurses := true, apart := false }
def CorrelatedTopsSaid : Prop := correlatedTopsRow.holds Tryz.pinned (OpenSpec.ofChange correlatedTopsSpec)

/-- ITS FALSE NEIGHBOUR: 'it returns false'. Refute it at one input. -/
def correlatedTopsWrong : ChangeSpec := { name := "correlatedTops", fn := fun _ => fun
  | [d1, d2, d3, d4] => { results := [.lit (.bool false)], args := [d1, d2, d3, d4] }
  | _ => none }
def CorrelatedTopsWrongFalsely : Prop := correlatedTopsRow.holds Tryz.pinned (OpenSpec.ofChange correlatedTopsWrong)

/-- 'parlourlaw24.CorrelatedNash': WHATEVER THE INPUT: true; the input reads as it did. -/
def correlatedNashSpec : ChangeSpec := { name := "correlatedNash", fn := fun _ => fun
  | [d1, d2, d3] => { results := [.lit (.bool true)], args := [d1, d2, d3] }
  | _ => none }
def correlatedNashRow : OpenClaim := { program := "yteafgmhfmphacaagreat", sum := "733e0570af182f1ecee98c3ea794f3dc3587ecd503962752ccfce945fdcec8a6", func := "parlour/parlourlaw24.CorrelatedNash", spec := "correlatedNash", unfollowed := true, recurses := true, apart := false }
def CorrelatedNashSaid : Prop := correlatedNashRow.holds Tryz.pinned (OpenSpec.ofChange correlatedNashSpec)

/-- ITS FALSE NEIGHBOUR: 'it returns false'. Refute it at one input. -/
def correlatedNashWrong : ChangeSpec := { name := "correlatedNash", fn := fun _ => fun
  | [d1, d2, d3] => { results := [.lit (.bool false)], args := [d1, d2, d3] }
  | _ => none }
def CorrelatedNashWrongFalsely : Prop := correlatedNashRow.holds Tryz.pinned (OpenSpec.ofChange correlatedNashWrong)

/-- 'parlourlaw24.CorrelatedGains': WHATEVER THE INPUT: true; the input reads as it did. -/
def correlatedGainsSpec : ChangeSpec := { name := "correlatedGains", fn := fun _ => fun
  | [d1, d2, d3, d4, d5, d6] => { results := [.lit (.bool true)], args := [d1, d2, d3, d4, d5, d6] }
  | _ => none }
def correlatedGainsRow : OpenClaim := { program := "yteafgmhfmphacaagreat", sum := "733e0570af182f1ecee98c3ea794f3dc3587ecd503962752ccfce945fdcec8a6", func := "parlour/parlourlaw24.CorrelatedGains", spec := "correlatedGains", unfollowed := true, recurses := true, apart := false }
def CorrelatedGainsSaid : Prop := correlatedGainsRow.holds Tryz.pinned (OpenSpec.ofChange correlatedGainsSpec)

/-- ITS FALSE NEIGHBOUR: 'it returns false'. Refute it at one input. -/
def correlatedGainsWrong : ChangeSpec := { name := "correlatedGains", fn := fun _ => fun
  | [d1, d2, d3, d4, d5, d6] => { results := [.lit (.bool false)], args := [d1, d2, d3, d4, d5, d6] }
  | _ => none }
def CorrelatedGainsWrongFalsely : Prop := correlatedGainsRow.holds Tryz.pinned (OpenSpec.ofChange correlatedGainsWrong)

/-- 'parlourlaw24.CorrelatedNames': WHATEVER THE INPUT: true; the input reads as it did. -/
def correlatedNamesSpec : ChangeSpec := { name := "correlatedNames", fn := fun _ => fun
  | [] => { results := [.lit (.bool true)], args := [] }
  | _ => none }
def correlatedNamesRow : OpenClaim := { program := "yteafgmhfmphacaagreat", sum := "733e0570af182f1ecee98c3ea794f3dc3587ecd503962752ccfce945fdcec8a6", func := "parlour/parlourlaw24.CorrelatedNames", spec := "correlatedNames", unfollowed := true, recurses := true, apart := false }
def CorrelatedNamesSaid : Prop := correlatedNamesRow.holds Tryz.pinned (OpenSpec.ofChange correlatedNamesSpec)

/-- ITS FALSE NEIGHBOUR: 'it returns false'. Refute it at one input. -/
def correlatedNamesWrong : ChangeSpec := { name := "correlatedNames", fn := fun _ => fun
  | [] => { results := [.lit (.bool false)], args := [] }
  | _ => none }
def CorrelatedNamesWrongFalsely : Prop := correlatedNamesRow.holds Tryz.pinned (OpenSpec.ofChange correlatedNamesWrong)

/- THE SECOND FORM. 'bulk': how many values and letters a reading holds, each counted each time it is reached (what is shared counts as often as it is met; a slice's spare places count too). A statement '..UptoSaid' is the law's where the arguments, and the package variables that the reading takes, are together of bulk at most 1048576: NARROWER than '..Said'. Prove '..Said' where nothing that the law and all that it calls make is longer than what came in: it says more and counts as full. Else prove '..UptoSaid'. A law counts once. -/
mutual
def uptoBulk {H : Type} : DataW H → Nat
  | .lit (.string bytes) => bytes.length + 1
  | .lit _ => 1
  | .nil => 1
  | .ptr d => uptoBulk d + 1
  | .slice elems spare => uptoBulkAll elems + uptoBulkAll spare + 1
  | .agg parts => uptoBulkAll parts + 1
  | .iface _ d => uptoBulk d + 1
  | .map entries => uptoBulkEntries entries + 1
  | .held _ => 1
def uptoBulkAll {H : Type} : List (DataW H) → Nat
  | [] => 0
  | d :: r => uptoBulk d + uptoBulkAll r
def uptoBulkEntries {H : Type} : List (Lit × DataW H) → Nat
  | [] => 0
  | x :: r => uptoBulkEntry x + uptoBulkEntries r
def uptoBulkEntry {H : Type} : Lit × DataW H → Nat
  | (.string bytes, d) => bytes.length + uptoBulk d + 1
  | (_, d) => uptoBulk d + 1
 end
def uptoSmall : (H : Type) → List (DataW H) → Bool := fun _ ds => decide (uptoBulkAll ds ≤ 1048576)
def OpenSpec.upto (s : _root_.Go.ChangeSpec) : _root_.Go.OpenSpec := { _root_.Go.OpenSpec.ofChange s with cond := some uptoSmall }

/-- 'parlourlaw24.CorrelatedTops', WHERE WHAT IT READS IS OF BULK AT MOST 1048576: true; the input reads as it did. -/
def correlatedTopsUptoRow : OpenClaim := { program := "yteafgmhfmphacaagreat", sum := "733e0570af182f1ecee98c3ea794f3dc3587ecd503962752ccfce945fdcec8a6", func := "parlour/parlourlaw24.CorrelatedTops", spec := "correlatedTops", unfollowed := true, recurses := true, apart := false, narrowed := true }
def CorrelatedTopsUptoSaid : Prop := correlatedTopsUptoRow.holds Tryz.pinned (OpenSpec.upto correlatedTopsSpec)

/-- 'parlourlaw24.CorrelatedNash', WHERE WHAT IT READS IS OF BULK AT MOST 1048576: true; the input reads as it did. -/
def correlatedNashUptoRow : OpenClaim := { program := "yteafgmhfmphacaagreat", sum := "733e0570af182f1ecee98c3ea794f3dc3587ecd503962752ccfce945fdcec8a6", func := "parlour/parlourlaw24.CorrelatedNash", spec := "correlatedNash", unfollowed := true, recurses := true, apart := false, narrowed := true }
def CorrelatedNashUptoSaid : Prop := correlatedNashUptoRow.holds Tryz.pinned (OpenSpec.upto correlatedNashSpec)

/-- 'parlourlaw24.CorrelatedGains', WHERE WHAT IT READS IS OF BULK AT MOST 1048576: true; the input reads as it did. -/
def correlatedGainsUptoRow : OpenClaim := { program := "yteafgmhfmphacaagreat", sum := "733e0570af182f1ecee98c3ea794f3dc3587ecd503962752ccfce945fdcec8a6", func := "parlour/parlourlaw24.CorrelatedGains", spec := "correlatedGains", unfollowed := true, recurses := true, apart := false, narrowed := true }
def CorrelatedGainsUptoSaid : Prop := correlatedGainsUptoRow.holds Tryz.pinned (OpenSpec.upto correlatedGainsSpec)

/-- 'parlourlaw24.CorrelatedNames', WHERE WHAT IT READS IS OF BULK AT MOST 1048576: true; the input reads as it did. -/
def correlatedNamesUptoRow : OpenClaim := { program := "yteafgmhfmphacaagreat", sum := "733e0570af182f1ecee98c3ea794f3dc3587ecd503962752ccfce945fdcec8a6", func := "parlour/parlourlaw24.CorrelatedNames", spec := "correlatedNames", unfollowed := true, recurses := true, apart := false, narrowed := true }
def CorrelatedNamesUptoSaid : Prop := correlatedNamesUptoRow.holds Tryz.pinned (OpenSpec.upto correlatedNamesSpec)

end Rows
end Go.Proofs.YteafgmhfmphacaaGreat
