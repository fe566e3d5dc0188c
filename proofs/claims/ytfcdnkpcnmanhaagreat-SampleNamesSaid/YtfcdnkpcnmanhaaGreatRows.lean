/-
  No cell of these rows narrows 'for every input' (looked for: loops, veiled, ifaces, maps, wideKeys, modest, calm, conditions, laid).
  DERIVED. THE GIVEN ROWS OF THIS SEAT. 4 by the template 'for every input the law returns true; each argument reads behind the call as it read before'; 0 by the template 'total and deterministic' (their statements: YtfcdnkpcnmanhaaGreatTotals.lean).
  GIVEN WITH THE SEED: the statements are not yours to turn. If you find one false, say at which input.
  Laid BY PROGRAM, IN A SANDBOX (cutbox-rows.mjs): the forced cells as the released guide's own fill.sh prints them over the translation 33c0462bcafa1864… (all of the seat's roots in one cut). By AI agents, Wed Nov 11 2026. No macro, syntax, notation, axiom, sorry.
-/
import Derived.Test.YtfcdnkpcnmanhaaGreatChecked
import GoSem.Claim
import GoSem.ClaimJoined
import GoSem.ClaimMapViews
import Derived.JoinedTies
import Derived.KernelRfl
namespace Go.Proofs.YtfcdnkpcnmanhaaGreat
/- THE CELL 'sum', in the pinned program and in every row, IS THE sha256 OF THE DUMP (.gsa) THAT YtfcdnkpcnmanhaaGreatProg.lean LOADS. Nothing in Lean hashes anything: it is a label: what it is worth is what the hold of that sum in a sandbox is worth. -/
noncomputable def Tryz.pinned : Pinned := { name := "ytfcdnkpcnmanhaagreat", sum := "33c0462bcafa1864ebb9caff985ce245fd846ad5a20537fe6846b3aca57aca97", checked := Tryz.checked }
namespace Rows
def none {H : Type} : Left H := { results := [], args := [] }

/-- 'parlourlaw30.SampleRegrets': WHATEVER THE INPUT: true; the input reads as it did. -/
def sampleRegretsSpec : ChangeSpec := { name := "sampleRegrets", fn := fun _ => fun
  | [d1, d2, d3, d4, d5] => { results := [.lit (.bool true)], args := [d1, d2, d3, d4, d5] }
  | _ => none }
def sampleRegretsRow : OpenClaim := { program := "ytfcdnkpcnmanhaagreat", sum := "33c0462bcafa1864ebb9caff985ce245fd846ad5a20537fe6846b3aca57aca97", func := "parlour/parlourlaw30.SampleRegrets", spec := "sampleRegrets", unfollowed := true, recurses := true, apart := false }
def SampleRegretsSaid : Prop := sampleRegretsRow.holds Tryz.pinned (OpenSpec.ofChange sampleRegretsSpec)

/-- ITS FALSE NEIGHBOUR: 'it returns false'. Refute it at one input. -/
def sampleRegretsWrong : ChangeSpec := { name := "sampleRegrets", fn := fun _ => fun
  | [d1, d2, d3, d4, d5] => { results := [.lit (.bool false)], args := [d1, d2, d3, d4, d5] }
  | _ => none }
def SampleRegretsWrongFalsely : Prop := sampleRegretsRow.holds Tryz.pinned (OpenSpec.ofChange sampleRegretsWrong)

/-- 'parlourlaw30.SampleUnbiased': WHATEVER THE INPUT: true; the input reads as it did. -/
def sampleUnbiasedSpec : ChangeSpec := { name := "sampleUnbiased", fn := fun _ => fun
  | [d1, d2, d3, d4] => { results := [.lit (.bool true)], args := [d1, d2, d3, d4] }
  | _ => none }
def sampleUnbiasedRow : OpenClaim := { program := "ytfcdnkpcnmanhaagreat", sum := "33c0462bcafa1864ebb9caff985ce245fd846ad5a20537fe6846b3aca57aca97", func := "parlour/parlourlaw30.SampleUnbiased", spec := "sampleUnbiased", unfollowed := true, recurses := true, apart := false }
def SampleUnbiasedSaid : Prop := sampleUnbiasedRow.holds Tryz.pinned (OpenSpec.ofChange sampleUnbiasedSpec)

/-- ITS FALSE NEIGHBOUR: 'it returns false'. Refute it at one input. -/
def sampleUnbiasedWrong : ChangeSpec := { name := "sampleUnbiased", fn := fun _ => fun
  | [d1, d2, d3, d4] => { results := [.lit (.bool false)], args := [d1, d2, d3, d4] }
  | _ => none }
def SampleUnbiasedWrongFalsely : Prop := sampleUnbiasedRow.holds Tryz.pinned (OpenSpec.ofChange sampleUnbiasedWrong)

/-- 'parlourlaw30.SampleParts': WHATEVER THE INPUT: true; the input reads as it did. -/
def samplePartsSpec : ChangeSpec := { name := "sampleParts", fn := fun _ => fun
  | [d1, d2, d3, d4, d5, d6] => { results := [.lit (.bool true)], args := [d1, d2, d3, d4, d5, d6] }
  | _ => none }
def samplePartsRow : OpenClaim := { program := "ytfcdnkpcnmanhaagreat", sum := "33c0462bcafa1864ebb9caff985ce245fd846ad5a20537fe6846b3aca57aca97", func := "parlour/parlourlaw30.SampleParts", spec := "sampleParts", unfollowed := true, recurses := true, apart := false }
def SamplePartsSaid : Prop := samplePartsRow.holds Tryz.pinned (OpenSpec.ofChange samplePartsSpec)

/-- ITS FALSE NEIGHBOUR: 'it returns false'. Refute it at one input. -/
def samplePartsWrong : ChangeSpec := { name := "sampleParts", fn := fun _ => fun
  | [d1, d2, d3, d4, d5, d6] => { results := [.lit (.bool false)], args := [d1, d2, d3, d4, d5, d6] }
  | _ => none }
def SamplePartsWrongFalsely : Prop := samplePartsRow.holds Tryz.pinned (OpenSpec.ofChange samplePartsWrong)

/-- 'parlourlaw30.SampleNames': WHATEVER THE INPUT: true; the input reads as it did. -/
def sampleNamesSpec : ChangeSpec := { name := "sampleNames", fn := fun _ => fun
  | [] => { results := [.lit (.bool true)], args := [] }
  | _ => none }
def sampleNamesRow : OpenClaim := { program := "ytfcdnkpcnmanhaagreat", sum := "33c0462bcafa1864ebb9caff985ce245fd846ad5a20537fe6846b3aca57aca97", func := "parlour/parlourlaw30.SampleNames", spec := "sampleNames", unfollowed := true, recurses := true, apart := false }
def SampleNamesSaid : Prop := sampleNamesRow.holds Tryz.pinned (OpenSpec.ofChange sampleNamesSpec)

/-- ITS FALSE NEIGHBOUR: 'it returns false'. Refute it at one input. -/
def sampleNamesWrong : ChangeSpec := { name := "sampleNames", fn := fun _ => fun
  | [] => { results := [.lit (.bool false)], args := [] }
  | _ => none }
def SampleNamesWrongFalsely : Prop := sampleNamesRow.holds Tryz.pinned (OpenSpec.ofChange sampleNamesWrong)

/- THE SECOND FORM. 'bulk': how many values and letters a reading holds, each counted each time it is reached (what is shared counts as often as it is met; a slice's spare places count too). A statement '..UptoSaid' is the law's where the arguments, and the package variables that the reading takes, are together of bulk at most 1048576: NARROWER than '..Said'. Prove '..Said' where nothing that the law and all that it calls make is longer than what came in: it says more and counts as full. Else prove '..UptoSaid'. A law counts once. -/
mutual
def uptoBulk {H : Type} : DataW H → Nat
  | .lit (.string bytes) => bytes.length + 1
  | .lit _ => 1
  | .nil => 1
  | .ptr d => uptoBulk d + 1
  | .slice elems spare => uptoBulkAll elems + uptoBulkAll spare + 1
  | .agg parts => uptoBulkAll parts + 1
  | .iface _ d => uptoBulk d + 1
  | .map entries => uptoBulkEntries entries + 1
  | .held _ => 1
def uptoBulkAll {H : Type} : List (DataW H) → Nat
  | [] => 0
  | d :: r => uptoBulk d + uptoBulkAll r
def uptoBulkEntries {H : Type} : List (Lit × DataW H) → Nat
  | [] => 0
  | x :: r => uptoBulkEntry x + uptoBulkEntries r
def uptoBulkEntry {H : Type} : Lit × DataW H → Nat
  | (.string bytes, d) => bytes.length + uptoBulk d + 1
  | (_, d) => uptoBulk d + 1
 end
def uptoSmall : (H : Type) → List (DataW H) → Bool := fun _ ds => decide (uptoBulkAll ds ≤ 1048576)
def OpenSpec.upto (s : _root_.Go.ChangeSpec) : _root_.Go.OpenSpec := { _root_.Go.OpenSpec.ofChange s with cond := some uptoSmall }

/-- 'parlourlaw30.SampleRegrets', WHERE WHAT IT READS IS OF BULK AT MOST 1048576: true; the input reads as it did. -/
def sampleRegretsUptoRow : OpenClaim := { program := "ytfcdnkpcnmanhaagreat", sum := "33c0462bcafa1864ebb9caff985ce245fd846ad5a20537fe6846b3aca57aca97", func := "parlour/parlourlaw30.SampleRegrets", spec := "sampleRegrets", unfollowed := true, recurses := true, apart := false, narrowed := true }
def SampleRegretsUptoSaid : Prop := sampleRegretsUptoRow.holds Tryz.pinned (OpenSpec.upto sampleRegretsSpec)

/-- 'parlourlaw30.SampleUnbiased', WHERE WHAT IT READS IS OF BULK AT MOST 1048576: true; the input reads as it did. -/
def sampleUnbiasedUptoRow : OpenClaim := { program := "ytfcdnkpcnmanhaagreat", sum := "33c0462bcafa1864ebb9caff985ce245fd846ad5a20537fe6846b3aca57aca97", func := "parlour/parlourlaw30.SampleUnbiased", spec := "sampleUnbiased", unfollowed := true, recurses := true, apart := false, narrowed := true }
def SampleUnbiasedUptoSaid : Prop := sampleUnbiasedUptoRow.holds Tryz.pinned (OpenSpec.upto sampleUnbiasedSpec)

/-- 'parlourlaw30.SampleParts', WHERE WHAT IT READS IS OF BULK AT MOST 1048576: true; the input reads as it did. -/
def samplePartsUptoRow : OpenClaim := { program := "ytfcdnkpcnmanhaagreat", sum := "33c0462bcafa1864ebb9caff985ce245fd846ad5a20537fe6846b3aca57aca97", func := "parlour/parlourlaw30.SampleParts", spec := "sampleParts", unfollowed := true, recurses := true, apart := false, narrowed := true }
def SamplePartsUptoSaid : Prop := samplePartsUptoRow.holds Tryz.pinned (OpenSpec.upto samplePartsSpec)

/-- 'parlourlaw30.SampleNames', WHERE WHAT IT READS IS OF BULK AT MOST 1048576: true; the input reads as it did. -/
def sampleNamesUptoRow : OpenClaim := { program := "ytfcdnkpcnmanhaagreat", sum := "33c0462bcafa1864ebb9caff985ce245fd846ad5a20537fe6846b3aca57aca97", func := "parlour/parlourlaw30.SampleNames", spec := "sampleNames", unfollowed := true, recurses := true, apart := false, narrowed := true }
def SampleNamesUptoSaid : Prop := sampleNamesUptoRow.holds Tryz.pinned (OpenSpec.upto sampleNamesSpec)

end Rows
end Go.Proofs.YtfcdnkpcnmanhaaGreat
