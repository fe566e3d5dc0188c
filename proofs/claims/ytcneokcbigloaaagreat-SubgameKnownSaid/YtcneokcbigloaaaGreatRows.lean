/-
  No cell of these rows narrows 'for every input' (looked for: loops, veiled, ifaces, maps, wideKeys, modest, calm, conditions, laid).
  DERIVED. THE GIVEN ROWS OF THIS SEAT. 5 by the template 'for every input the law returns true; each argument reads behind the call as it read before'; 0 by the template 'total and deterministic' (their statements: YtcneokcbigloaaaGreatTotals.lean).
  GIVEN WITH THE SEED: the statements are not yours to turn. If you find one false, say at which input.
  Laid BY PROGRAM, IN A SANDBOX (cutbox-rows.mjs): the forced cells as the released guide's own fill.sh prints them over the translation 3a4d31269f0b6e89… (all of the seat's roots in one cut). By AI agents, Wed Nov 11 2026. No macro, syntax, notation, axiom, sorry.
-/
import Derived.Test.YtcneokcbigloaaaGreatChecked
import GoSem.Claim
import GoSem.ClaimJoined
import GoSem.ClaimMapViews
import Derived.JoinedTies
import Derived.KernelRfl
namespace Go.Proofs.YtcneokcbigloaaaGreat
/- THE CELL 'sum', in the pinned program and in every row, IS THE sha256 OF THE DUMP (.gsa) THAT YtcneokcbigloaaaGreatProg.lean LOADS. Nothing in Lean hashes anything: it is a label: what it is worth is what the hold of that sum in a sandbox is worth. -/
noncomputable def Tryz.pinned : Pinned := { name := "ytcneokcbigloaaagreat", sum := "3a4d31269f0b6e898a4141fe18cb17d56ae22eac153971fa8abbc78be64ba8cb", checked := Tryz.checked }
namespace Rows
def none {H : Type} : Left H := { results := [], args := [] }

/-- 'parlourlaw26.SubgameReplaces': WHATEVER THE INPUT: true; the input reads as it did. -/
def subgameReplacesSpec : ChangeSpec := { name := "subgameReplaces", fn := fun _ => fun
  | [d1, d2, d3, d4] => { results := [.lit (.bool true)], args := [d1, d2, d3, d4] }
  | _ => none }
def subgameReplacesRow : OpenClaim := { program := "ytcneokcbigloaaagreat", sum := "3a4d31269f0b6e898a4141fe18cb17d56ae22eac153971fa8abbc78be64ba8cb", func := "parlour/parlourlaw26.SubgameReplaces", spec := "subgameReplaces", unfollowed := true, recurses := true, apart := false }
def SubgameReplacesSaid : Prop := subgameReplacesRow.holds Tryz.pinned (OpenSpec.ofChange subgameReplacesSpec)

/-- ITS FALSE NEIGHBOUR: 'it returns false'. Refute it at one input. -/
def subgameReplacesWrong : ChangeSpec := { name := "subgameReplaces", fn := fun _ => fun
  | [d1, d2, d3, d4] => { results := [.lit (.bool false)], args := [d1, d2, d3, d4] }
  | _ => none }
def SubgameReplacesWrongFalsely : Prop := subgameReplacesRow.holds Tryz.pinned (OpenSpec.ofChange subgameReplacesWrong)

/-- 'parlourlaw26.SubgameKnown': WHATEVER THE INPUT: true; the input reads as it did. -/
def subgameKnownSpec : ChangeSpec := { name := "subgameKnown", fn := fun _ => fun
  | [] => { results := [.lit (.bool true)], args := [] }
  | _ => none }
def subgameKnownRow : OpenClaim := { program := "ytcneokcbigloaaagreat", sum := "3a4d31269f0b6e898a4141fe18cb17d56ae22eac153971fa8abbc78be64ba8cb", func := "parlour/parlourlaw26.SubgameKnown", spec := "subgameKnown", inPlace := ["maps.clone"], unfollowed := true, recurses := true, apart := false }
def SubgameKnownSaid : Prop := subgameKnownRow.holds Tryz.pinned (OpenSpec.ofChange subgameKnownSpec)

/-- ITS FALSE NEIGHBOUR: 'it returns false'. Refute it at one input. -/
def subgameKnownWrong : ChangeSpec := { name := "subgameKnown", fn := fun _ => fun
  | [] => { results := [.lit (.bool false)], args := [] }
  | _ => none }
def SubgameKnownWrongFalsely : Prop := subgameKnownRow.holds Tryz.pinned (OpenSpec.ofChange subgameKnownWrong)

/-- 'parlourlaw26.SubgameLeast': WHATEVER THE INPUT: true; the input reads as it did. -/
def subgameLeastSpec : ChangeSpec := { name := "subgameLeast", fn := fun _ => fun
  | [d1, d2, d3, d4] => { results := [.lit (.bool true)], args := [d1, d2, d3, d4] }
  | _ => none }
def subgameLeastRow : OpenClaim := { program := "ytcneokcbigloaaagreat", sum := "3a4d31269f0b6e898a4141fe18cb17d56ae22eac153971fa8abbc78be64ba8cb", func := "parlour/parlourlaw26.SubgameLeast", spec := "subgameLeast", inPlace := ["maps.clone"], unfollowed := true, recurses := true, apart := false }
def SubgameLeastSaid : Prop := subgameLeastRow.holds Tryz.pinned (OpenSpec.ofChange subgameLeastSpec)

/-- ITS FALSE NEIGHBOUR: 'it returns false'. Refute it at one input. -/
def subgameLeastWrong : ChangeSpec := { name := "subgameLeast", fn := fun _ => fun
  | [d1, d2, d3, d4] => { results := [.lit (.bool false)], args := [d1, d2, d3, d4] }
  | _ => none }
def SubgameLeastWrongFalsely : Prop := subgameLeastRow.holds Tryz.pinned (OpenSpec.ofChange subgameLeastWrong)

/-- 'parlourlaw26.SubgameValues': WHATEVER THE INPUT: true; the input reads as it did. -/
def subgameValuesSpec : ChangeSpec := { name := "subgameValues", fn := fun _ => fun
  | [d1, d2, d3] => { results := [.lit (.bool true)], args := [d1, d2, d3] }
  | _ => none }
def subgameValuesRow : OpenClaim := { program := "ytcneokcbigloaaagreat", sum := "3a4d31269f0b6e898a4141fe18cb17d56ae22eac153971fa8abbc78be64ba8cb", func := "parlour/parlourlaw26.SubgameValues", spec := "subgameValues", inPlace := ["maps.clone"], unfollowed := true, recurses := true, apart := false }
def SubgameValuesSaid : Prop := subgameValuesRow.holds Tryz.pinned (OpenSpec.ofChange subgameValuesSpec)

/-- ITS FALSE NEIGHBOUR: 'it returns false'. Refute it at one input. -/
def subgameValuesWrong : ChangeSpec := { name := "subgameValues", fn := fun _ => fun
  | [d1, d2, d3] => { results := [.lit (.bool false)], args := [d1, d2, d3] }
  | _ => none }
def SubgameValuesWrongFalsely : Prop := subgameValuesRow.holds Tryz.pinned (OpenSpec.ofChange subgameValuesWrong)

/-- 'parlourlaw26.SubgameSafe': WHATEVER THE INPUT: true; the input reads as it did. -/
def subgameSafeSpec : ChangeSpec := { name := "subgameSafe", fn := fun _ => fun
  | [d1, d2, d3] => { results := [.lit (.bool true)], args := [d1, d2, d3] }
  | _ => none }
def subgameSafeRow : OpenClaim := { program := "ytcneokcbigloaaagreat", sum := "3a4d31269f0b6e898a4141fe18cb17d56ae22eac153971fa8abbc78be64ba8cb", func := "parlour/parlourlaw26.SubgameSafe", spec := "subgameSafe", inPlace := ["maps.clone"], unfollowed := true, recurses := true, apart := false }
def SubgameSafeSaid : Prop := subgameSafeRow.holds Tryz.pinned (OpenSpec.ofChange subgameSafeSpec)

/-- ITS FALSE NEIGHBOUR: 'it returns false'. Refute it at one input. -/
def subgameSafeWrong : ChangeSpec := { name := "subgameSafe", fn := fun _ => fun
  | [d1, d2, d3] => { results := [.lit (.bool false)], args := [d1, d2, d3] }
  | _ => none }
def SubgameSafeWrongFalsely : Prop := subgameSafeRow.holds Tryz.pinned (OpenSpec.ofChange subgameSafeWrong)

/- THE SECOND FORM. 'bulk': how many values and letters a reading holds, each counted each time it is reached (what is shared counts as often as it is met; a slice's spare places count too). A statement '..UptoSaid' is the law's where the arguments, and the package variables that the reading takes, are together of bulk at most 1048576: NARROWER than '..Said'. Prove '..Said' where nothing that the law and all that it calls make is longer than what came in: it says more and counts as full. Else prove '..UptoSaid'. A law counts once. -/
mutual
def uptoBulk {H : Type} : DataW H → Nat
  | .lit (.string bytes) => bytes.length + 1
  | .lit _ => 1
  | .nil => 1
  | .ptr d => uptoBulk d + 1
  | .slice elems spare => uptoBulkAll elems + uptoBulkAll spare + 1
  | .agg parts => uptoBulkAll parts + 1
  | .iface _ d => uptoBulk d + 1
  | .map entries => uptoBulkEntries entries + 1
  | .held _ => 1
def uptoBulkAll {H : Type} : List (DataW H) → Nat
  | [] => 0
  | d :: r => uptoBulk d + uptoBulkAll r
def uptoBulkEntries {H : Type} : List (Lit × DataW H) → Nat
  | [] => 0
  | x :: r => uptoBulkEntry x + uptoBulkEntries r
def uptoBulkEntry {H : Type} : Lit × DataW H → Nat
  | (.string bytes, d) => bytes.length + uptoBulk d + 1
  | (_, d) => uptoBulk d + 1
 end
def uptoSmall : (H : Type) → List (DataW H) → Bool := fun _ ds => decide (uptoBulkAll ds ≤ 1048576)
def OpenSpec.upto (s : _root_.Go.ChangeSpec) : _root_.Go.OpenSpec := { _root_.Go.OpenSpec.ofChange s with cond := some uptoSmall }

/-- 'parlourlaw26.SubgameReplaces', WHERE WHAT IT READS IS OF BULK AT MOST 1048576: true; the input reads as it did. -/
def subgameReplacesUptoRow : OpenClaim := { program := "ytcneokcbigloaaagreat", sum := "3a4d31269f0b6e898a4141fe18cb17d56ae22eac153971fa8abbc78be64ba8cb", func := "parlour/parlourlaw26.SubgameReplaces", spec := "subgameReplaces", unfollowed := true, recurses := true, apart := false, narrowed := true }
def SubgameReplacesUptoSaid : Prop := subgameReplacesUptoRow.holds Tryz.pinned (OpenSpec.upto subgameReplacesSpec)

/-- 'parlourlaw26.SubgameKnown', WHERE WHAT IT READS IS OF BULK AT MOST 1048576: true; the input reads as it did. -/
def subgameKnownUptoRow : OpenClaim := { program := "ytcneokcbigloaaagreat", sum := "3a4d31269f0b6e898a4141fe18cb17d56ae22eac153971fa8abbc78be64ba8cb", func := "parlour/parlourlaw26.SubgameKnown", spec := "subgameKnown", inPlace := ["maps.clone"], unfollowed := true, recurses := true, apart := false, narrowed := true }
def SubgameKnownUptoSaid : Prop := subgameKnownUptoRow.holds Tryz.pinned (OpenSpec.upto subgameKnownSpec)

/-- 'parlourlaw26.SubgameLeast', WHERE WHAT IT READS IS OF BULK AT MOST 1048576: true; the input reads as it did. -/
def subgameLeastUptoRow : OpenClaim := { program := "ytcneokcbigloaaagreat", sum := "3a4d31269f0b6e898a4141fe18cb17d56ae22eac153971fa8abbc78be64ba8cb", func := "parlour/parlourlaw26.SubgameLeast", spec := "subgameLeast", inPlace := ["maps.clone"], unfollowed := true, recurses := true, apart := false, narrowed := true }
def SubgameLeastUptoSaid : Prop := subgameLeastUptoRow.holds Tryz.pinned (OpenSpec.upto subgameLeastSpec)

/-- 'parlourlaw26.SubgameValues', WHERE WHAT IT READS IS OF BULK AT MOST 1048576: true; the input reads as it did. -/
def subgameValuesUptoRow : OpenClaim := { program := "ytcneokcbigloaaagreat", sum := "3a4d31269f0b6e898a4141fe18cb17d56ae22eac153971fa8abbc78be64ba8cb", func := "parlour/parlourlaw26.SubgameValues", spec := "subgameValues", inPlace := ["maps.clone"], unfollowed := true, recurses := true, apart := false, narrowed := true }
def SubgameValuesUptoSaid : Prop := subgameValuesUptoRow.holds Tryz.pinned (OpenSpec.upto subgameValuesSpec)

/-- 'parlourlaw26.SubgameSafe', WHERE WHAT IT READS IS OF BULK AT MOST 1048576: true; the input reads as it did. -/
def subgameSafeUptoRow : OpenClaim := { program := "ytcneokcbigloaaagreat", sum := "3a4d31269f0b6e898a4141fe18cb17d56ae22eac153971fa8abbc78be64ba8cb", func := "parlour/parlourlaw26.SubgameSafe", spec := "subgameSafe", inPlace := ["maps.clone"], unfollowed := true, recurses := true, apart := false, narrowed := true }
def SubgameSafeUptoSaid : Prop := subgameSafeUptoRow.holds Tryz.pinned (OpenSpec.upto subgameSafeSpec)

end Rows
end Go.Proofs.YtcneokcbigloaaaGreat
