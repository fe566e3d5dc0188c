import Derived.Test.YtcneokcbigloaaaGreatT3
namespace Go.Proofs.YtcneokcbigloaaaGreat.Closed
open Go.Am
set_option maxRecDepth 1000000
theorem runSubgameKnown (w : World) : Calls Tryz.prog 4 #[] w (fun e w' => e = .returned (.bool true) ∧ Go.RowKit.Below w.heap.size w w') :=
  saysO_calls mix T3_ok (n := 1000000) (keep := keepF) (by kernel_rfl) w
end Go.Proofs.YtcneokcbigloaaaGreat.Closed
