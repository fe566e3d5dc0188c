import Derived.Test.YtldokfodpdpomaaGreatT3
namespace Go.Proofs.YtldokfodpdpomaaGreat.Closed
open Go.Am
set_option maxRecDepth 1000000
theorem runSimplexKnown (w : World) : Calls Tryz.prog 8 #[] w (fun e w' => e = .returned (.bool true) ∧ Go.RowKit.Below w.heap.size w w') :=
  saysO_calls mix T3_ok (n := 1000000) (keep := keepF) (by kernel_rfl) w
end Go.Proofs.YtldokfodpdpomaaGreat.Closed
