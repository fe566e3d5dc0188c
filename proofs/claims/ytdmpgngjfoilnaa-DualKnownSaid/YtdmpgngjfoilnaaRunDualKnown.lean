import Derived.Test.YtdmpgngjfoilnaaT4
namespace Go.Proofs.Ytdmpgngjfoilnaa.Closed
open Go.Am
set_option maxRecDepth 1000000
theorem runDualKnown (w : World) : Calls Try.prog 4 #[] w (fun e w' => e = .returned (.bool true) ∧ Go.RowKit.Below w.heap.size w w') :=
  saysO_calls mix T4_ok (n := 1000000) (keep := keepF) (by kernel_rfl) w
end Go.Proofs.Ytdmpgngjfoilnaa.Closed
