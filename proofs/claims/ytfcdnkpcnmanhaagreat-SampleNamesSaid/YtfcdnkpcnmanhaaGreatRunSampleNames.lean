import Derived.Test.YtfcdnkpcnmanhaaGreatT4
namespace Go.Proofs.YtfcdnkpcnmanhaaGreat.Closed
open Go.Am
set_option maxRecDepth 1000000
theorem runSampleNames (w : World) : Calls Tryz.prog 6 #[] w (fun e w' => e = .returned (.bool true) ∧ Go.RowKit.Below w.heap.size w w') :=
  saysO_calls mix T4_ok (n := 1000000) (keep := keepF) (by kernel_rfl) w
end Go.Proofs.YtfcdnkpcnmanhaaGreat.Closed
