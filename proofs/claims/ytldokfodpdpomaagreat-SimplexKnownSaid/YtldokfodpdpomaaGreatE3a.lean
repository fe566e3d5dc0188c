import Derived.Test.YtldokfodpdpomaaGreatT2
namespace Go.Proofs.YtldokfodpdpomaaGreat.Closed
open Go.Am
set_option maxRecDepth 1000000
noncomputable def e7 : Entry := ⟨[], [], .bool true, [], []⟩
theorem e7_ok : EntryOk Tryz.prog 22 e7 := shows_ok mix T2_ok (n := 1000000) (keep := keepF) (nin := .h) (by kernel_rfl)
end Go.Proofs.YtldokfodpdpomaaGreat.Closed
