import Derived.Test.YtdmpgngjfoilnaaT3
namespace Go.Proofs.Ytdmpgngjfoilnaa.Closed
open Go.Am
set_option maxRecDepth 1000000
noncomputable def e17 : Entry := ⟨[], [], .bool true, [], []⟩
theorem e17_ok : EntryOk Try.prog 9 e17 := shows_ok mix T3_ok (n := 1000000) (keep := keepF) (nin := .h) (by kernel_rfl)
end Go.Proofs.Ytdmpgngjfoilnaa.Closed
