import Derived.Test.YteafgmhfmphacaaGreatT5
namespace Go.Proofs.YteafgmhfmphacaaGreat.Closed
open Go.Am
set_option maxRecDepth 1000000
noncomputable def e227 : Entry := ⟨[], [], cT, [], []⟩
theorem e227_ok : EntryOk Tryz.prog 7 e227 := shows_ok mix T5_ok (n := 1000000) (keep := keepF) (nin := q1) (by kernel_rfl)
end Go.Proofs.YteafgmhfmphacaaGreat.Closed
