import Derived.Test.YteafgmhfmphacaaGreatPc1
namespace Go.Proofs.YteafgmhfmphacaaGreat.Closed
open Go.Am
set_option maxRecDepth 1000000
noncomputable def e171 : Entry := ⟨[.agg [kS q1 0 2 2, kS q2 0 2 2]], p_e171, cI 0, p_e171, []⟩
theorem e171_ok : EntryOk Tryz.prog 89 e171 := shows_ok mix noTab_ok (n := 1000000) (keep := keepF) (nin := q103) (by kernel_rfl)
noncomputable def e172 : Entry := ⟨[.agg [kS q1 0 2 2, kS q2 0 2 2]], p_e172, cI 5, p_e172, []⟩
theorem e172_ok : EntryOk Tryz.prog 62 e172 := shows_ok mix noTab_ok (n := 1000000) (keep := keepF) (nin := q19) (by kernel_rfl)
end Go.Proofs.YteafgmhfmphacaaGreat.Closed
