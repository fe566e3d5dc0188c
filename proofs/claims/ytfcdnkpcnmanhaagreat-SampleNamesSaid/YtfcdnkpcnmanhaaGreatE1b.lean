import Derived.Test.YtfcdnkpcnmanhaaGreatPc1
namespace Go.Proofs.YtfcdnkpcnmanhaaGreat.Closed
open Go.Am
set_option maxRecDepth 1000000
noncomputable def e60 : Entry := ⟨[cT, uS q1 0 1 0 1, uS q2 0 1 0 1], [(q1, oC [cU 1]), (q2, oC [cU 8])], .agg [cT, kS q28 0 1 1, kS q39 0 1 2], [(q28, oC [cU 1]), (q39, oC [cU 8, cU 0])] ++ [(q1, oC [cU 1]), (q2, oC [cU 8])], [q28, q39]⟩
theorem e60_ok : EntryOk Tryz.prog 59 e60 := shows_ok mix noTab_ok (n := 1000000) (keep := keepF) (nin := q3) (by kernel_rfl)
noncomputable def e61 : Entry := ⟨[uS q1 0 1 0 1, uS q2 0 1 0 1], [(q1, oC [cU 7]), (q2, oC [cU 8])], uS q23 0 1 2 1, [(q23, oC [cU 1, cU 0])] ++ [(q1, oC [cU 7]), (q2, oC [cU 8])], [q23]⟩
theorem e61_ok : EntryOk Tryz.prog 89 e61 := shows_ok mix noTab_ok (n := 1000000) (keep := keepF) (nin := q3) (by kernel_rfl)
noncomputable def e62 : Entry := ⟨[cF, uS q1 0 1 0 1, uS q2 0 1 0 1], [(q1, oC [cU 1]), (q2, oC [cU 8])], .agg [cF, kS q28 0 1 1, kS q39 0 1 2], [(q28, oC [cU 1]), (q39, oC [cU 8, cU 0])] ++ [(q1, oC [cU 1]), (q2, oC [cU 8])], [q28, q39]⟩
theorem e62_ok : EntryOk Tryz.prog 59 e62 := shows_ok mix noTab_ok (n := 1000000) (keep := keepF) (nin := q3) (by kernel_rfl)
end Go.Proofs.YtfcdnkpcnmanhaaGreat.Closed
