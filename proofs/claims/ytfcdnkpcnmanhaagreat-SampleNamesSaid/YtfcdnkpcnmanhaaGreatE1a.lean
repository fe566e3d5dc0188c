import Derived.Test.YtfcdnkpcnmanhaaGreatPc1
namespace Go.Proofs.YtfcdnkpcnmanhaaGreat.Closed
open Go.Am
set_option maxRecDepth 1000000
noncomputable def e0 : Entry := ⟨[.agg [cI 2, kS q1 0 8 8, kS q2 0 3 3]], p_e0, cI 0, p_e0, []⟩
theorem e0_ok : EntryOk Tryz.prog 110 e0 := shows_ok mix noTab_ok (n := 1000000) (keep := keepF) (nin := q11) (by kernel_rfl)
noncomputable def e1 : Entry := ⟨[.agg [cF, kS q1 0 1 1, kS q2 0 1 1, cF, kS q3 0 1 1, kS q4 0 1 1], .func (.func 210) [] []], p_e1, .tuple [.agg [cF, kS q37 0 1 1, kS q38 0 1 1], cI 0], [(q37, oC [cU 3]), (q38, oC [cU 2])] ++ p_e1, [q37, q38]⟩
theorem e1_ok : EntryOk Tryz.prog 206 e1 := shows_ok mix noTab_ok (n := 1000000) (keep := keepF) (nin := q5) (by kernel_rfl)
noncomputable def e2 : Entry := ⟨[.agg [cF, kS q1 0 1 1, kS q2 0 1 1, cF, kS q3 0 1 1, kS q4 0 1 1], .func (.func 207) [] []], p_e2, .tuple [.agg [cF, kS q48 0 1 1, kS q49 0 1 1], cI 0], [(q48, oC [cU 5]), (q49, oC [cU 2])] ++ p_e2, [q48, q49]⟩
theorem e2_ok : EntryOk Tryz.prog 206 e2 := shows_ok mix noTab_ok (n := 1000000) (keep := keepF) (nin := q5) (by kernel_rfl)
noncomputable def e3 : Entry := ⟨[.agg [cF, kS q1 0 1 1, kS q2 0 1 1, cF, kS q3 0 1 1, kS q4 0 1 1], .func (.func 209) [] []], p_e3, .tuple [.agg [cT, kS q52 0 1 1, kS q53 0 1 1], cI 0], [(q52, oC [cU 1]), (q53, oC [cU 2])] ++ p_e3, [q52, q53]⟩
theorem e3_ok : EntryOk Tryz.prog 206 e3 := shows_ok mix noTab_ok (n := 1000000) (keep := keepF) (nin := q5) (by kernel_rfl)
noncomputable def e4 : Entry := ⟨[.agg [cF, nS, kS q1 0 1 1, cT, kS q2 0 1 1, kS q3 0 1 1], .func (.func 207) [] []], [(q1, oC [cU 1]), (q2, oC [cU 1]), (q3, oC [cU 2])], .tuple [.agg [cT, kS q43 0 1 1, kS q44 0 1 1], cI 0], [(q43, oC [cU 1]), (q44, oC [cU 2])] ++ [(q1, oC [cU 1]), (q2, oC [cU 1]), (q3, oC [cU 2])], [q43, q44]⟩
theorem e4_ok : EntryOk Tryz.prog 206 e4 := shows_ok mix noTab_ok (n := 1000000) (keep := keepF) (nin := q4) (by kernel_rfl)
noncomputable def e5 : Entry := ⟨[.agg [cT, kS q1 0 1 1, kS q2 0 1 1, cF, kS q3 0 1 1, kS q4 0 1 1], .func (.func 209) [] []], p_e5, .tuple [.agg [cT, kS q54 0 1 1, kS q55 0 1 1], cI 0], [(q54, oC [cU 7]), (q55, oC [cU 2])] ++ p_e5, [q54, q55]⟩
theorem e5_ok : EntryOk Tryz.prog 206 e5 := shows_ok mix noTab_ok (n := 1000000) (keep := keepF) (nin := q5) (by kernel_rfl)
noncomputable def e6 : Entry := ⟨[.agg [cF, nS, kS q1 0 1 1, cT, kS q2 0 1 1, kS q3 0 1 1], .func (.func 207) [] []], [(q1, oC [cU 1]), (q2, oC [cU 7]), (q3, oC [cU 2])], .tuple [.agg [cT, kS q45 0 1 1, kS q46 0 1 1], cI 0], [(q45, oC [cU 7]), (q46, oC [cU 2])] ++ [(q1, oC [cU 1]), (q2, oC [cU 7]), (q3, oC [cU 2])], [q45, q46]⟩
theorem e6_ok : EntryOk Tryz.prog 206 e6 := shows_ok mix noTab_ok (n := 1000000) (keep := keepF) (nin := q4) (by kernel_rfl)
noncomputable def e7 : Entry := ⟨[.agg [cF, kS q1 0 1 1, kS q2 0 1 1, cF, kS q3 0 1 1, kS q4 0 1 1], .func (.func 209) [] []], p_e7, .tuple [.agg [cF, kS q52 0 1 1, kS q53 0 1 1], cI 0], [(q52, oC [cU 1]), (q53, oC [cU 2])] ++ p_e7, [q52, q53]⟩
theorem e7_ok : EntryOk Tryz.prog 206 e7 := shows_ok mix noTab_ok (n := 1000000) (keep := keepF) (nin := q5) (by kernel_rfl)
noncomputable def e8 : Entry := ⟨[.agg [cF, nS, kS q1 0 1 1, cF, kS q2 0 1 1, kS q3 0 1 1], .func (.func 207) [] []], [(q1, oC [cU 1]), (q2, oC [cU 1]), (q3, oC [cU 2])], .tuple [.agg [cF, kS q44 0 1 1, kS q45 0 1 1], cI 0], [(q44, oC [cU 1]), (q45, oC [cU 2])] ++ [(q1, oC [cU 1]), (q2, oC [cU 1]), (q3, oC [cU 2])], [q44, q45]⟩
theorem e8_ok : EntryOk Tryz.prog 206 e8 := shows_ok mix noTab_ok (n := 1000000) (keep := keepF) (nin := q4) (by kernel_rfl)
noncomputable def e9 : Entry := ⟨[.agg [cF, kS q1 0 1 1, kS q2 0 1 1, cF, kS q3 0 1 1, kS q4 0 1 1], .func (.func 210) [] []], p_e9, .tuple [.agg [cF, kS q36 0 1 1, kS q37 0 1 1], cI 0], [(q36, oC [cU 1]), (q37, oC [cU 2])] ++ p_e9, [q36, q37]⟩
theorem e9_ok : EntryOk Tryz.prog 206 e9 := shows_ok mix noTab_ok (n := 1000000) (keep := keepF) (nin := q5) (by kernel_rfl)
noncomputable def e10 : Entry := ⟨[.agg [cF, kS q1 0 1 1, kS q2 0 1 1, cF, kS q3 0 1 1, kS q4 0 1 1], .func (.func 210) [] []], p_e10, .tuple [.agg [cF, kS q40 0 1 1, kS q41 0 1 1], cI 0], [(q40, oC [cU 5]), (q41, oC [cU 4])] ++ p_e10, [q40, q41]⟩
theorem e10_ok : EntryOk Tryz.prog 206 e10 := shows_ok mix noTab_ok (n := 1000000) (keep := keepF) (nin := q5) (by kernel_rfl)
noncomputable def e11 : Entry := ⟨[.agg [cF, kS q1 0 1 1, kS q2 0 1 1, cF, kS q3 0 1 1, kS q4 0 1 1], .func (.func 207) [] []], p_e11, .tuple [.agg [cF, kS q53 0 1 1, kS q54 0 1 1], cI 0], [(q53, oC [cU 7]), (q54, oC [cU 4])] ++ p_e11, [q53, q54]⟩
theorem e11_ok : EntryOk Tryz.prog 206 e11 := shows_ok mix noTab_ok (n := 1000000) (keep := keepF) (nin := q5) (by kernel_rfl)
noncomputable def e12 : Entry := ⟨[.agg [cF, kS q1 0 1 1, kS q2 0 1 1, cF, kS q3 0 1 1, kS q4 0 1 1], .func (.func 209) [] []], p_e12, .tuple [.agg [cT, kS q58 0 1 1, kS q59 0 1 1], cI 0], [(q58, oC [cU 3]), (q59, oC [cU 4])] ++ p_e12, [q58, q59]⟩
theorem e12_ok : EntryOk Tryz.prog 206 e12 := shows_ok mix noTab_ok (n := 1000000) (keep := keepF) (nin := q5) (by kernel_rfl)
noncomputable def e13 : Entry := ⟨[.agg [cF, nS, kS q1 0 1 1, cT, kS q2 0 1 1, kS q3 0 1 1], .func (.func 207) [] []], [(q1, oC [cU 1]), (q2, oC [cU 3]), (q3, oC [cU 4])], .tuple [.agg [cT, kS q49 0 1 1, kS q50 0 1 1], cI 0], [(q49, oC [cU 3]), (q50, oC [cU 4])] ++ [(q1, oC [cU 1]), (q2, oC [cU 3]), (q3, oC [cU 4])], [q49, q50]⟩
theorem e13_ok : EntryOk Tryz.prog 206 e13 := shows_ok mix noTab_ok (n := 1000000) (keep := keepF) (nin := q4) (by kernel_rfl)
noncomputable def e14 : Entry := ⟨[.agg [cF, kS q1 0 1 1, kS q2 0 1 1, cF, kS q3 0 1 1, kS q4 0 1 1], .func (.func 209) [] []], p_e14, .tuple [.agg [cF, kS q61 0 1 1, kS q62 0 1 1], cI 0], [(q61, oC [cU 3]), (q62, oC [cU 4])] ++ p_e14, [q61, q62]⟩
theorem e14_ok : EntryOk Tryz.prog 206 e14 := shows_ok mix noTab_ok (n := 1000000) (keep := keepF) (nin := q5) (by kernel_rfl)
noncomputable def e15 : Entry := ⟨[.agg [cF, nS, kS q1 0 1 1, cF, kS q2 0 1 1, kS q3 0 1 1], .func (.func 207) [] []], [(q1, oC [cU 1]), (q2, oC [cU 3]), (q3, oC [cU 4])], .tuple [.agg [cF, kS q50 0 1 1, kS q51 0 1 1], cI 0], [(q50, oC [cU 3]), (q51, oC [cU 4])] ++ [(q1, oC [cU 1]), (q2, oC [cU 3]), (q3, oC [cU 4])], [q50, q51]⟩
theorem e15_ok : EntryOk Tryz.prog 206 e15 := shows_ok mix noTab_ok (n := 1000000) (keep := keepF) (nin := q4) (by kernel_rfl)
noncomputable def e16 : Entry := ⟨[uS q1 0 1 0 1, uS q2 0 1 0 1], [(q1, oC [cU 3]), (q2, oC [cU 4])], uS q23 0 1 2 1, [(q23, oC [cU 1, cU 0])] ++ [(q1, oC [cU 3]), (q2, oC [cU 4])], [q23]⟩
theorem e16_ok : EntryOk Tryz.prog 89 e16 := shows_ok mix noTab_ok (n := 1000000) (keep := keepF) (nin := q3) (by kernel_rfl)
noncomputable def e17 : Entry := ⟨[cT, uS q1 0 1 0 1, uS q2 0 1 0 1], [(q1, oC [cU 1]), (q2, oC [cU 2])], .agg [cT, kS q28 0 1 1, kS q39 0 1 2], [(q28, oC [cU 1]), (q39, oC [cU 2, cU 0])] ++ [(q1, oC [cU 1]), (q2, oC [cU 2])], [q28, q39]⟩
theorem e17_ok : EntryOk Tryz.prog 59 e17 := shows_ok mix noTab_ok (n := 1000000) (keep := keepF) (nin := q3) (by kernel_rfl)
noncomputable def e18 : Entry := ⟨[uS q1 0 1 0 1, uS q2 0 1 0 1], [(q1, oC [cU 7]), (q2, oC [cU 2])], uS q23 0 1 2 1, [(q23, oC [cU 1, cU 0])] ++ [(q1, oC [cU 7]), (q2, oC [cU 2])], [q23]⟩
theorem e18_ok : EntryOk Tryz.prog 89 e18 := shows_ok mix noTab_ok (n := 1000000) (keep := keepF) (nin := q3) (by kernel_rfl)
noncomputable def e19 : Entry := ⟨[cF, uS q1 0 1 0 1, uS q2 0 1 0 1], [(q1, oC [cU 1]), (q2, oC [cU 2])], .agg [cF, kS q28 0 1 1, kS q39 0 1 2], [(q28, oC [cU 1]), (q39, oC [cU 2, cU 0])] ++ [(q1, oC [cU 1]), (q2, oC [cU 2])], [q28, q39]⟩
theorem e19_ok : EntryOk Tryz.prog 59 e19 := shows_ok mix noTab_ok (n := 1000000) (keep := keepF) (nin := q3) (by kernel_rfl)
noncomputable def e20 : Entry := ⟨[.agg [cI 2, kS q1 0 3 3, nS]], p_e20, cI 0, p_e20, []⟩
theorem e20_ok : EntryOk Tryz.prog 95 e20 := shows_ok mix noTab_ok (n := 1000000) (keep := keepF) (nin := q6) (by kernel_rfl)
noncomputable def e21 : Entry := ⟨[.agg [cF, kS q1 0 1 1, kS q2 0 1 1, cF, nS, kS q3 0 1 1], .func (.func 207) [] []], [(q1, oC [cU 1]), (q2, oC [cU 2]), (q3, oC [cU 1])], .tuple [.agg [cF, kS q44 0 1 1, kS q45 0 1 1], cI 0], [(q44, oC [cU 1]), (q45, oC [cU 2])] ++ [(q1, oC [cU 1]), (q2, oC [cU 2]), (q3, oC [cU 1])], [q44, q45]⟩
theorem e21_ok : EntryOk Tryz.prog 206 e21 := shows_ok mix noTab_ok (n := 1000000) (keep := keepF) (nin := q4) (by kernel_rfl)
noncomputable def e22 : Entry := ⟨[.agg [cF, kS q1 0 1 1, kS q2 0 1 1, cF, kS q3 0 1 1, kS q4 0 1 1], .func (.func 209) [] []], p_e22, .tuple [.agg [cF, kS q51 0 1 1, kS q52 0 1 1], cI 0], [(q51, oC [cU 1]), (q52, oC [cU 2])] ++ p_e22, [q51, q52]⟩
theorem e22_ok : EntryOk Tryz.prog 206 e22 := shows_ok mix noTab_ok (n := 1000000) (keep := keepF) (nin := q5) (by kernel_rfl)
noncomputable def e23 : Entry := ⟨[.agg [cF, nS, kS q1 0 1 1, cF, kS q2 0 1 1, kS q3 0 1 1], .func (.func 209) [] []], [(q1, oC [cU 1]), (q2, oC [cU 1]), (q3, oC [cU 2])], .tuple [.agg [cT, kS q49 0 1 1, kS q50 0 1 1], cI 0], [(q49, oC [cU 1]), (q50, oC [cU 2])] ++ [(q1, oC [cU 1]), (q2, oC [cU 1]), (q3, oC [cU 2])], [q49, q50]⟩
theorem e23_ok : EntryOk Tryz.prog 206 e23 := shows_ok mix noTab_ok (n := 1000000) (keep := keepF) (nin := q4) (by kernel_rfl)
noncomputable def e24 : Entry := ⟨[.agg [cF, kS q1 0 1 1, kS q2 0 1 1, cF, kS q3 0 1 1, kS q4 0 1 1], .func (.func 180) [] []], p_e9, .tuple [cM 0, cI 0], p_e9, []⟩
theorem e24_ok : EntryOk Tryz.prog 179 e24 := shows_ok mix noTab_ok (n := 1000000) (keep := keepF) (nin := q5) (by kernel_rfl)
noncomputable def e25 : Entry := ⟨[.agg [cF, kS q1 0 1 1, kS q2 0 1 1, cF, kS q3 0 1 1, kS q4 0 1 1], .func (.func 207) [] []], p_e25, .tuple [.agg [cF, kS q46 0 1 1, kS q47 0 1 1], cI 0], [(q46, oC [cU 1]), (q47, oC [cU 1])] ++ p_e25, [q46, q47]⟩
theorem e25_ok : EntryOk Tryz.prog 206 e25 := shows_ok mix noTab_ok (n := 1000000) (keep := keepF) (nin := q5) (by kernel_rfl)
noncomputable def e26 : Entry := ⟨[.agg [cF, kS q1 0 1 1, kS q2 0 1 1, cF, kS q3 0 1 1, kS q4 0 1 1], .func (.func 180) [] []], p_e26, .tuple [cM 0, cI 0], p_e26, []⟩
theorem e26_ok : EntryOk Tryz.prog 179 e26 := shows_ok mix noTab_ok (n := 1000000) (keep := keepF) (nin := q5) (by kernel_rfl)
noncomputable def e27 : Entry := ⟨[.agg [cF, kS q1 0 1 1, kS q2 0 1 1, cF, kS q3 0 1 1, kS q4 0 1 1], .func (.func 180) [] []], p_e27, .tuple [cM 0, cI 0], p_e27, []⟩
theorem e27_ok : EntryOk Tryz.prog 179 e27 := shows_ok mix noTab_ok (n := 1000000) (keep := keepF) (nin := q5) (by kernel_rfl)
noncomputable def e28 : Entry := ⟨[.agg [cF, kS q1 0 1 1, kS q2 0 1 1, cF, kS q3 0 1 1, kS q4 0 1 1], .func (.func 207) [] []], p_e28, .tuple [.agg [cF, kS q49 0 1 1, kS q50 0 1 1], cI 0], [(q49, oC [cU 1]), (q50, oC [cU 1])] ++ p_e28, [q49, q50]⟩
theorem e28_ok : EntryOk Tryz.prog 206 e28 := shows_ok mix noTab_ok (n := 1000000) (keep := keepF) (nin := q5) (by kernel_rfl)
noncomputable def e29 : Entry := ⟨[.agg [cF, kS q1 0 1 1, kS q2 0 1 1, cF, kS q3 0 1 1, kS q4 0 1 1], .func (.func 210) [] []], p_e29, .tuple [.agg [cF, kS q48 0 1 1, kS q49 0 1 1], cI 0], [(q48, oC [cU 5]), (q49, oC [cU 8])] ++ p_e29, [q48, q49]⟩
theorem e29_ok : EntryOk Tryz.prog 206 e29 := shows_ok mix noTab_ok (n := 1000000) (keep := keepF) (nin := q5) (by kernel_rfl)
noncomputable def e30 : Entry := ⟨[.agg [cF, nS, kS q1 0 1 1, cF, kS q2 0 1 1, kS q3 0 1 1], .func (.func 207) [] []], [(q1, oC [cU 1]), (q2, oC [cU 5]), (q3, oC [cU 8])], .tuple [.agg [cF, kS q62 0 1 1, kS q63 0 1 1], cI 0], [(q62, oC [cU 5]), (q63, oC [cU 8])] ++ [(q1, oC [cU 1]), (q2, oC [cU 5]), (q3, oC [cU 8])], [q62, q63]⟩
theorem e30_ok : EntryOk Tryz.prog 206 e30 := shows_ok mix noTab_ok (n := 1000000) (keep := keepF) (nin := q4) (by kernel_rfl)
noncomputable def e31 : Entry := ⟨[.agg [cF, kS q1 0 1 1, kS q2 0 1 1, cF, kS q3 0 1 1, kS q4 0 1 1], .func (.func 210) [] []], p_e31, .tuple [.agg [cF, kS q50 0 1 1, kS q51 0 1 1], cI 0], [(q50, oC [cU 5]), (q51, oC [cU 16])] ++ p_e31, [q50, q51]⟩
theorem e31_ok : EntryOk Tryz.prog 206 e31 := shows_ok mix noTab_ok (n := 1000000) (keep := keepF) (nin := q5) (by kernel_rfl)
noncomputable def e32 : Entry := ⟨[.agg [cF, kS q1 0 1 1, kS q2 0 1 1, cF, kS q3 0 1 1, kS q4 0 1 1], .func (.func 207) [] []], p_e32, .tuple [.agg [cF, kS q57 0 1 1, kS q58 0 1 1], cI 0], [(q57, oC [cU 13]), (q58, oC [cU 16])] ++ p_e32, [q57, q58]⟩
theorem e32_ok : EntryOk Tryz.prog 206 e32 := shows_ok mix noTab_ok (n := 1000000) (keep := keepF) (nin := q5) (by kernel_rfl)
noncomputable def e33 : Entry := ⟨[.agg [cF, kS q1 0 1 1, kS q2 0 1 1, cF, kS q3 0 1 1, kS q4 0 1 1], .func (.func 209) [] []], p_e33, .tuple [.agg [cF, kS q60 0 1 1, kS q61 0 1 1], cI 0], [(q60, oC [cU 3]), (q61, oC [cU 16])] ++ p_e33, [q60, q61]⟩
theorem e33_ok : EntryOk Tryz.prog 206 e33 := shows_ok mix noTab_ok (n := 1000000) (keep := keepF) (nin := q5) (by kernel_rfl)
noncomputable def e34 : Entry := ⟨[.agg [cF, kS q1 0 1 1, kS q2 0 1 1, cF, kS q3 0 1 1, kS q4 0 1 1], .func (.func 210) [] []], p_e34, .tuple [.agg [cF, kS q42 0 1 1, kS q43 0 1 1], cI 0], [(q42, oC [cU 3]), (q43, oC [cU 16])] ++ p_e34, [q42, q43]⟩
theorem e34_ok : EntryOk Tryz.prog 206 e34 := shows_ok mix noTab_ok (n := 1000000) (keep := keepF) (nin := q5) (by kernel_rfl)
noncomputable def e35 : Entry := ⟨[.agg [cF, nS, kS q1 0 1 1, cF, kS q2 0 1 1, kS q3 0 1 1], .func (.func 207) [] []], [(q1, oC [cU 1]), (q2, oC [cU 3]), (q3, oC [cU 16])], .tuple [.agg [cF, kS q50 0 1 1, kS q51 0 1 1], cI 0], [(q50, oC [cU 3]), (q51, oC [cU 16])] ++ [(q1, oC [cU 1]), (q2, oC [cU 3]), (q3, oC [cU 16])], [q50, q51]⟩
theorem e35_ok : EntryOk Tryz.prog 206 e35 := shows_ok mix noTab_ok (n := 1000000) (keep := keepF) (nin := q4) (by kernel_rfl)
noncomputable def e36 : Entry := ⟨[.agg [cF, kS q1 0 1 1, kS q2 0 1 1, cF, kS q3 0 1 1, kS q4 0 1 1], .func (.func 209) [] []], p_e36, .tuple [.agg [cT, kS q71 0 1 1, kS q72 0 1 1], cI 0], [(q71, oC [cU 3]), (q72, oC [cU 16])] ++ p_e36, [q71, q72]⟩
theorem e36_ok : EntryOk Tryz.prog 206 e36 := shows_ok mix noTab_ok (n := 1000000) (keep := keepF) (nin := q5) (by kernel_rfl)
noncomputable def e37 : Entry := ⟨[.agg [cF, kS q1 0 1 1, kS q2 0 1 1, cT, kS q3 0 1 1, kS q4 0 1 1], .func (.func 210) [] []], p_e34, .tuple [.agg [cT, kS q42 0 1 1, kS q43 0 1 1], cI 0], [(q42, oC [cU 3]), (q43, oC [cU 16])] ++ p_e34, [q42, q43]⟩
theorem e37_ok : EntryOk Tryz.prog 206 e37 := shows_ok mix noTab_ok (n := 1000000) (keep := keepF) (nin := q5) (by kernel_rfl)
noncomputable def e38 : Entry := ⟨[.agg [cF, nS, kS q1 0 1 1, cT, kS q2 0 1 1, kS q3 0 1 1], .func (.func 207) [] []], [(q1, oC [cU 1]), (q2, oC [cU 3]), (q3, oC [cU 16])], .tuple [.agg [cT, kS q49 0 1 1, kS q50 0 1 1], cI 0], [(q49, oC [cU 3]), (q50, oC [cU 16])] ++ [(q1, oC [cU 1]), (q2, oC [cU 3]), (q3, oC [cU 16])], [q49, q50]⟩
theorem e38_ok : EntryOk Tryz.prog 206 e38 := shows_ok mix noTab_ok (n := 1000000) (keep := keepF) (nin := q4) (by kernel_rfl)
noncomputable def e39 : Entry := ⟨[.agg [cF, kS q1 0 1 1, kS q2 0 1 1, cF, kS q3 0 1 1, kS q4 0 1 1], .func (.func 210) [] []], p_e39, .tuple [.agg [cF, kS q36 0 1 1, kS q37 0 1 1], cI 0], [(q36, oC [cU 1]), (q37, oC [cU 4])] ++ p_e39, [q36, q37]⟩
theorem e39_ok : EntryOk Tryz.prog 206 e39 := shows_ok mix noTab_ok (n := 1000000) (keep := keepF) (nin := q5) (by kernel_rfl)
noncomputable def e40 : Entry := ⟨[.agg [cF, kS q1 0 1 1, kS q2 0 1 1, cT, kS q3 0 1 1, kS q4 0 1 1], .func (.func 210) [] []], p_e40, .tuple [.agg [cT, kS q38 0 1 1, kS q39 0 1 1], cI 0], [(q38, oC [cU 1]), (q39, oC [cU 8])] ++ p_e40, [q38, q39]⟩
theorem e40_ok : EntryOk Tryz.prog 206 e40 := shows_ok mix noTab_ok (n := 1000000) (keep := keepF) (nin := q5) (by kernel_rfl)
noncomputable def e41 : Entry := ⟨[.agg [cF, nS, kS q1 0 1 1, cT, kS q2 0 1 1, kS q3 0 1 1], .func (.func 207) [] []], [(q1, oC [cU 1]), (q2, oC [cU 1]), (q3, oC [cU 8])], .tuple [.agg [cT, kS q43 0 1 1, kS q44 0 1 1], cI 0], [(q43, oC [cU 1]), (q44, oC [cU 8])] ++ [(q1, oC [cU 1]), (q2, oC [cU 1]), (q3, oC [cU 8])], [q43, q44]⟩
theorem e41_ok : EntryOk Tryz.prog 206 e41 := shows_ok mix noTab_ok (n := 1000000) (keep := keepF) (nin := q4) (by kernel_rfl)
noncomputable def e42 : Entry := ⟨[.agg [cF, kS q1 0 1 1, kS q2 0 1 1, cT, kS q3 0 1 1, kS q4 0 1 1], .func (.func 210) [] []], p_e42, .tuple [.agg [cT, kS q42 0 1 1, kS q43 0 1 1], cI 0], [(q42, oC [cU 7]), (q43, oC [cU 8])] ++ p_e42, [q42, q43]⟩
theorem e42_ok : EntryOk Tryz.prog 206 e42 := shows_ok mix noTab_ok (n := 1000000) (keep := keepF) (nin := q5) (by kernel_rfl)
noncomputable def e43 : Entry := ⟨[.agg [cF, nS, kS q1 0 1 1, cT, kS q2 0 1 1, kS q3 0 1 1], .func (.func 207) [] []], [(q1, oC [cU 1]), (q2, oC [cU 7]), (q3, oC [cU 8])], .tuple [.agg [cT, kS q49 0 1 1, kS q50 0 1 1], cI 0], [(q49, oC [cU 7]), (q50, oC [cU 8])] ++ [(q1, oC [cU 1]), (q2, oC [cU 7]), (q3, oC [cU 8])], [q49, q50]⟩
theorem e43_ok : EntryOk Tryz.prog 206 e43 := shows_ok mix noTab_ok (n := 1000000) (keep := keepF) (nin := q4) (by kernel_rfl)
noncomputable def e44 : Entry := ⟨[.agg [cF, kS q1 0 1 1, kS q2 0 1 1, cF, kS q3 0 1 1, kS q4 0 1 1], .func (.func 210) [] []], p_e40, .tuple [.agg [cF, kS q38 0 1 1, kS q39 0 1 1], cI 0], [(q38, oC [cU 1]), (q39, oC [cU 8])] ++ p_e40, [q38, q39]⟩
theorem e44_ok : EntryOk Tryz.prog 206 e44 := shows_ok mix noTab_ok (n := 1000000) (keep := keepF) (nin := q5) (by kernel_rfl)
noncomputable def e45 : Entry := ⟨[.agg [cF, nS, kS q1 0 1 1, cF, kS q2 0 1 1, kS q3 0 1 1], .func (.func 207) [] []], [(q1, oC [cU 1]), (q2, oC [cU 1]), (q3, oC [cU 8])], .tuple [.agg [cF, kS q44 0 1 1, kS q45 0 1 1], cI 0], [(q44, oC [cU 1]), (q45, oC [cU 8])] ++ [(q1, oC [cU 1]), (q2, oC [cU 1]), (q3, oC [cU 8])], [q44, q45]⟩
theorem e45_ok : EntryOk Tryz.prog 206 e45 := shows_ok mix noTab_ok (n := 1000000) (keep := keepF) (nin := q4) (by kernel_rfl)
noncomputable def e46 : Entry := ⟨[.agg [cF, kS q1 0 1 1, kS q2 0 1 1, cT, kS q3 0 1 1, kS q4 0 1 1], .func (.func 210) [] []], p_e1, .tuple [.agg [cT, kS q37 0 1 1, kS q38 0 1 1], cI 0], [(q37, oC [cU 3]), (q38, oC [cU 2])] ++ p_e1, [q37, q38]⟩
theorem e46_ok : EntryOk Tryz.prog 206 e46 := shows_ok mix noTab_ok (n := 1000000) (keep := keepF) (nin := q5) (by kernel_rfl)
noncomputable def e47 : Entry := ⟨[.agg [cT, kS q1 0 1 1, kS q2 0 1 1, cT, kS q3 0 1 1, kS q4 0 1 1], .func (.func 207) [] []], p_e2, .tuple [.agg [cT, kS q48 0 1 1, kS q49 0 1 1], cI 0], [(q48, oC [cU 5]), (q49, oC [cU 2])] ++ p_e2, [q48, q49]⟩
theorem e47_ok : EntryOk Tryz.prog 206 e47 := shows_ok mix noTab_ok (n := 1000000) (keep := keepF) (nin := q5) (by kernel_rfl)
noncomputable def e48 : Entry := ⟨[.agg [cF, kS q1 0 1 1, kS q2 0 1 1, cT, kS q3 0 1 1, kS q4 0 1 1], .func (.func 210) [] []], p_e29, .tuple [.agg [cT, kS q48 0 1 1, kS q49 0 1 1], cI 0], [(q48, oC [cU 5]), (q49, oC [cU 8])] ++ p_e29, [q48, q49]⟩
theorem e48_ok : EntryOk Tryz.prog 206 e48 := shows_ok mix noTab_ok (n := 1000000) (keep := keepF) (nin := q5) (by kernel_rfl)
noncomputable def e49 : Entry := ⟨[.agg [cF, nS, kS q1 0 1 1, cT, kS q2 0 1 1, kS q3 0 1 1], .func (.func 207) [] []], [(q1, oC [cU 1]), (q2, oC [cU 5]), (q3, oC [cU 8])], .tuple [.agg [cT, kS q61 0 1 1, kS q62 0 1 1], cI 0], [(q61, oC [cU 5]), (q62, oC [cU 8])] ++ [(q1, oC [cU 1]), (q2, oC [cU 5]), (q3, oC [cU 8])], [q61, q62]⟩
theorem e49_ok : EntryOk Tryz.prog 206 e49 := shows_ok mix noTab_ok (n := 1000000) (keep := keepF) (nin := q4) (by kernel_rfl)
noncomputable def e50 : Entry := ⟨[.agg [cF, kS q1 0 1 1, kS q2 0 1 1, cT, kS q3 0 1 1, kS q4 0 1 1], .func (.func 210) [] []], p_e9, .tuple [.agg [cT, kS q36 0 1 1, kS q37 0 1 1], cI 0], [(q36, oC [cU 1]), (q37, oC [cU 2])] ++ p_e9, [q36, q37]⟩
theorem e50_ok : EntryOk Tryz.prog 206 e50 := shows_ok mix noTab_ok (n := 1000000) (keep := keepF) (nin := q5) (by kernel_rfl)
noncomputable def e51 : Entry := ⟨[.agg [cF, kS q1 0 1 1, kS q2 0 1 1, cT, kS q3 0 1 1, kS q4 0 1 1], .func (.func 210) [] []], p_e31, .tuple [.agg [cT, kS q50 0 1 1, kS q51 0 1 1], cI 0], [(q50, oC [cU 5]), (q51, oC [cU 16])] ++ p_e31, [q50, q51]⟩
theorem e51_ok : EntryOk Tryz.prog 206 e51 := shows_ok mix noTab_ok (n := 1000000) (keep := keepF) (nin := q5) (by kernel_rfl)
noncomputable def e52 : Entry := ⟨[.agg [cT, kS q1 0 1 1, kS q2 0 1 1, cT, kS q3 0 1 1, kS q4 0 1 1], .func (.func 207) [] []], p_e32, .tuple [.agg [cT, kS q57 0 1 1, kS q58 0 1 1], cI 0], [(q57, oC [cU 13]), (q58, oC [cU 16])] ++ p_e32, [q57, q58]⟩
theorem e52_ok : EntryOk Tryz.prog 206 e52 := shows_ok mix noTab_ok (n := 1000000) (keep := keepF) (nin := q5) (by kernel_rfl)
noncomputable def e53 : Entry := ⟨[.agg [cF, nS, kS q1 0 1 1, cT, kS q2 0 1 1, kS q3 0 1 1], .func (.func 209) [] []], [(q1, oC [cU 1]), (q2, oC [cU 5]), (q3, oC [cU 8])], .tuple [.agg [cF, kS q68 0 1 1, kS q69 0 1 1], cI 0], [(q68, oC [cU 5]), (q69, oC [cU 8])] ++ [(q1, oC [cU 1]), (q2, oC [cU 5]), (q3, oC [cU 8])], [q68, q69]⟩
theorem e53_ok : EntryOk Tryz.prog 206 e53 := shows_ok mix noTab_ok (n := 1000000) (keep := keepF) (nin := q4) (by kernel_rfl)
noncomputable def e54 : Entry := ⟨[.agg [cF, kS q1 0 1 1, kS q2 0 1 1, cF, kS q3 0 1 1, kS q4 0 1 1], .func (.func 210) [] []], p_e22, .tuple [.agg [cF, kS q36 0 1 1, kS q37 0 1 1], cI 0], [(q36, oC [cU 1]), (q37, oC [cU 2])] ++ p_e22, [q36, q37]⟩
theorem e54_ok : EntryOk Tryz.prog 206 e54 := shows_ok mix noTab_ok (n := 1000000) (keep := keepF) (nin := q5) (by kernel_rfl)
noncomputable def e55 : Entry := ⟨[.agg [cF, nS, kS q1 0 1 1, cF, kS q2 0 1 1, kS q3 0 1 1], .func (.func 207) [] []], [(q1, oC [cU 1]), (q2, oC [cU 5]), (q3, oC [cU 16])], .tuple [.agg [cF, kS q50 0 1 1, kS q51 0 1 1], cI 0], [(q50, oC [cU 5]), (q51, oC [cU 16])] ++ [(q1, oC [cU 1]), (q2, oC [cU 5]), (q3, oC [cU 16])], [q50, q51]⟩
theorem e55_ok : EntryOk Tryz.prog 206 e55 := shows_ok mix noTab_ok (n := 1000000) (keep := keepF) (nin := q4) (by kernel_rfl)
noncomputable def e56 : Entry := ⟨[.agg [cT, kS q1 0 1 1, kS q2 0 1 1, cT, kS q3 0 1 1, kS q4 0 1 1], .func (.func 209) [] []], p_e56, .tuple [.agg [cT, kS q67 0 1 1, kS q68 0 1 1], cI 0], [(q67, oC [cU 15]), (q68, oC [cU 8])] ++ p_e56, [q67, q68]⟩
theorem e56_ok : EntryOk Tryz.prog 206 e56 := shows_ok mix noTab_ok (n := 1000000) (keep := keepF) (nin := q5) (by kernel_rfl)
noncomputable def e57 : Entry := ⟨[.agg [cF, kS q1 0 1 1, kS q2 0 1 1, cT, kS q3 0 1 1, kS q4 0 1 1], .func (.func 210) [] []], p_e57, .tuple [.agg [cT, kS q45 0 1 1, kS q46 0 1 1], cI 0], [(q45, oC [cU 15]), (q46, oC [cU 16])] ++ p_e57, [q45, q46]⟩
theorem e57_ok : EntryOk Tryz.prog 206 e57 := shows_ok mix noTab_ok (n := 1000000) (keep := keepF) (nin := q5) (by kernel_rfl)
noncomputable def e58 : Entry := ⟨[.agg [cF, nS, kS q1 0 1 1, cT, kS q2 0 1 1, kS q3 0 1 1], .func (.func 207) [] []], [(q1, oC [cU 1]), (q2, oC [cU 15]), (q3, oC [cU 16])], .tuple [.agg [cT, kS q49 0 1 1, kS q50 0 1 1], cI 0], [(q49, oC [cU 15]), (q50, oC [cU 16])] ++ [(q1, oC [cU 1]), (q2, oC [cU 15]), (q3, oC [cU 16])], [q49, q50]⟩
theorem e58_ok : EntryOk Tryz.prog 206 e58 := shows_ok mix noTab_ok (n := 1000000) (keep := keepF) (nin := q4) (by kernel_rfl)
noncomputable def e59 : Entry := ⟨[uS q1 0 1 0 1, uS q2 0 1 0 1], [(q1, oC [cU 3]), (q2, oC [cU 16])], uS q23 0 1 2 1, [(q23, oC [cU 1, cU 0])] ++ [(q1, oC [cU 3]), (q2, oC [cU 16])], [q23]⟩
theorem e59_ok : EntryOk Tryz.prog 89 e59 := shows_ok mix noTab_ok (n := 1000000) (keep := keepF) (nin := q3) (by kernel_rfl)
end Go.Proofs.YtfcdnkpcnmanhaaGreat.Closed
