import Derived.Test.YtfcdnkpcnmanhaaGreatE1a
import Derived.Test.YtfcdnkpcnmanhaaGreatE1b
namespace Go.Proofs.YtfcdnkpcnmanhaaGreat.Closed
open Go.Am
noncomputable def T1 : Tabs := assocE [(110, [e0]), (206, [e1, e2, e3, e4, e5, e6, e7, e8, e9, e10, e11, e12, e13, e14, e15, e21, e22, e23, e25, e28, e29, e30, e31, e32, e33, e34, e35, e36, e37, e38, e39, e40, e41, e42, e43, e44, e45, e46, e47, e48, e49, e50, e51, e52, e53, e54, e55, e56, e57, e58]), (89, [e16, e18, e59, e61]), (59, [e17, e19, e60, e62]), (95, [e20]), (179, [e24, e26, e27])]
theorem T1_ok : TabOk Tryz.prog T1 := assocE_ok ⟨⟨e0_ok, trivial⟩, ⟨e1_ok, e2_ok, e3_ok, e4_ok, e5_ok, e6_ok, e7_ok, e8_ok, e9_ok, e10_ok, e11_ok, e12_ok, e13_ok, e14_ok, e15_ok, e21_ok, e22_ok, e23_ok, e25_ok, e28_ok, e29_ok, e30_ok, e31_ok, e32_ok, e33_ok, e34_ok, e35_ok, e36_ok, e37_ok, e38_ok, e39_ok, e40_ok, e41_ok, e42_ok, e43_ok, e44_ok, e45_ok, e46_ok, e47_ok, e48_ok, e49_ok, e50_ok, e51_ok, e52_ok, e53_ok, e54_ok, e55_ok, e56_ok, e57_ok, e58_ok, trivial⟩, ⟨e16_ok, e18_ok, e59_ok, e61_ok, trivial⟩, ⟨e17_ok, e19_ok, e60_ok, e62_ok, trivial⟩, ⟨e20_ok, trivial⟩, ⟨e24_ok, e26_ok, e27_ok, trivial⟩, trivial⟩
end Go.Proofs.YtfcdnkpcnmanhaaGreat.Closed
