import Derived.Test.YtfehhpnmlgninaaGreatE3a
namespace Go.Proofs.YtfehhpnmlgninaaGreat.Closed
open Go.Am
noncomputable def T3 : Tabs := assocE [(130, [e0, e1]), (64, [e2, e26, e27]), (140, [e3, e4, e24, e25]), (88, [e5, e7, e20, e22]), (89, [e6, e8, e21, e23]), (210, [e9, e10]), (146, [e11, e12]), (60, [e13, e14, e15, e16, e17, e18, e19, e28, e30]), (74, [e29]), (11, [e31]), (39, [e32, e40]), (91, [e33, e34, e38, e39]), (47, [e35, e37]), (184, [e36]), (15, [e41]), (13, [e42]), (33, [e43])]
theorem T3_ok : TabOk Tryz.prog T3 := assocE_ok ⟨⟨e0_ok, e1_ok, trivial⟩, ⟨e2_ok, e26_ok, e27_ok, trivial⟩, ⟨e3_ok, e4_ok, e24_ok, e25_ok, trivial⟩, ⟨e5_ok, e7_ok, e20_ok, e22_ok, trivial⟩, ⟨e6_ok, e8_ok, e21_ok, e23_ok, trivial⟩, ⟨e9_ok, e10_ok, trivial⟩, ⟨e11_ok, e12_ok, trivial⟩, ⟨e13_ok, e14_ok, e15_ok, e16_ok, e17_ok, e18_ok, e19_ok, e28_ok, e30_ok, trivial⟩, ⟨e29_ok, trivial⟩, ⟨e31_ok, trivial⟩, ⟨e32_ok, e40_ok, trivial⟩, ⟨e33_ok, e34_ok, e38_ok, e39_ok, trivial⟩, ⟨e35_ok, e37_ok, trivial⟩, ⟨e36_ok, trivial⟩, ⟨e41_ok, trivial⟩, ⟨e42_ok, trivial⟩, ⟨e43_ok, trivial⟩, trivial⟩
end Go.Proofs.YtfehhpnmlgninaaGreat.Closed
