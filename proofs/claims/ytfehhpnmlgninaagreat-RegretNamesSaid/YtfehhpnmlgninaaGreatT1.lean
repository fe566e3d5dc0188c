import Derived.Test.YtfehhpnmlgninaaGreatE1a
import Derived.Test.YtfehhpnmlgninaaGreatE1b
import Derived.Test.YtfehhpnmlgninaaGreatE1c
namespace Go.Proofs.YtfehhpnmlgninaaGreat.Closed
open Go.Am
noncomputable def T1 : Tabs := assocE [(130, [e0, e1]), (64, [e2, e26, e27]), (140, [e3, e4, e24, e25]), (88, [e5, e7, e20, e22]), (89, [e6, e8, e21, e23]), (210, [e9, e10]), (146, [e11, e12]), (60, [e13, e14, e15, e16, e17, e18, e19, e28, e30]), (74, [e29])]
theorem T1_ok : TabOk Tryz.prog T1 := assocE_ok ⟨⟨e0_ok, e1_ok, trivial⟩, ⟨e2_ok, e26_ok, e27_ok, trivial⟩, ⟨e3_ok, e4_ok, e24_ok, e25_ok, trivial⟩, ⟨e5_ok, e7_ok, e20_ok, e22_ok, trivial⟩, ⟨e6_ok, e8_ok, e21_ok, e23_ok, trivial⟩, ⟨e9_ok, e10_ok, trivial⟩, ⟨e11_ok, e12_ok, trivial⟩, ⟨e13_ok, e14_ok, e15_ok, e16_ok, e17_ok, e18_ok, e19_ok, e28_ok, e30_ok, trivial⟩, ⟨e29_ok, trivial⟩, trivial⟩
end Go.Proofs.YtfehhpnmlgninaaGreat.Closed
