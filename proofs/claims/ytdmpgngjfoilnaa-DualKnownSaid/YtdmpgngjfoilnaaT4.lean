import Derived.Test.YtdmpgngjfoilnaaE4a
namespace Go.Proofs.Ytdmpgngjfoilnaa.Closed
open Go.Am
noncomputable def T4 : Tabs := assocE [(42, [e0]), (29, [e1, e4, e7, e8]), (54, [e2, e3, e5, e6, e9]), (10, [e10]), (13, [e11]), (15, [e12, e16]), (32, [e13]), (96, [e14, e15]), (9, [e17])]
theorem T4_ok : TabOk Try.prog T4 := assocE_ok ⟨⟨e0_ok, trivial⟩, ⟨e1_ok, e4_ok, e7_ok, e8_ok, trivial⟩, ⟨e2_ok, e3_ok, e5_ok, e6_ok, e9_ok, trivial⟩, ⟨e10_ok, trivial⟩, ⟨e11_ok, trivial⟩, ⟨e12_ok, e16_ok, trivial⟩, ⟨e13_ok, trivial⟩, ⟨e14_ok, e15_ok, trivial⟩, ⟨e17_ok, trivial⟩, trivial⟩
end Go.Proofs.Ytdmpgngjfoilnaa.Closed
