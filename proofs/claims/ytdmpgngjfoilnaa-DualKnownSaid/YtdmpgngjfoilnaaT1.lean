import Derived.Test.YtdmpgngjfoilnaaE1a
namespace Go.Proofs.Ytdmpgngjfoilnaa.Closed
open Go.Am
noncomputable def T1 : Tabs := assocE [(42, [e0]), (29, [e1, e4, e7, e8]), (54, [e2, e3, e5, e6, e9])]
theorem T1_ok : TabOk Try.prog T1 := assocE_ok ⟨⟨e0_ok, trivial⟩, ⟨e1_ok, e4_ok, e7_ok, e8_ok, trivial⟩, ⟨e2_ok, e3_ok, e5_ok, e6_ok, e9_ok, trivial⟩, trivial⟩
end Go.Proofs.Ytdmpgngjfoilnaa.Closed
