import Derived.Test.YtcneokcbigloaaaGreatE2a
namespace Go.Proofs.YtcneokcbigloaaaGreat.Closed
open Go.Am
noncomputable def T2 : Tabs := assocE [(49, [e0, e1]), (84, [e2, e4, e6, e7]), (85, [e3, e5, e8]), (43, [e9])]
theorem T2_ok : TabOk Tryz.prog T2 := assocE_ok ⟨⟨e0_ok, e1_ok, trivial⟩, ⟨e2_ok, e4_ok, e6_ok, e7_ok, trivial⟩, ⟨e3_ok, e5_ok, e8_ok, trivial⟩, ⟨e9_ok, trivial⟩, trivial⟩
end Go.Proofs.YtcneokcbigloaaaGreat.Closed
