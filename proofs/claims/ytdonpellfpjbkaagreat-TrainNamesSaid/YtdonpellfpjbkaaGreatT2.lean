import Derived.Test.YtdonpellfpjbkaaGreatE2a
namespace Go.Proofs.YtdonpellfpjbkaaGreat.Closed
open Go.Am
noncomputable def T2 : Tabs := assocE [(27, [e0]), (44, [e1]), (23, [e2])]
theorem T2_ok : TabOk Tryz.prog T2 := assocE_ok ⟨⟨e0_ok, trivial⟩, ⟨e1_ok, trivial⟩, ⟨e2_ok, trivial⟩, trivial⟩
end Go.Proofs.YtdonpellfpjbkaaGreat.Closed
