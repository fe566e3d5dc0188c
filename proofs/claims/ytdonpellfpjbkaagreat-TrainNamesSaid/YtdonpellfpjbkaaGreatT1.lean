import Derived.Test.YtdonpellfpjbkaaGreatE1a
namespace Go.Proofs.YtdonpellfpjbkaaGreat.Closed
open Go.Am
noncomputable def T1 : Tabs := assocE [(27, [e0]), (44, [e1])]
theorem T1_ok : TabOk Tryz.prog T1 := assocE_ok ⟨⟨e0_ok, trivial⟩, ⟨e1_ok, trivial⟩, trivial⟩
end Go.Proofs.YtdonpellfpjbkaaGreat.Closed
