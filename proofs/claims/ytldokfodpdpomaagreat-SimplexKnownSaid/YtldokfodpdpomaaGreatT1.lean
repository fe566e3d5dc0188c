import Derived.Test.YtldokfodpdpomaaGreatE1a
namespace Go.Proofs.YtldokfodpdpomaaGreat.Closed
open Go.Am
noncomputable def T1 : Tabs := assocE [(75, [e0, e1, e3]), (35, [e2])]
theorem T1_ok : TabOk Tryz.prog T1 := assocE_ok ⟨⟨e0_ok, e1_ok, e3_ok, trivial⟩, ⟨e2_ok, trivial⟩, trivial⟩
end Go.Proofs.YtldokfodpdpomaaGreat.Closed
