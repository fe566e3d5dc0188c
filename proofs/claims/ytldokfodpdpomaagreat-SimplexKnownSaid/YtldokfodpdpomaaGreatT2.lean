import Derived.Test.YtldokfodpdpomaaGreatE2a
namespace Go.Proofs.YtldokfodpdpomaaGreat.Closed
open Go.Am
noncomputable def T2 : Tabs := assocE [(75, [e0, e1, e3]), (35, [e2]), (30, [e4]), (38, [e5]), (11, [e6])]
theorem T2_ok : TabOk Tryz.prog T2 := assocE_ok ⟨⟨e0_ok, e1_ok, e3_ok, trivial⟩, ⟨e2_ok, trivial⟩, ⟨e4_ok, trivial⟩, ⟨e5_ok, trivial⟩, ⟨e6_ok, trivial⟩, trivial⟩
end Go.Proofs.YtldokfodpdpomaaGreat.Closed
