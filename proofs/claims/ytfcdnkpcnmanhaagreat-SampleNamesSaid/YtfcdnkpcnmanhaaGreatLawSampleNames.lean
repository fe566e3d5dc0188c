/- SampleNames: the function without arguments returns true, in every world and in every order that Go leaves open. No condition. -/
import Derived.Test.YtfcdnkpcnmanhaaGreatRows
import Derived.Test.YtfcdnkpcnmanhaaGreatRunSampleNames
import Derived.WalkKit
import Derived.ProofKit
import Derived.OpenShut
import Derived.ShutString
import Derived.ChangeOld
import Derived.Below
import Derived.SizedLaws
namespace Go.Proofs.YtfcdnkpcnmanhaaGreat.sampleNames
open Go.ChangeShapes Go.WideShapes Go.ChangeAt Go.RowKit
theorem own : ownKnob Tryz.prog.godebug = none := by kernel_rfl
set_option maxRecDepth 100000 in
theorem lifted (os : Os) (started : os.Started) (H : Type) (enc : TypeId × Value → H) :
    ReturnsInHanded {} Tryz.checked os 6 .any (Rows.sampleNamesSpec.pre6 enc Tryz.prog Tryz.f6 Rows.sampleNamesRow.domain false) (Rows.sampleNamesSpec.post enc Tryz.prog Tryz.f6 false true false false) := by
  refine returnsInHanded_of_change_sized (C := Tryz.checked) own started (by kernel_rfl) Tryz.func6
    (ChangeSpec.witness6 (enc := enc) (C := Tryz.checked) false ⟨#[], #[], []⟩ 8 (by kernel_rfl) (by kernel_rfl) (by kernel_rfl) (by kernel_rfl)) ?_
  intro W base args ds gs before _ hW _ _ _
  have hW' := hW
  obtain ⟨p, q, hA0, hV, rfl, _, _⟩ := hW
  have hA : DataW.TrodAll enc Tryz.prog W 0 (fun _ => true) true Tryz.f6.params.toList args.toList ds p := hA0
  rw [Tryz.params6] at hA
  obtain ⟨rfl, h2, rfl⟩ := trodAll_none hA
  subst h2
  obtain ⟨rfl, rfl⟩ := trodVars_none hV
  clear hA0
  refine (Closed.runSampleNames W).mono fun e W' ⟨he, bel⟩ => ?_
  subst he
  exact ⟨_, rfl, _, _, _, [], _, [], hW', trodAll_mk1 (shut_bool Tryz.underlying4 _), trodAll_mk0, rfl, bel.frame _, fun h => by cases h⟩
theorem over : Rows.sampleNamesRow.holds Tryz.pinned (OpenSpec.ofChange Rows.sampleNamesSpec) :=
  OpenClaim.holds_of_wide 6 Tryz.f6 rfl rfl rfl rfl rfl rfl rfl ⟨rfl, rfl, rfl, rfl, rfl⟩ rfl rfl rfl rfl rfl (by kernel_rfl) Tryz.func6 (by kernel_rfl)
    (of_decide_eq_true (by kernel_rfl)) (by unfold Func.isWrapper; first | (rw [if_pos (by decide +kernel)]; kernel_rfl) | (rw [if_neg (by decide +kernel)]; exact ⟨rfl, rfl⟩))
    (fun os started H enc _ => lifted os started H enc)
theorem proved : Rows.SampleNamesSaid := over
#print axioms proved
end Go.Proofs.YtfcdnkpcnmanhaaGreat.sampleNames
namespace Go.Proofs.YtfcdnkpcnmanhaaGreat
/-- The statement. -/
theorem sampleNames_holds : Rows.SampleNamesSaid := sampleNames.proved
end Go.Proofs.YtfcdnkpcnmanhaaGreat
