/- The law StepNames of layer 35 (step): it has no arguments, and returns true. No conditions. -/
import Derived.Test.YtodebpebcehogaaGreatRows
import Derived.Test.YtodebpebcehogaaGreatDLawStepNames
import Derived.WalkKit
import Derived.ProofKit
import Derived.OpenShut
set_option linter.all false
namespace Go.Proofs.YtodebpebcehogaaGreat.stepNames
open Go.ChangeShapes Go.WideShapes Go.ChangeAt Go.RowKit

theorem own : ownKnob Tryz.prog.godebug = none := by kernel_rfl

set_option maxRecDepth 100000 in
theorem lifted (os : Os) (started : os.Started) (H : Type) (enc : TypeId × Value → H) :
    ReturnsInHanded {} Tryz.checked os 5 .any (Rows.stepNamesSpec.pre6 enc Tryz.prog Tryz.f5 Rows.stepNamesRow.domain false) (Rows.stepNamesSpec.post enc Tryz.prog Tryz.f5 false true false false) := by
  refine returnsInHanded_of_change (C := Tryz.checked) own started (by kernel_rfl) Tryz.func5
    (ChangeSpec.witness6 (enc := enc) (C := Tryz.checked) false ⟨#[], #[], []⟩ 8 (by kernel_rfl) (by kernel_rfl) (by kernel_rfl) (by kernel_rfl)) ?_
  intro W base args ds gs before hval0 hW _ _
  refine Go.Av.law_contract (n := 4) (tb := 4) (by kernel_rfl) ?_ ?_ rfl Tryz.underlying4 rfl ?_ ?_ W base args ds gs before hval0 hW
  · intro t ht
    rw [Tryz.params5] at ht
    simp at ht
  · intro t ht
    rw [Tryz.params5] at ht
    simp at ht
  · intro ds hd
    rw [Tryz.params5] at hd
    match ds, hd with
    | [], _ => rfl
  · intro xs h
    rw [Tryz.params5] at h
    exact Go.Av.Tryz.StepNames_run xs h

theorem over : Rows.stepNamesRow.holds Tryz.pinned (OpenSpec.ofChange Rows.stepNamesSpec) :=
  OpenClaim.holds_of_wide 5 Tryz.f5 rfl rfl rfl rfl rfl rfl rfl ⟨rfl, rfl, rfl, rfl, rfl⟩ rfl rfl rfl rfl rfl (by kernel_rfl) Tryz.func5 (by kernel_rfl)
    (of_decide_eq_true (by kernel_rfl)) (by unfold Func.isWrapper; first | (rw [if_pos (by decide +kernel)]; kernel_rfl) | (rw [if_neg (by decide +kernel)]; exact ⟨rfl, rfl⟩))
    (fun os started H enc _ => lifted os started H enc)

theorem proved : Rows.StepNamesSaid :=
  over
end Go.Proofs.YtodebpebcehogaaGreat.stepNames
