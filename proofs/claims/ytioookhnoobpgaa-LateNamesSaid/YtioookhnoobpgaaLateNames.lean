/- 'tailwaterlaw20.LateNames' answers true, whatever the input: it has no parameters; its run is computed over abstract values, by an evaluator that is proved sound. No conditions. -/
import Derived.Test.YtioookhnoobpgaaRows
import Derived.Test.YtioookhnoobpgaaAvTabs
import Derived.WalkKit
import Derived.ProofKit
import Derived.OpenShut
namespace Go.Proofs.Ytioookhnoobpgaa.lateNames
open Go.ChangeShapes Go.WideShapes Go.ChangeAt Go.RowKit

theorem own : ownKnob Try.prog.godebug = none := by kernel_rfl

theorem run : Go.Av.Pure Try.prog 5 [] (.sc (.bool true)) :=
  Go.Av.run_pure (k := 1000) (d := 20) Go.Av.Try.tyTab_ok Go.Av.Try.fnTab_ok (by kernel_rfl)

set_option maxRecDepth 100000 in
theorem lifted (os : Os) (started : os.Started) (H : Type) (enc : TypeId × Value → H) :
    ReturnsInHanded {} Try.checked os 5 .any (Rows.lateNamesSpec.pre6 enc Try.prog Try.f5 Rows.lateNamesRow.domain false) (Rows.lateNamesSpec.post enc Try.prog Try.f5 false true false false) := by
  refine returnsInHanded_of_change (C := Try.checked) own started (by kernel_rfl) Try.func5
    (ChangeSpec.witness6 (enc := enc) (C := Try.checked) false ⟨#[], #[], []⟩ 8 (by kernel_rfl) (by kernel_rfl) (by kernel_rfl) (by kernel_rfl)) ?_
  intro W base args ds gs before hval0 hW _ _
  refine Go.Av.law_contract (n := 4) (tb := 4) (by kernel_rfl) ?_ ?_ rfl Try.underlying4 rfl ?_ ?_ W base args ds gs before hval0 hW
  · intro t ht
    rw [Try.params5] at ht
    simp at ht
  · intro t ht
    rw [Try.params5] at ht
    simp at ht
  · intro ds hd
    rw [Try.params5] at hd
    obtain rfl : ds = [] := List.length_eq_zero_iff.1 hd
    rfl
  · intro xs h
    rw [Try.params5] at h
    cases h
    exact run

theorem over : Rows.lateNamesRow.holds Try.pinned (OpenSpec.ofChange Rows.lateNamesSpec) :=
  OpenClaim.holds_of_wide 5 Try.f5 rfl rfl rfl rfl rfl rfl rfl ⟨rfl, rfl, rfl, rfl, rfl⟩ rfl rfl rfl rfl rfl (by kernel_rfl) Try.func5 (by kernel_rfl)
    (of_decide_eq_true (by kernel_rfl)) (by unfold Func.isWrapper; first | (rw [if_pos (by decide +kernel)]; kernel_rfl) | (rw [if_neg (by decide +kernel)]; exact ⟨rfl, rfl⟩))
    (fun os started H enc _ => lifted os started H enc)

theorem proved : Rows.LateNamesSaid :=
  over
end Go.Proofs.Ytioookhnoobpgaa.lateNames
