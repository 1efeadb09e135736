/- For every query, input and record the law MeaningLate of layer 21 (late records change no row) returns true, and does not panic. -/
import Derived.Test.YtdpeaabenapeaaaGreatRows
import Derived.Test.YtdpeaabenapeaaaGreatDLawMeaningLateZ
import Derived.WalkKit
import Derived.ProofKit
import Derived.OpenShut
set_option linter.all false
namespace Go.Proofs.YtdpeaabenapeaaaGreat.meaningLate
open Go.ChangeShapes Go.WideShapes Go.ChangeAt Go.RowKit

theorem own : ownKnob Tryz.prog.godebug = none := by kernel_rfl

set_option maxRecDepth 100000 in
theorem lifted (os : Os) (started : os.Started) (H : Type) (enc : TypeId × Value → H) :
    ReturnsInHanded {} Tryz.checked os 3 .any (Rows.meaningLateSpec.pre6 enc Tryz.prog Tryz.f3 Rows.meaningLateRow.domain false) (Rows.meaningLateSpec.post enc Tryz.prog Tryz.f3 false true false false) := by
  refine returnsInHanded_of_change (C := Tryz.checked) own started (by kernel_rfl) Tryz.func3
    (ChangeSpec.witness6 (enc := enc) (C := Tryz.checked) false ⟨#[], #[.agg #[.int .u8 0, .slice none 0 0, .slice none 0 0, .bool false, .slice none 0 0, .int .u8 0, .int .i64 0, .int .i64 0, .bool false, .int .u8 0], .slice none 0 0, .agg #[.int .i64 0, .int .i64 0, .int .i64 0]], []⟩ 8 (by kernel_rfl) (by kernel_rfl) (by kernel_rfl) (by kernel_rfl)) ?_
  intro W base args ds gs before hval0 hW _ _
  refine Go.Av.law_contract (n := 5) (tb := 4) (by kernel_rfl) ?_ ?_ rfl Tryz.underlying4 rfl ?_ ?_ W base args ds gs before hval0 hW
  · intro t ht
    rw [Tryz.params3] at ht
    simp at ht
    rcases ht with rfl | rfl | rfl
    all_goals kernel_rfl
  · intro t ht
    rw [Tryz.params3] at ht
    simp at ht
    rcases ht with rfl | rfl | rfl
    all_goals exact ⟨by kernel_rfl, by decide +kernel⟩
  · intro ds hd
    rw [Tryz.params3] at hd
    match ds, hd with
    | [_, _, _], _ => rfl
  · intro xs h
    rw [Tryz.params3] at h
    exact Go.Av.Tryz.MeaningLate_run xs h

theorem over : Rows.meaningLateRow.holds Tryz.pinned (OpenSpec.ofChange Rows.meaningLateSpec) :=
  OpenClaim.holds_of_wide 3 Tryz.f3 rfl rfl rfl rfl rfl rfl rfl ⟨rfl, rfl, rfl, rfl, rfl⟩ rfl rfl rfl rfl rfl (by kernel_rfl) Tryz.func3 (by kernel_rfl)
    (of_decide_eq_true (by kernel_rfl)) (by unfold Func.isWrapper; first | (rw [if_pos (by decide +kernel)]; kernel_rfl) | (rw [if_neg (by decide +kernel)]; exact ⟨rfl, rfl⟩))
    (fun os started H enc _ => lifted os started H enc)

theorem proved : Rows.MeaningLateSaid :=
  over
end Go.Proofs.YtdpeaabenapeaaaGreat.meaningLate
