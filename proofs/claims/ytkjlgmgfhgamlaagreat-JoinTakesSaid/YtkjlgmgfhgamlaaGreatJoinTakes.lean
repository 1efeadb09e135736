/- For every query, task, input, message, number and entry the law JoinTakes of layer 33 (results equal the reference) returns true, and does not panic. -/
import Derived.Test.YtkjlgmgfhgamlaaGreatRows
import Derived.Test.YtkjlgmgfhgamlaaGreatDLawJoinTakesZ
import Derived.WalkKit
import Derived.ProofKit
import Derived.OpenShut
set_option linter.all false
namespace Go.Proofs.YtkjlgmgfhgamlaaGreat.joinTakes
open Go.ChangeShapes Go.WideShapes Go.ChangeAt Go.RowKit

theorem own : ownKnob Tryz.prog.godebug = none := by kernel_rfl

set_option maxRecDepth 100000 in
theorem lifted (os : Os) (started : os.Started) (H : Type) (enc : TypeId × Value → H) :
    ReturnsInHanded {} Tryz.checked os 7 .any (Rows.joinTakesSpec.pre6 enc Tryz.prog Tryz.f7 Rows.joinTakesRow.domain false) (Rows.joinTakesSpec.post enc Tryz.prog Tryz.f7 false true false false) := by
  refine returnsInHanded_of_change (C := Tryz.checked) own started (by kernel_rfl) Tryz.func7
    (ChangeSpec.witness6 (enc := enc) (C := Tryz.checked) false ⟨#[], #[.agg #[.int .u8 0, .slice none 0 0, .slice none 0 0, .bool false, .slice none 0 0, .int .u8 0, .int .i64 0, .int .i64 0, .bool false, .int .u8 0], .agg #[.int .u8 0, .int .i64 0, .int .i64 0, .slice none 0 0, .slice none 0 0, .slice none 0 0, .slice none 0 0, .slice none 0 0, .slice none 0 0], .int .i64 0, .agg #[.int .u8 0, .int .i64 0, .int .i64 0, .int .i64 0, .int .i64 0, .int .i64 0, .int .i64 0, .int .i64 0, .int .i64 0, .int .i64 0], .int .i64 0, .agg #[.int .i64 0, .int .i64 0, .int .i64 0, .int .i64 0, .int .i64 0, .int .i64 0, .int .i64 0, .int .i64 0, .int .i64 0, .int .i64 0, .int .i64 0]], []⟩ 8 (by kernel_rfl) (by kernel_rfl) (by kernel_rfl) (by kernel_rfl)) ?_
  intro W base args ds gs before hval0 hW _ _
  refine Go.Av.law_contract (n := 7) (tb := 4) (by kernel_rfl) ?_ ?_ rfl Tryz.underlying4 rfl ?_ ?_ W base args ds gs before hval0 hW
  · intro t ht
    rw [Tryz.params7] at ht
    simp at ht
    rcases ht with rfl | rfl | rfl | rfl | rfl | rfl
    all_goals kernel_rfl
  · intro t ht
    rw [Tryz.params7] at ht
    simp at ht
    rcases ht with rfl | rfl | rfl | rfl | rfl | rfl
    all_goals exact ⟨by kernel_rfl, by decide +kernel⟩
  · intro ds hd
    rw [Tryz.params7] at hd
    match ds, hd with
    | [_, _, _, _, _, _], _ => rfl
  · intro xs h
    rw [Tryz.params7] at h
    exact Go.Av.Tryz.JoinTakes_run xs h

theorem over : Rows.joinTakesRow.holds Tryz.pinned (OpenSpec.ofChange Rows.joinTakesSpec) :=
  OpenClaim.holds_of_wide 7 Tryz.f7 rfl rfl rfl rfl rfl rfl rfl ⟨rfl, rfl, rfl, rfl, rfl⟩ rfl rfl rfl rfl rfl (by kernel_rfl) Tryz.func7 (by kernel_rfl)
    (of_decide_eq_true (by kernel_rfl)) (by unfold Func.isWrapper; first | (rw [if_pos (by decide +kernel)]; kernel_rfl) | (rw [if_neg (by decide +kernel)]; exact ⟨rfl, rfl⟩))
    (fun os started H enc _ => lifted os started H enc)

theorem proved : Rows.JoinTakesSaid :=
  over
end Go.Proofs.YtkjlgmgfhgamlaaGreat.joinTakes
