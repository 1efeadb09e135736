/- For every query, records and mark the law AggOrder of layer 32 (the order of records between two marks does not matter) returns true, and does not panic. -/
import Derived.Test.YtkjlgmgfhgamlaaGreatRows
import Derived.Test.YtkjlgmgfhgamlaaGreatDLawAggOrderZ
import Derived.WalkKit
import Derived.ProofKit
import Derived.OpenShut
set_option linter.all false
namespace Go.Proofs.YtkjlgmgfhgamlaaGreat.aggOrder
open Go.ChangeShapes Go.WideShapes Go.ChangeAt Go.RowKit

theorem own : ownKnob Tryz.prog.godebug = none := by kernel_rfl

set_option maxRecDepth 100000 in
theorem lifted (os : Os) (started : os.Started) (H : Type) (enc : TypeId × Value → H) :
    ReturnsInHanded {} Tryz.checked os 5 .any (Rows.aggOrderSpec.pre6 enc Tryz.prog Tryz.f5 Rows.aggOrderRow.domain false) (Rows.aggOrderSpec.post enc Tryz.prog Tryz.f5 false true false false) := by
  refine returnsInHanded_of_change (C := Tryz.checked) own started (by kernel_rfl) Tryz.func5
    (ChangeSpec.witness6 (enc := enc) (C := Tryz.checked) false ⟨#[], #[.agg #[.int .u8 0, .slice none 0 0, .slice none 0 0, .bool false, .slice none 0 0, .int .u8 0, .int .i64 0, .int .i64 0, .bool false, .int .u8 0], .slice none 0 0, .int .i64 0], []⟩ 8 (by kernel_rfl) (by kernel_rfl) (by kernel_rfl) (by kernel_rfl)) ?_
  intro W base args ds gs before hval0 hW _ _
  refine Go.Av.law_contract (n := 4) (tb := 4) (by kernel_rfl) ?_ ?_ rfl Tryz.underlying4 rfl ?_ ?_ W base args ds gs before hval0 hW
  · intro t ht
    rw [Tryz.params5] at ht
    simp at ht
    rcases ht with rfl | rfl | rfl
    all_goals kernel_rfl
  · intro t ht
    rw [Tryz.params5] at ht
    simp at ht
    rcases ht with rfl | rfl | rfl
    all_goals exact ⟨by kernel_rfl, by decide +kernel⟩
  · intro ds hd
    rw [Tryz.params5] at hd
    match ds, hd with
    | [_, _, _], _ => rfl
  · intro xs h
    rw [Tryz.params5] at h
    exact Go.Av.Tryz.AggOrder_run xs h

theorem over : Rows.aggOrderRow.holds Tryz.pinned (OpenSpec.ofChange Rows.aggOrderSpec) :=
  OpenClaim.holds_of_wide 5 Tryz.f5 rfl rfl rfl rfl rfl rfl rfl ⟨rfl, rfl, rfl, rfl, rfl⟩ rfl rfl rfl rfl rfl (by kernel_rfl) Tryz.func5 (by kernel_rfl)
    (of_decide_eq_true (by kernel_rfl)) (by unfold Func.isWrapper; first | (rw [if_pos (by decide +kernel)]; kernel_rfl) | (rw [if_neg (by decide +kernel)]; exact ⟨rfl, rfl⟩))
    (fun os started H enc _ => lifted os started H enc)

theorem proved : Rows.AggOrderSaid :=
  over
end Go.Proofs.YtkjlgmgfhgamlaaGreat.aggOrder
