/- For every query and rule the law RewriteTells of layer 23 (the program's rewrites are the reference's) returns true, and does not panic. -/
import Derived.Test.YtiabgnmhobiooaaRows
import Derived.Test.YtiabgnmhobiooaaDLawRewriteTellsZ
import Derived.WalkKit
import Derived.ProofKit
import Derived.OpenShut
set_option linter.all false
namespace Go.Proofs.Ytiabgnmhobiooaa.rewriteTells
open Go.ChangeShapes Go.WideShapes Go.ChangeAt Go.RowKit

theorem own : ownKnob Try.prog.godebug = none := by kernel_rfl

set_option maxRecDepth 100000 in
theorem lifted (os : Os) (started : os.Started) (H : Type) (enc : TypeId × Value → H) :
    ReturnsInHanded {} Try.checked os 3 .any (Rows.rewriteTellsSpec.pre6 enc Try.prog Try.f3 Rows.rewriteTellsRow.domain false) (Rows.rewriteTellsSpec.post enc Try.prog Try.f3 false true false false) := by
  refine returnsInHanded_of_change (C := Try.checked) own started (by kernel_rfl) Try.func3
    (ChangeSpec.witness6 (enc := enc) (C := Try.checked) false ⟨#[], #[.agg #[.int .u8 0, .slice none 0 0, .slice none 0 0, .bool false, .slice none 0 0, .int .u8 0, .int .i64 0, .int .i64 0, .bool false, .int .u8 0], .int .i64 0], []⟩ 8 (by kernel_rfl) (by kernel_rfl) (by kernel_rfl) (by kernel_rfl)) ?_
  intro W base args ds gs before hval0 hW _ _
  refine Go.Av.law_contract (n := 4) (tb := 4) (by kernel_rfl) ?_ ?_ rfl Try.underlying4 rfl ?_ ?_ W base args ds gs before hval0 hW
  · intro t ht
    rw [Try.params3] at ht
    simp at ht
    rcases ht with rfl | rfl
    all_goals kernel_rfl
  · intro t ht
    rw [Try.params3] at ht
    simp at ht
    rcases ht with rfl | rfl
    all_goals exact ⟨by kernel_rfl, by decide +kernel⟩
  · intro ds hd
    rw [Try.params3] at hd
    match ds, hd with
    | [_, _], _ => rfl
  · intro xs h
    rw [Try.params3] at h
    exact Go.Av.Try.RewriteTells_run xs h

theorem over : Rows.rewriteTellsRow.holds Try.pinned (OpenSpec.ofChange Rows.rewriteTellsSpec) :=
  OpenClaim.holds_of_wide 3 Try.f3 rfl rfl rfl rfl rfl rfl rfl ⟨rfl, rfl, rfl, rfl, rfl⟩ rfl rfl rfl rfl rfl (by kernel_rfl) Try.func3 (by kernel_rfl)
    (of_decide_eq_true (by kernel_rfl)) (by unfold Func.isWrapper; first | (rw [if_pos (by decide +kernel)]; kernel_rfl) | (rw [if_neg (by decide +kernel)]; exact ⟨rfl, rfl⟩))
    (fun os started H enc _ => lifted os started H enc)

theorem proved : Rows.RewriteTellsSaid :=
  over
end Go.Proofs.Ytiabgnmhobiooaa.rewriteTells
