/- For every machine the law PartialTells of layer 42 (Rest and Mark return what the reference returns, and do not modify the machine; machines that are great are passed by) returns true, and does not panic. -/
import Derived.Test.YtmkegegjcihooaaGreatRows
import Derived.Test.YtmkegegjcihooaaGreatDLawPartialTellsZ
import Derived.WalkKit
import Derived.ProofKit
import Derived.OpenShut
import Derived.LaidMore
import Derived.Lay
import Derived.SevenTiedAt
import Derived.Stop.Joined
set_option linter.all false
namespace Go.Proofs.YtmkegegjcihooaaGreat.partialTells
open Go.ChangeShapes Go.WideShapes Go.ChangeAt Go.RowKit

theorem own : ownKnob Tryz.prog.godebug = none := by kernel_rfl

set_option maxRecDepth 100000 in
theorem lifted (os : Os) (started : os.Started) (H : Type) (enc : TypeId × Value → H) :
    ReturnsInHanded {} Tryz.checked os 3 .any (Rows.partialTellsSpec.pre6 enc Tryz.prog Tryz.f3 Rows.partialTellsRow.domain false) (Rows.partialTellsSpec.post enc Tryz.prog Tryz.f3 false true false false) := by
  refine returnsInHanded_of_change (C := Tryz.checked) own started (by kernel_rfl) Tryz.func3
    (ChangeSpec.witness6 (enc := enc) (C := Tryz.checked) false ⟨#[], #[.agg #[.int .u8 0, .slice none 0 0, .slice none 0 0, .bool false, .slice none 0 0, .int .u8 0, .int .i64 0, .int .i64 0, .bool false, .int .u8 0, .slice none 0 0, .slice none 0 0, .slice none 0 0, .slice none 0 0]], []⟩ 8 (by kernel_rfl) (by kernel_rfl) (by kernel_rfl) (by kernel_rfl)) ?_
  intro W base args ds gs before hval0 hW _ _
  refine Go.Av.law_contract (n := 9) (tb := 4) (by kernel_rfl) ?_ ?_ rfl Tryz.underlying4 rfl ?_ ?_ W base args ds gs before hval0 hW
  · intro t ht
    rw [Tryz.params3] at ht
    simp at ht
    rcases ht with rfl
    all_goals kernel_rfl
  · intro t ht
    rw [Tryz.params3] at ht
    simp at ht
    rcases ht with rfl
    all_goals exact ⟨by kernel_rfl, by decide +kernel⟩
  · intro ds hd
    rw [Tryz.params3] at hd
    match ds, hd with
    | [_], _ => rfl
  · intro xs h
    rw [Tryz.params3] at h
    exact Go.Av.Tryz.PartialTells_run xs h

set_option maxHeartbeats 40000000 in
set_option maxRecDepth 100000 in
theorem closed : joinedFacts Tryz.pinned.checked.prog 3 Tryz.f3 Rows.partialTellsSpec Rows.partialTellsRow = true := by
  unfold joinedFacts
  simp only [Bool.and_eq_true]
  repeat' apply And.intro
  all_goals as_aux_lemma => kernel_rfl
set_option maxHeartbeats 40000000 in
set_option maxRecDepth 100000 in
theorem over : Rows.partialTellsRow.holds Tryz.pinned (OpenSpec.ofChange Rows.partialTellsSpec) :=
  OpenClaim.holds_of_wide 3 Tryz.f3 rfl rfl rfl rfl rfl rfl rfl ⟨rfl, rfl, rfl, rfl, rfl⟩ rfl rfl rfl rfl rfl (by as_aux_lemma => kernel_rfl) Tryz.func3 closed
    (of_decide_eq_true (by as_aux_lemma => kernel_rfl)) (by unfold Func.isWrapper; first | (rw [if_pos (by decide +kernel)]; kernel_rfl) | (rw [if_neg (by decide +kernel)]; exact ⟨rfl, rfl⟩))
    (fun os started H enc _ => lifted os started H enc)

theorem proved : Rows.PartialTellsSaid :=
  over
end Go.Proofs.YtmkegegjcihooaaGreat.partialTells
