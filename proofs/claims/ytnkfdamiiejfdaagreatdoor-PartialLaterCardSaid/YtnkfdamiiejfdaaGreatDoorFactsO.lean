/- PartialLater: the closed facts of its program and its row. -/
import Derived.Test.YtnkfdamiiejfdaaGreatDoorRows
import Derived.Test.YtnkfdamiiejfdaaGreatDoorCards
import Derived.Test.YtnkfdamiiejfdaaGreatDoorOwn
import Derived.WalkKit
import Derived.ProofKit
import Derived.OpenShut
import Derived.LaidMore
import Derived.Lay
import Derived.SevenTiedAt
import Derived.Stop.Joined
import GoSem.ClaimGoes
set_option linter.all false
namespace Go.Proofs.YtnkfdamiiejfdaaGreatDoor.partialLater
open Go.ChangeShapes Go.WideShapes Go.ChangeAt Go.RowKit
theorem goesBy_none {P : Program} {c : OpenClaim} (h : P.funcs.any Func.goes = false) (hs : c.start = .entering) : false = c.goesBy P := by
  have h1 : ∀ g : Nat, (P.funcs[g]?).any Func.goes = false := by
    intro g
    cases hg : P.funcs[g]? with
    | none => rfl
    | some fn =>
      obtain ⟨hlt, he⟩ := Array.getElem?_eq_some_iff.1 hg
      have := (Array.any_eq_false.1 h) g hlt
      rw [he] at this
      simpa using this
  have h2 : ∀ f, P.goes f = false := by
    intro f
    unfold Program.goes
    rw [h, Bool.and_false, Bool.or_false]
    simp only [h1]
    simp
  unfold OpenClaim.goesBy Program.goesAt Program.goesFrom
  rw [hs]
  cases P.funcNamed c.func with
  | none => rfl
  | some f => simp [h2]

def Lift : Prop := ∀ (os : Os) (started : os.Started) (H : Type) (enc : TypeId × Value → H),
    ReturnsInHanded {} Tryz.checked os 3 .any (fun w args => (Rows.partialLaterSpec.pre enc Tryz.prog Tryz.f3 Rows.partialLaterRow.domain false w args ∧ laidMetH Tryz.prog Rows.partialLaterRow.laid w) ∧ sizedMet enc Tryz.prog Tryz.f3 (OpenSpec.ofChange Rows.partialLaterSpec) false w args)
      (Rows.partialLaterSpec.post enc Tryz.prog Tryz.f3 false true false false)
set_option maxHeartbeats 40000000 in
set_option maxRecDepth 100000 in
theorem closed : joinedFacts Tryz.pinned.checked.prog 3 Tryz.f3 Rows.partialLaterSpec Rows.partialLaterRow = true := by
  unfold joinedFacts
  simp only [Bool.and_eq_true]
  repeat' apply And.intro
  all_goals as_aux_lemma => kernel_rfl
set_option maxHeartbeats 40000000 in
set_option maxRecDepth 100000 in
theorem over_of (lifted : Lift) : Rows.partialLaterRow.holds Tryz.pinned (OpenSpec.ofChange Rows.partialLaterSpec) :=
  OpenClaim.holds_of_wide 3 Tryz.f3 rfl rfl rfl rfl rfl rfl rfl ⟨rfl, rfl, rfl, rfl, rfl⟩ rfl rfl rfl rfl rfl (by as_aux_lemma => kernel_rfl) Tryz.func3 closed
    (of_decide_eq_true (by as_aux_lemma => kernel_rfl)) (by unfold Func.isWrapper; first | (rw [if_pos (by decide +kernel)]; kernel_rfl) | (rw [if_neg (by decide +kernel)]; exact ⟨rfl, rfl⟩))
    (fun os started H enc _ => lifted os started H enc)

set_option maxHeartbeats 40000000 in
set_option maxRecDepth 100000 in
theorem proved_of (lifted : Lift) : Rows.PartialLaterCardSaid :=
  Claim7.holds_tied_plain_at .later [] [.pinned, .data, .sentinel, .sentinel, .data, .data, .data, .data, .listed] true (true, "9b3a0c796b69b5fdf7bd58d4eedfad4456a63841604720adcaffb44b8b6baf98") true (over_of lifted) (fun _ h => by cases h) (by as_aux_lemma => kernel_rfl) (fun _ h => by cases h) partialLater_row_tie rfl ⟨rfl, rfl⟩ (by as_aux_lemma => kernel_rfl) rfl
    (fun f fn hf hfn => by
      obtain rfl : f = 3 := Option.some.inj ((show Tryz.prog.funcNamed "tailwater/tailwaterlaw42.PartialLater" = some 3 by as_aux_lemma => kernel_rfl).symm.trans hf) |>.symm
      obtain rfl : fn = Tryz.f3 := (Option.some.inj (Tryz.func3.symm.trans hfn)).symm
      exact ⟨by as_aux_lemma => kernel_rfl, fun j t ht => by
        rw [Tryz.params3] at ht
        have hm : t ∈ [27, 28, 2, 2] := by simpa using Array.mem_of_getElem? ht
        have hall : ([27, 28, 2, 2].all fun u => !Tryz.prog.wantsStandIn u) = true := by kernel_rfl
        exact (show Tryz.prog.wantsStandIn t = false by simpa using List.all_eq_true.1 hall t hm)⟩)
    (goesBy_none (by as_aux_lemma => kernel_rfl) rfl)
end Go.Proofs.YtnkfdamiiejfdaaGreatDoor.partialLater
