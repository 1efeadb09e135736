/- FinalNames: the closed facts of its program and its row. -/
import Derived.Test.YtmodjehiebcejaaGreatDoorRows
import Derived.Test.YtmodjehiebcejaaGreatDoorCards
import Derived.Test.YtmodjehiebcejaaGreatDoorOwn
import Derived.WalkKit
import Derived.ProofKit
import Derived.OpenShut
import Derived.LaidMore
import Derived.Lay
import Derived.SevenTiedAt
import Derived.Stop.Joined
import GoSem.ClaimGoes
set_option linter.all false
namespace Go.Proofs.YtmodjehiebcejaaGreatDoor.finalNames
open Go.ChangeShapes Go.WideShapes Go.ChangeAt Go.RowKit
theorem goesBy_none {P : Program} {c : OpenClaim} (h : P.funcs.any Func.goes = false) (hs : c.start = .entering) : false = c.goesBy P := by
  have h1 : ∀ g : Nat, (P.funcs[g]?).any Func.goes = false := by
    intro g
    cases hg : P.funcs[g]? with
    | none => rfl
    | some fn =>
      obtain ⟨hlt, he⟩ := Array.getElem?_eq_some_iff.1 hg
      have := (Array.any_eq_false.1 h) g hlt
      rw [he] at this
      simpa using this
  have h2 : ∀ f, P.goes f = false := by
    intro f
    unfold Program.goes
    rw [h, Bool.and_false, Bool.or_false]
    simp only [h1]
    simp
  unfold OpenClaim.goesBy Program.goesAt Program.goesFrom
  rw [hs]
  cases P.funcNamed c.func with
  | none => rfl
  | some f => simp [h2]

def Lift : Prop := ∀ (os : Os) (started : os.Started) (H : Type) (enc : TypeId × Value → H),
    ReturnsInHanded {} Tryz.checked os 4 .any (fun w args => (Rows.finalNamesSpec.pre enc Tryz.prog Tryz.f4 Rows.finalNamesRow.domain false w args ∧ laidMetH Tryz.prog Rows.finalNamesRow.laid w) ∧ sizedMet enc Tryz.prog Tryz.f4 (OpenSpec.ofChange Rows.finalNamesSpec) false w args)
      (Rows.finalNamesSpec.post enc Tryz.prog Tryz.f4 false true false false)
set_option maxHeartbeats 40000000 in
set_option maxRecDepth 100000 in
theorem closed : joinedFacts Tryz.pinned.checked.prog 4 Tryz.f4 Rows.finalNamesSpec Rows.finalNamesRow = true := by
  unfold joinedFacts
  simp only [Bool.and_eq_true]
  repeat' apply And.intro
  all_goals as_aux_lemma => kernel_rfl
set_option maxHeartbeats 40000000 in
set_option maxRecDepth 100000 in
theorem over_of (lifted : Lift) : Rows.finalNamesRow.holds Tryz.pinned (OpenSpec.ofChange Rows.finalNamesSpec) :=
  OpenClaim.holds_of_wide 4 Tryz.f4 rfl rfl rfl rfl rfl rfl rfl ⟨rfl, rfl, rfl, rfl, rfl⟩ rfl rfl rfl rfl rfl (by as_aux_lemma => kernel_rfl) Tryz.func4 closed
    (of_decide_eq_true (by as_aux_lemma => kernel_rfl)) (by unfold Func.isWrapper; first | (rw [if_pos (by decide +kernel)]; kernel_rfl) | (rw [if_neg (by decide +kernel)]; exact ⟨rfl, rfl⟩))
    (fun os started H enc _ => lifted os started H enc)

set_option maxHeartbeats 40000000 in
set_option maxRecDepth 100000 in
theorem proved_of (lifted : Lift) : Rows.FinalNamesCardSaid :=
  Claim7.holds_tied_plain_at .later [] [.pinned, .data, .sentinel, .sentinel, .data, .data, .data, .data, .listed] true (true, "1a7a8abc5a8453bbb08f9d36c923799514c4aa8fe081822b57968b7ec3b1c1a8") true (over_of lifted) (fun _ h => by cases h) (by as_aux_lemma => kernel_rfl) (fun _ h => by cases h) finalNames_row_tie rfl ⟨rfl, rfl⟩ (by as_aux_lemma => kernel_rfl) rfl
    (fun f fn hf hfn => by
      obtain rfl : f = 4 := Option.some.inj ((show Tryz.prog.funcNamed "tailwater/tailwaterlaw41.FinalNames" = some 4 by as_aux_lemma => kernel_rfl).symm.trans hf) |>.symm
      obtain rfl : fn = Tryz.f4 := (Option.some.inj (Tryz.func4.symm.trans hfn)).symm
      exact ⟨by as_aux_lemma => kernel_rfl, fun j t ht => by
        rw [Tryz.params4] at ht
        cases (Array.getElem?_eq_some_iff.1 ht).1⟩)
    (goesBy_none (by as_aux_lemma => kernel_rfl) rfl)
end Go.Proofs.YtmodjehiebcejaaGreatDoor.finalNames
