/- PrefixNames: The law PrefixNames of layer 40 (it takes no argument: the queries that it names keep what the law says) returns true, and does not panic. -/
import Derived.Test.YtoodllakhlkekaaGreatDoorRows
import Derived.Test.YtoodllakhlkekaaGreatDoorCards
import Derived.Test.YtoodllakhlkekaaGreatDoorTie
import Derived.Test.YtoodllakhlkekaaGreatDoorDLawPrefixNames
import Derived.WalkKit
import Derived.ProofKit
import Derived.OpenShut
import Derived.LaidMore
import Derived.Lay
import Derived.SevenTiedAt
import Derived.Stop.Joined
import GoSem.ClaimGoes
set_option linter.all false
namespace Go.Proofs.YtoodllakhlkekaaGreatDoor.prefixNames
open Go.ChangeShapes Go.WideShapes Go.ChangeAt Go.RowKit Go.Av

theorem own : ownKnob Tryz.prog.godebug = none := by kernel_rfl
def zs : List Int := (List.range 256).map fun j => if j = 9 ∨ j = 10 ∨ j = 11 ∨ j = 12 ∨ j = 13 ∨ j = 32 then 1 else 0
theorem gl_eq : Go.Av.Tryz.gl.l = [(0, zs.map fun z => Value.int .u8 z)] := by kernel_rfl
theorem gf {W : World} (h : laidMetH Tryz.prog Rows.prefixNamesRow.laid W) : @GF Go.Av.Tryz.gl (lawCtx W) := by
  intro p hp
  rw [gl_eq] at hp
  obtain rfl := List.mem_singleton.1 hp
  have hb := byteRow_of_laid (g := 0) (t := 387) (tb := 5) (n := 256) (zs := zs) (name := "strings.asciiSpace") h (by kernel_rfl) (by kernel_rfl) (by kernel_rfl) (by kernel_rfl) Tryz.underlying387 Tryz.underlying5 (by kernel_rfl) (by kernel_rfl)
  refine ⟨?_, hb⟩
  have h0 := (hb 0 (.int .u8 0) (by kernel_rfl)).1
  exact World.block_lt_of_cell? _ _ h0

theorem goesBy_none {P : Program} {c : OpenClaim} (h : P.funcs.any Func.goes = false) (hs : c.start = .entering) : false = c.goesBy P := by
  have h1 : ∀ g : Nat, (P.funcs[g]?).any Func.goes = false := by
    intro g
    cases hg : P.funcs[g]? with
    | none => rfl
    | some fn =>
      obtain ⟨hlt, he⟩ := Array.getElem?_eq_some_iff.1 hg
      have := (Array.any_eq_false.1 h) g hlt
      rw [he] at this
      simpa using this
  have h2 : ∀ f, P.goes f = false := by
    intro f
    unfold Program.goes
    rw [h, Bool.and_false, Bool.or_false]
    simp only [h1]
    simp
  unfold OpenClaim.goesBy Program.goesAt Program.goesFrom
  rw [hs]
  cases P.funcNamed c.func with
  | none => rfl
  | some f => simp [h2]

set_option maxRecDepth 100000 in
theorem lifted (os : Os) (started : os.Started) (H : Type) (enc : TypeId × Value → H) :
    ReturnsInHanded {} Tryz.checked os 4 .any (fun w args => (Rows.prefixNamesSpec.pre enc Tryz.prog Tryz.f4 Rows.prefixNamesRow.domain false w args ∧ laidMetH Tryz.prog Rows.prefixNamesRow.laid w) ∧ sizedMet enc Tryz.prog Tryz.f4 (OpenSpec.ofChange Rows.prefixNamesSpec) false w args)
      (Rows.prefixNamesSpec.post enc Tryz.prog Tryz.f4 false true false false) := by
  refine returnsInHanded_of_change_and (C := Tryz.checked) (X := fun w _ => laidMetH Tryz.prog Rows.prefixNamesRow.laid w) (fun _ _ _ hh h => h.of_heap hh) own started (by kernel_rfl) Tryz.func4
    (ChangeSpec.witness_shaped (enc := enc) (C := Tryz.checked) (os := os) (X := fun w _ => laidMetH Tryz.prog Rows.prefixNamesRow.laid w) false (World.laidAll Tryz.prog os Rows.prefixNamesRow.laid) #[] 8 (World.laidAll_os _ _ _)
      (World.shaped_of_ZipB (by kernel_rfl) (by kernel_rfl)) (by kernel_rfl) (by kernel_rfl) (by kernel_rfl)
      (by rw [MakeChecks.laidMetH_plain _ _ _ (by kernel_rfl)]; exact laidMet_laidAll _ (by kernel_rfl) (by kernel_rfl))) ?_
  intro W base args ds gs before hval0 hW _ _ hL _
  refine @Go.Av.law_contractG _ _ _ Go.Av.Tryz.gl _ _ _ 4 4 (by kernel_rfl) ?_ ?_ rfl Tryz.underlying4 rfl ?_ ?_ W (gf hL) base args ds gs before hval0 hW
  · intro t ht
    rw [Tryz.params4] at ht
    simp at ht
  · intro t ht
    rw [Tryz.params4] at ht
    simp at ht
  · intro ds hd
    rw [Tryz.params4] at hd
    match ds, hd with
    | [], _ => rfl
  · intro xs h
    rw [Tryz.params4] at h
    exact Go.Av.Tryz.PrefixNames_run xs h

set_option maxHeartbeats 40000000 in
set_option maxRecDepth 100000 in
theorem closed : joinedFacts Tryz.pinned.checked.prog 4 Tryz.f4 Rows.prefixNamesSpec Rows.prefixNamesRow = true := by
  unfold joinedFacts
  simp only [Bool.and_eq_true]
  repeat' apply And.intro
  all_goals as_aux_lemma => kernel_rfl
set_option maxHeartbeats 40000000 in
set_option maxRecDepth 100000 in
theorem over : Rows.prefixNamesRow.holds Tryz.pinned (OpenSpec.ofChange Rows.prefixNamesSpec) :=
  OpenClaim.holds_of_wide 4 Tryz.f4 rfl rfl rfl rfl rfl rfl rfl ⟨rfl, rfl, rfl, rfl, rfl⟩ rfl rfl rfl rfl rfl (by as_aux_lemma => kernel_rfl) Tryz.func4 closed
    (of_decide_eq_true (by as_aux_lemma => kernel_rfl)) (by unfold Func.isWrapper; first | (rw [if_pos (by decide +kernel)]; kernel_rfl) | (rw [if_neg (by decide +kernel)]; exact ⟨rfl, rfl⟩))
    (fun os started H enc _ => lifted os started H enc)

set_option maxHeartbeats 40000000 in
set_option maxRecDepth 100000 in
theorem proved : Rows.PrefixNamesCardSaid :=
  Claim7.holds_tied_plain_at .later [] [.data, .data, .data, .data, .sentinel, .sentinel, .listed, .data, .pinned] true (true, "b8a834ebe9d8c321da57ac53355956df59ee2868f27d907bda34700786fbc4f9") true over (fun _ h => by cases h) (by as_aux_lemma => kernel_rfl) (fun _ h => by cases h) prefixNames_row_tie rfl ⟨rfl, rfl⟩ (by as_aux_lemma => kernel_rfl) rfl
    (fun f fn hf hfn => by
      obtain rfl : f = 4 := Option.some.inj ((show Tryz.prog.funcNamed "tailwater/tailwaterlaw40.PrefixNames" = some 4 by as_aux_lemma => kernel_rfl).symm.trans hf) |>.symm
      obtain rfl : fn = Tryz.f4 := (Option.some.inj (Tryz.func4.symm.trans hfn)).symm
      exact ⟨by as_aux_lemma => kernel_rfl, fun j t ht => by
        rw [Tryz.params4] at ht
        cases (Array.getElem?_eq_some_iff.1 ht).1⟩)
    (goesBy_none (by as_aux_lemma => kernel_rfl) rfl)
end Go.Proofs.YtoodllakhlkekaaGreatDoor.prefixNames
