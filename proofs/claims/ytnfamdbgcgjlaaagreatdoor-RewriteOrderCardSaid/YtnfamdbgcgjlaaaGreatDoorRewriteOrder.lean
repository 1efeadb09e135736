/- RewriteOrder: For every query and every two rules the law RewriteOrder of layer 23 (the rules may be applied in any order) returns true, and does not panic. -/
import Derived.Test.YtnfamdbgcgjlaaaGreatDoorRows
import Derived.Test.YtnfamdbgcgjlaaaGreatDoorCards
import Derived.Test.YtnfamdbgcgjlaaaGreatDoorTie
import Derived.Test.YtnfamdbgcgjlaaaGreatDoorDLawRewriteOrderZ
import Derived.WalkKit
import Derived.ProofKit
import Derived.OpenShut
import Derived.LaidMore
import Derived.Lay
import Derived.SevenTiedAt
import Derived.Stop.Joined
set_option linter.all false
namespace Go.Proofs.YtnfamdbgcgjlaaaGreatDoor.rewriteOrder
open Go.ChangeShapes Go.WideShapes Go.ChangeAt Go.RowKit Go.Av

theorem own : ownKnob Tryz.prog.godebug = none := by kernel_rfl
def zs : List Int := (List.range 256).map fun j => if j = 9 ∨ j = 10 ∨ j = 11 ∨ j = 12 ∨ j = 13 ∨ j = 32 then 1 else 0
theorem gl_eq : Go.Av.Tryz.gl.l = [(2, zs.map fun z => Value.int .u8 z)] := by kernel_rfl
theorem gf {W : World} (h : laidMetH Tryz.prog Rows.rewriteOrderRow.laid W) : @GF Go.Av.Tryz.gl (lawCtx W) := by
  intro p hp
  rw [gl_eq] at hp
  obtain rfl := List.mem_singleton.1 hp
  have hb := byteRow_of_laid (g := 2) (t := 230) (tb := 5) (n := 256) (zs := zs) (name := "strings.asciiSpace") h (by kernel_rfl) (by kernel_rfl) (by kernel_rfl) (by kernel_rfl) Tryz.underlying230 Tryz.underlying5 (by kernel_rfl) (by kernel_rfl)
  refine ⟨?_, hb⟩
  have h0 := (hb 0 (.int .u8 0) (by kernel_rfl)).1
  exact World.block_lt_of_cell? _ _ h0

set_option maxRecDepth 100000 in
theorem lifted (os : Os) (started : os.Started) (H : Type) (enc : TypeId × Value → H) :
    ReturnsInHanded {} Tryz.checked os 5 .any (fun w args => (Rows.rewriteOrderSpec.pre enc Tryz.prog Tryz.f5 Rows.rewriteOrderRow.domain false w args ∧ laidMetH Tryz.prog Rows.rewriteOrderRow.laid w) ∧ sizedMet enc Tryz.prog Tryz.f5 (OpenSpec.ofChange Rows.rewriteOrderSpec) false w args)
      (Rows.rewriteOrderSpec.post enc Tryz.prog Tryz.f5 false true false false) := by
  refine returnsInHanded_of_change_and (C := Tryz.checked) (X := fun w _ => laidMetH Tryz.prog Rows.rewriteOrderRow.laid w) (fun _ _ _ hh h => h.of_heap hh) own started (by kernel_rfl) Tryz.func5
    (ChangeSpec.witness_shaped (enc := enc) (C := Tryz.checked) (os := os) (X := fun w _ => laidMetH Tryz.prog Rows.rewriteOrderRow.laid w) false (World.laidAll Tryz.prog os Rows.rewriteOrderRow.laid) #[.agg #[.int .u8 0, .slice none 0 0, .slice none 0 0, .bool false, .slice none 0 0, .int .u8 0, .int .i64 0, .int .i64 0, .bool false, .int .u8 0], .int .i64 0, .int .i64 0] 8 (World.laidAll_os _ _ _)
      (World.shaped_of_ZipB (by kernel_rfl) (by kernel_rfl)) (by kernel_rfl) (by kernel_rfl) (by kernel_rfl)
      (by rw [MakeChecks.laidMetH_plain _ _ _ (by kernel_rfl)]; exact laidMet_laidAll _ (by kernel_rfl) (by kernel_rfl))) ?_
  intro W base args ds gs before hval0 hW _ _ hL _
  refine @Go.Av.law_contractG _ _ _ Go.Av.Tryz.gl _ _ _ 4 4 (by kernel_rfl) ?_ ?_ rfl Tryz.underlying4 rfl ?_ ?_ W (gf hL) base args ds gs before hval0 hW
  · intro t ht
    rw [Tryz.params5] at ht
    have hm : t ∈ [28, 3] := by simpa using ht
    have hall : ([28, 3].all fun u => X7y Tryz.prog 4 u) = true := by kernel_rfl
    exact List.all_eq_true.1 hall t hm
  · intro t ht
    rw [Tryz.params5] at ht
    have hm : t ∈ [28, 3] := by simpa using ht
    have hall : ([28, 3].all fun u => Tryz.prog.readableRec u) = true := by kernel_rfl
    have hall2 : ([28, 3].all fun u => Nat.ble (u + 1) Tryz.prog.types.size) = true := by kernel_rfl
    exact ⟨List.all_eq_true.1 hall t hm, Nat.le_of_ble_eq_true (List.all_eq_true.1 hall2 t hm)⟩
  · intro ds hd
    rw [Tryz.params5] at hd
    match ds, hd with
    | [_, _, _], _ => rfl
  · intro xs h
    rw [Tryz.params5] at h
    exact Go.Av.Tryz.RewriteOrder_run xs h

theorem over : Rows.rewriteOrderRow.holds Tryz.pinned (OpenSpec.ofChange Rows.rewriteOrderSpec) :=
  OpenClaim.holds_of_wide 5 Tryz.f5 rfl rfl rfl rfl rfl rfl rfl ⟨rfl, rfl, rfl, rfl, rfl⟩ rfl rfl rfl rfl rfl (by kernel_rfl) Tryz.func5 (by kernel_rfl)
    (of_decide_eq_true (by kernel_rfl)) (by unfold Func.isWrapper; first | (rw [if_pos (by decide +kernel)]; kernel_rfl) | (rw [if_neg (by decide +kernel)]; exact ⟨rfl, rfl⟩))
    (fun os started H enc _ => lifted os started H enc)

theorem proved : Rows.RewriteOrderCardSaid :=
  Claim7.holds_tied_plain_at .later [] [.data, .data, .data, .data, .sentinel, .sentinel, .listed, .data, .pinned] true (true, "e9b2e68855196ed946f4057352a5e16e5e31a9609166be06484c743d3bf10628") true over (fun _ h => by cases h) (by kernel_rfl) (fun _ h => by cases h) rewriteOrder_row_tie rfl ⟨rfl, rfl⟩ (by kernel_rfl) rfl
    (fun f fn hf hfn => by
      obtain rfl : f = 5 := Option.some.inj ((show Tryz.prog.funcNamed "tailwater/tailwaterlaw23.RewriteOrder" = some 5 by kernel_rfl).symm.trans hf) |>.symm
      obtain rfl : fn = Tryz.f5 := (Option.some.inj (Tryz.func5.symm.trans hfn)).symm
      exact ⟨by kernel_rfl, fun j t ht => by
        rw [Tryz.params5] at ht
        have hm : t ∈ [28, 3, 3] := by simpa using Array.mem_of_getElem? ht
        have hall : ([28, 3, 3].all fun u => !Tryz.prog.wantsStandIn u) = true := by kernel_rfl
        exact (show Tryz.prog.wantsStandIn t = false by simpa using List.all_eq_true.1 hall t hm)⟩)
    (by kernel_rfl)
end Go.Proofs.YtnfamdbgcgjlaaaGreatDoor.rewriteOrder
