/- PartialLater: For every query, input and two marks the law PartialLater of layer 42 (the later the mark, the more it has passed) returns true, and does not panic. -/
import Derived.Test.YtnkfdamiiejfdaaGreatDoorRows
import Derived.Test.YtnkfdamiiejfdaaGreatDoorCards
import Derived.Test.YtnkfdamiiejfdaaGreatDoorFactsO
import Derived.Test.YtnkfdamiiejfdaaGreatDoorDLawPartialLaterZ
import Derived.WalkKit
import Derived.ProofKit
import Derived.OpenShut
import Derived.LaidMore
import Derived.Lay
import Derived.SevenTiedAt
import Derived.Stop.Joined
set_option linter.all false
namespace Go.Proofs.YtnkfdamiiejfdaaGreatDoor.partialLater
open Go.ChangeShapes Go.WideShapes Go.ChangeAt Go.RowKit Go.Av

theorem own : ownKnob Tryz.prog.godebug = none := by kernel_rfl
def zs : List Int := (List.range 256).map fun j => if j = 9 ∨ j = 10 ∨ j = 11 ∨ j = 12 ∨ j = 13 ∨ j = 32 then 1 else 0
theorem gl_eq : Go.Av.Tryz.gl.l = [(0, zs.map fun z => Value.int .u8 z)] := by kernel_rfl
theorem gf {W : World} (h : laidMetH Tryz.prog Rows.partialLaterRow.laid W) : @GF Go.Av.Tryz.gl (lawCtx W) := by
  intro p hp
  rw [gl_eq] at hp
  obtain rfl := List.mem_singleton.1 hp
  have hb := byteRow_of_laid (g := 0) (t := 475) (tb := 5) (n := 256) (zs := zs) (name := "strings.asciiSpace") h (by kernel_rfl) (by kernel_rfl) (by kernel_rfl) (by kernel_rfl) Tryz.underlying475 Tryz.underlying5 (by kernel_rfl) (by kernel_rfl)
  refine ⟨?_, hb⟩
  have h0 := (hb 0 (.int .u8 0) (by kernel_rfl)).1
  exact World.block_lt_of_cell? _ _ h0

set_option maxRecDepth 100000 in
theorem lifted (os : Os) (started : os.Started) (H : Type) (enc : TypeId × Value → H) :
    ReturnsInHanded {} Tryz.checked os 3 .any (fun w args => (Rows.partialLaterSpec.pre enc Tryz.prog Tryz.f3 Rows.partialLaterRow.domain false w args ∧ laidMetH Tryz.prog Rows.partialLaterRow.laid w) ∧ sizedMet enc Tryz.prog Tryz.f3 (OpenSpec.ofChange Rows.partialLaterSpec) false w args)
      (Rows.partialLaterSpec.post enc Tryz.prog Tryz.f3 false true false false) := by
  refine returnsInHanded_of_change_and (C := Tryz.checked) (X := fun w _ => laidMetH Tryz.prog Rows.partialLaterRow.laid w) (fun _ _ _ hh h => h.of_heap hh) own started (by kernel_rfl) Tryz.func3
    (ChangeSpec.witness_shaped (enc := enc) (C := Tryz.checked) (os := os) (X := fun w _ => laidMetH Tryz.prog Rows.partialLaterRow.laid w) false (World.laidAll Tryz.prog os Rows.partialLaterRow.laid) #[.agg #[.int .u8 0, .slice none 0 0, .slice none 0 0, .bool false, .slice none 0 0, .int .u8 0, .int .i64 0, .int .i64 0, .bool false, .int .u8 0], .slice none 0 0, .int .i64 0, .int .i64 0] 8 (World.laidAll_os _ _ _)
      (World.shaped_of_ZipB (by kernel_rfl) (by kernel_rfl)) (by kernel_rfl) (by kernel_rfl) (by kernel_rfl)
      (by rw [MakeChecks.laidMetH_plain _ _ _ (by kernel_rfl)]; exact laidMet_laidAll _ (by kernel_rfl) (by kernel_rfl))) ?_
  intro W base args ds gs before hval0 hW _ _ hL _
  refine @Go.Av.law_contractG _ _ _ Go.Av.Tryz.gl _ _ _ 5 4 (by kernel_rfl) ?_ ?_ rfl Tryz.underlying4 rfl ?_ ?_ W (gf hL) base args ds gs before hval0 hW
  · intro t ht
    rw [Tryz.params3] at ht
    have hm : t ∈ [27, 28, 2] := by simpa using ht
    have hall : ([27, 28, 2].all fun u => plainTy Tryz.prog 5 u) = true := by kernel_rfl
    exact List.all_eq_true.1 hall t hm
  · intro t ht
    rw [Tryz.params3] at ht
    have hm : t ∈ [27, 28, 2] := by simpa using ht
    have hall : ([27, 28, 2].all fun u => Tryz.prog.readableRec u) = true := by kernel_rfl
    have hall2 : ([27, 28, 2].all fun u => Nat.ble (u + 1) Tryz.prog.types.size) = true := by kernel_rfl
    exact ⟨List.all_eq_true.1 hall t hm, Nat.le_of_ble_eq_true (List.all_eq_true.1 hall2 t hm)⟩
  · intro ds hd
    rw [Tryz.params3] at hd
    match ds, hd with
    | [_, _, _, _], _ => rfl
  · intro xs h
    rw [Tryz.params3] at h
    exact Go.Av.Tryz.PartialLater_run xs h

theorem proved : Rows.PartialLaterCardSaid := proved_of fun os started H enc => lifted os started H enc
end Go.Proofs.YtnkfdamiiejfdaaGreatDoor.partialLater
