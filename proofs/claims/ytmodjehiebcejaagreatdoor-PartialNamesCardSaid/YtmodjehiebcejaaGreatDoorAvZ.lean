/- What a law needs besides. -/
import Derived.Test.YtmodjehiebcejaaGreatDoorAvd
import GoSem.ClaimGoes
import Derived.LaidMore
import Derived.LaidSub
set_option linter.all false
namespace Go.Av
open Go.ChangeShapes Go.RowKit
section
variable {H : Type} {enc : TypeId × Value -> H} {P : Program} {w : World}
end
theorem byteRow_of_laid {P : Program} {name : String} {g t tb n : Nat} {l : List (String × DataW Unit)} {zs : List Int} {W : World} (h : laidMetH P l W)
    (hf : l.filter (fun x => x.1 == name) = [(name, .agg (zs.map fun z => .lit (.int .u8 z)))]) (hh : ((DataW.agg (zs.map fun z => .lit (.int .u8 z)) : DataW Unit).handleName?) = none)
    (hg : P.globalNamed name = some g) (ht : (P.globals[g]?).map (·.type) = some t) (hu : P.underlying t = some (.array n tb)) (hb : P.underlying tb = some (.int .u8)) (hc : P.cellsOf tb = 1) (hn : zs.length = n) :
    ∀ (k : Nat) v, (zs.map fun z => Value.int .u8 z)[k]? = some v -> W.cell? ⟨g, k, none⟩ = some v /\ v.oneCell' = true := by
  have h1 := h.filter fun x => x.1 == name
  rw [hf] at h1
  rw [MakeChecks.laidMetH_plain _ _ _ (by simp [hh])] at h1
  obtain ⟨ps, ⟨g0, t0, cs, fuel, p, q, hg0, ht0, hv, hd, _, _⟩, _, _⟩ := h1
  obtain rfl := Option.some.inj (hg.symm.trans hg0)
  obtain rfl := Option.some.inj (ht.symm.trans ht0)
  obtain ⟨xs, m, _, ex, _, hl, hel⟩ := DataW.trod_array hu hd
  intro r v hr
  have hr1 : r < zs.length := by simpa using (List.getElem?_eq_some_iff.1 hr).1
  have hE := hel r (by omega)
  rw [hc, Nat.mul_one, List.getElem?_eq_getElem (by omega)] at hE
  obtain ⟨z, e1, e2, _⟩ := DataW.trod_int hb hE
  have e3 : (xs.map (·.1)) = zs.map fun z => .lit (.int .u8 z) := (DataW.agg.inj (Prod.mk.inj ex).1).symm
  have e4 : (xs.map (·.1))[r]? = (zs.map fun z => (DataW.lit (.int .u8 z) : DataW Unit))[r]? := by rw [e3]
  rw [List.getElem?_map, List.getElem?_map, List.getElem?_eq_getElem (by omega : r < xs.length), List.getElem?_eq_getElem hr1, e2] at e4
  have hz : z = zs[r] := by simpa using e4
  rw [List.getElem?_map, List.getElem?_eq_getElem hr1] at hr
  have hv' : v = .int .u8 z := by rw [hz]; exact (Option.some.inj hr).symm
  subst hv'
  refine ⟨?_, rfl⟩
  rw [World.var?_cell hg hv r]
  have : cs.toList[r]? = some (.int .u8 z) := by
    have h0 : ((cs.toList.drop r).take 1)[0]? = some (.int .u8 z) := by rw [e1]; rfl
    simpa using h0
  simpa using this
end Go.Av
