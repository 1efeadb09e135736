/- Scopes through which a run goes without a jump. -/
import Derived.Test.YtioookhnoobpgaaAvRun4
import Derived.Scope
namespace Go.Av
theorem SemC.scope {P : Program} {nt n0 : Nat} {s : St} {Q : AExit → St → Prop} {c : Code} (h : SemC P nt n0 c Q s) : SemC P nt n0 (.scope c) Q s := by
  intro c0 H0 cx act g
  refine wp_scope_straight (Code.wp_mono ?_ (h c0 H0 cx act g))
  rintro e a w ⟨c', s', ae, rfl, g', rfl, hq⟩
  cases ae with
  | normal => exact ⟨c', s', .normal, rfl, g', rfl, hq⟩
  | exit id => exact ⟨c', s', .exit id, rfl, g', rfl, hq⟩
  | ret => exact ⟨c', s', .ret, rfl, g', rfl, hq⟩
end Go.Av
