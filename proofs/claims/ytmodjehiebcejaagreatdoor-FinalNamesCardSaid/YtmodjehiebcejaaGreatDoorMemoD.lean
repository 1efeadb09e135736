/- A closed run: lemmas in which an entry is taken out of a store. -/
import Derived.Test.YtmodjehiebcejaaGreatDoorMemoB
import Derived.Test.YtmodjehiebcejaaGreatDoorDeleteP
set_option linter.all false

set_option maxRecDepth 1000000
namespace Go.Av.Tryz
open Go.Av Go.Av.X Go.Proofs Go.D Go.Av.Tryz
set_option maxHeartbeats 4000000
theorem X0z9 : Xjz Tryz.prog 185 11 := fun H n o i es ho hi hb => Go.Proofs.Tryz.delete_hc ⟨_, _, (⟨Tryz.func185, by kernel_rfl, rfl⟩ : X5a Tryz.prog 185 Tryz.f185 (X2e Tryz.f185))⟩ ho hi hb
theorem wJ {f : Nat} {e : List AV × AV} (l : List (Nat × Xa)) (h : AllG l) (r : X75 X6g.find Xt Xc7.find 3000 (Xjp X6g.find Xt Xc7.find (fG l) 189 185 11 3000 200) none f e.1 g8 0 (fun a H _ => wkO (cvF true (hpX H) 100 a) e.2 = true) = (true = true) := by kernel_rfl) : Q f e :=
  Xfg X80 X_ok X4 X86 (Xol l h) X06y X0z9 r
end Go.Av.Tryz
