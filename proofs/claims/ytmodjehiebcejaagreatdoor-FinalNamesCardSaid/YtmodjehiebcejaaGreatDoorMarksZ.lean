/- marks.New at few numbers. -/
import Derived.Test.YtmodjehiebcejaaGreatDoorDTypesO
import Derived.Test.YtmodjehiebcejaaGreatDoorTabX
set_option linter.all false

namespace Go.D
noncomputable section
def Xb3 (a0 : Int) : Option ((List Int) × Int) :=
  bif (bif (decide (a0 < (1 : Int))) then true else (decide (a0 > (4 : Int)))) then (some (([] : List Int), 2)) else (bif (a0 == (2 : Int)) then (some ([(-9223372036854775808), (-9223372036854775808)], 0)) else none)
end
end Go.D
namespace Go.Av.Tryz
open Go.Proofs Go.D
set_option maxRecDepth 100000
set_option maxHeartbeats 4000000
theorem tmDm : X2i Tryz.prog X6g.find /\ Tryz.prog.follows .mixedOrders = true := ⟨X4, by kernel_rfl⟩
instance tmIm : TmD Tryz.prog X6g.find := ⟨tmDm⟩
theorem X0xr : X5a Tryz.prog 104 Tryz.f104 (X2e Tryz.f104) := ⟨Tryz.func104, by kernel_rfl, rfl⟩
theorem X0xq : X5a Tryz.prog 165 Tryz.f165 (X2e Tryz.f165) := ⟨Tryz.func165, by kernel_rfl, rfl⟩
theorem X0xp : X5a Tryz.prog 221 Tryz.f221 (X2e Tryz.f221) := ⟨Tryz.func221, by kernel_rfl, rfl⟩
theorem X0xo : X5a Tryz.prog 284 Tryz.f284 (X2e Tryz.f284) := ⟨Tryz.func284, by kernel_rfl, rfl⟩
instance Xb2 : PCs Tryz.prog 104 (∀ (a0 : Int) (r : (List Int) × Int), Xb3 a0 = some r -> X32 Tryz.prog 104 [(aI .i64 a0)] (AV.tup [(AV.list true (List.map (aI .i64) r.1)), (aI .i64 r.2)])) := ⟨fun a0 r h => by
  refine X32.sym X4 X0xr (nt := 13) rfl rfl ?_ okM
  unfold Xb3 at h
  revert h
  refine brI (fun h1 => fun e => oj e ▸ X65 [.br true] (k := fi)) fun h1 => ?_
  refine brI (fun h2 => ?_) fun h2 => ?_
  ·
    intro h
    obtain rfl : a0 = 2 := eq_of_beq h2
    refine X4d [.br false] (o := by repeat' first | refine And.intro ?_ ?_ | exact pcM | (decide +kernel) | exact Xaz) ?_
    refine Xk.inline X4 X0xq rfl rfl rfl rfl rfl trivial trivial rfl rfl ?_
    refine X4d [.br false, .wrap, .wrap] (o := by repeat' first | refine And.intro ?_ ?_ | exact pcM | (decide +kernel) | exact Xaz) ?_
    refine Xk.inline X4 X0xp rfl rfl rfl rfl rfl trivial trivial rfl rfl ?_
    refine X4d [.br false] (o := by repeat' first | refine And.intro ?_ ?_ | exact pcM | (decide +kernel) | exact Xaz) ?_
    refine Xk.inline X4 X0xo rfl rfl rfl rfl rfl trivial trivial rfl rfl ?_
    refine X4d [] (o := by repeat' first | refine And.intro ?_ ?_ | exact pcM | (decide +kernel) | exact Xaz) ?_
    refine Xk.back (by intro id h; cases h) rfl ?_
    refine X4d [] (o := by repeat' first | refine And.intro ?_ ?_ | exact pcM | (decide +kernel) | exact Xaz) ?_
    refine Xk.back (by intro id h; cases h) rfl ?_
    refine X4d [.go true, .go true, .br false, .wrap] (o := by repeat' first | refine And.intro ?_ ?_ | exact pcM | (decide +kernel) | exact ((show ((8 : Nat) : Int) * 2 <= 281474976710656 by decide)) | exact Xaz) ?_
    refine Xk.copyS [(aI .i64 (-9223372036854775808)), (aI .i64 0)] 1 X4 rfl rfl rfl rfl trivial rfl rfl rfl trivial (.ref rfl (by decide)) rfl rfl rfl rfl rfl rfl rfl rfl ?_
    refine X4d [] (o := by repeat' first | refine And.intro ?_ ?_ | exact pcM | (decide +kernel) | exact Xaz) ?_
    refine Xk.round ?_
    refine X4d [.br true, .stop 9] (o := by repeat' first | refine And.intro ?_ ?_ | exact pcM | (decide +kernel) | exact Xaz) ?_
    refine Xk.drawnCutF 7 tmDm [] rfl rfl rfl rfl rfl rfl rfl (by decide) rfl rfl rfl (by decide) (by decide) (by decide) (by decide) rfl rfl rfl rfl rfl rfl rfl (by repeat' first | refine And.intro ?_ ?_ | exact pcM | (decide +kernel) | exact Xaz) ?_
    refine X4d [] (o := by repeat' first | refine And.intro ?_ ?_ | exact pcM | (decide +kernel) | exact Xaz) ?_
    refine Xk.copyS [(aI .i64 (-9223372036854775808)), (aI .i64 (-9223372036854775808))] 1 X4 rfl rfl rfl rfl trivial rfl rfl rfl trivial (.ref rfl (by decide)) rfl rfl rfl rfl rfl rfl rfl rfl ?_
    refine X4d [] (o := by repeat' first | refine And.intro ?_ ?_ | exact pcM | (decide +kernel) | exact Xaz) ?_
    refine Xk.round ?_
    refine X4d [.br false] (o := by repeat' first | refine And.intro ?_ ?_ | exact pcM | (decide +kernel) | exact Xaz) ?_
    refine Xk.back (by intro id h; cases h) rfl ?_
    revert h
    exact fun e => oj e ▸ X65 [] (o := by repeat' first | refine And.intro ?_ ?_ | exact pcM | (decide +kernel) | exact Xaz) (k := fi)
  ·
    intro h
    cases h⟩
end Go.Av.Tryz
