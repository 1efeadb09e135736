/- marks.New at few numbers. -/
import Derived.Test.YtmodjehiebcejaaGreatDoorDTypesO
import Derived.Test.YtmodjehiebcejaaGreatDoorTabX
set_option linter.all false

namespace Go.D
noncomputable section
def Xa3 (a0 : Int) : Option ((List Int) × Int) :=
  bif (bif (decide (a0 < (1 : Int))) then true else (decide (a0 > (4 : Int)))) then (some (([] : List Int), 2)) else (bif (a0 == (2 : Int)) then (some ([(-9223372036854775808), (-9223372036854775808)], 0)) else none)
end
end Go.D
namespace Go.Av.Tryz
open Go.Proofs Go.D
set_option maxRecDepth 100000
set_option maxHeartbeats 4000000
theorem tmDm : X0j Tryz.prog X7x.find /\ Tryz.prog.follows .mixedOrders = true := ⟨X8, by kernel_rfl⟩
instance tmIm : TmD Tryz.prog X7x.find := ⟨tmDm⟩
theorem X06c : X4i Tryz.prog 104 Tryz.f104 (X1 Tryz.f104) := ⟨Tryz.func104, by kernel_rfl, rfl⟩
theorem X06b : X4i Tryz.prog 165 Tryz.f165 (X1 Tryz.f165) := ⟨Tryz.func165, by kernel_rfl, rfl⟩
theorem X06a : X4i Tryz.prog 221 Tryz.f221 (X1 Tryz.f221) := ⟨Tryz.func221, by kernel_rfl, rfl⟩
theorem X069 : X4i Tryz.prog 284 Tryz.f284 (X1 Tryz.f284) := ⟨Tryz.func284, by kernel_rfl, rfl⟩
instance Xa2 : PCs Tryz.prog 104 (∀ (a0 : Int) (r : (List Int) × Int), Xa3 a0 = some r -> X14 Tryz.prog 104 [(aI .i64 a0)] (AV.tup [(AV.list true (List.map (aI .i64) r.1)), (aI .i64 r.2)])) := ⟨fun a0 r h => by
  refine X14.sym X8 X06c (nt := 13) rfl rfl ?_ okM
  unfold Xa3 at h
  revert h
  refine brI (fun h1 => fun e => oj e ▸ X4j [.br true] (k := fi)) fun h1 => ?_
  refine brI (fun h2 => ?_) fun h2 => ?_
  ·
    intro h
    obtain rfl : a0 = 2 := eq_of_beq h2
    refine X1t [.br false] (o := by repeat' first | refine And.intro ?_ ?_ | exact pcM | (decide +kernel) | exact X9z) ?_
    refine Xc.inline X8 X06b rfl rfl rfl rfl rfl trivial trivial rfl rfl ?_
    refine X1t [.br false, .wrap, .wrap] (o := by repeat' first | refine And.intro ?_ ?_ | exact pcM | (decide +kernel) | exact X9z) ?_
    refine Xc.inline X8 X06a rfl rfl rfl rfl rfl trivial trivial rfl rfl ?_
    refine X1t [.br false] (o := by repeat' first | refine And.intro ?_ ?_ | exact pcM | (decide +kernel) | exact X9z) ?_
    refine Xc.inline X8 X069 rfl rfl rfl rfl rfl trivial trivial rfl rfl ?_
    refine X1t [] (o := by repeat' first | refine And.intro ?_ ?_ | exact pcM | (decide +kernel) | exact X9z) ?_
    refine Xc.back (by intro id h; cases h) rfl ?_
    refine X1t [] (o := by repeat' first | refine And.intro ?_ ?_ | exact pcM | (decide +kernel) | exact X9z) ?_
    refine Xc.back (by intro id h; cases h) rfl ?_
    refine X1t [.go true, .go true, .br false, .wrap] (o := by repeat' first | refine And.intro ?_ ?_ | exact pcM | (decide +kernel) | exact ((show ((8 : Nat) : Int) * 2 <= 281474976710656 by decide)) | exact X9z) ?_
    refine Xc.copyS [(aI .i64 (-9223372036854775808)), (aI .i64 0)] 1 X8 rfl rfl rfl rfl trivial rfl rfl rfl trivial (.ref rfl (by decide)) rfl rfl rfl rfl rfl rfl rfl rfl ?_
    refine X1t [] (o := by repeat' first | refine And.intro ?_ ?_ | exact pcM | (decide +kernel) | exact X9z) ?_
    refine Xc.round ?_
    refine X1t [.br true, .stop 9] (o := by repeat' first | refine And.intro ?_ ?_ | exact pcM | (decide +kernel) | exact X9z) ?_
    refine Xc.drawnCutF 7 tmDm [] rfl rfl rfl rfl rfl rfl rfl (by decide) rfl rfl rfl (by decide) (by decide) (by decide) (by decide) rfl rfl rfl rfl rfl rfl rfl (by repeat' first | refine And.intro ?_ ?_ | exact pcM | (decide +kernel) | exact X9z) ?_
    refine X1t [] (o := by repeat' first | refine And.intro ?_ ?_ | exact pcM | (decide +kernel) | exact X9z) ?_
    refine Xc.copyS [(aI .i64 (-9223372036854775808)), (aI .i64 (-9223372036854775808))] 1 X8 rfl rfl rfl rfl trivial rfl rfl rfl trivial (.ref rfl (by decide)) rfl rfl rfl rfl rfl rfl rfl rfl ?_
    refine X1t [] (o := by repeat' first | refine And.intro ?_ ?_ | exact pcM | (decide +kernel) | exact X9z) ?_
    refine Xc.round ?_
    refine X1t [.br false] (o := by repeat' first | refine And.intro ?_ ?_ | exact pcM | (decide +kernel) | exact X9z) ?_
    refine Xc.back (by intro id h; cases h) rfl ?_
    revert h
    exact fun e => oj e ▸ X4j [] (o := by repeat' first | refine And.intro ?_ ?_ | exact pcM | (decide +kernel) | exact X9z) (k := fi)
  ·
    intro h
    cases h⟩
end Go.Av.Tryz
