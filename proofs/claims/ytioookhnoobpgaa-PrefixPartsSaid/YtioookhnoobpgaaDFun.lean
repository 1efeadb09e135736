/- Printed by decomp.py: the functions. -/
import Derived.Test.YtioookhnoobpgaaDTypes
import Derived.Test.YtioookhnoobpgaaKeyR
set_option linter.all false
set_option linter.unusedVariables false
namespace Go.D
noncomputable section

def ref40_Great (a0 : GOutputs) : Option (Bool) :=
  (bif (decide ((List.length a0.Rows : Int) > (100 : Int))) then (bif (decide ((List.length a0.Rows : Int) ≤ (4000 : Int))) then (some (bif (bif (bif (bif (decide ((List.length a0.Rows : Int) > (100 : Int))) then (decide ((List.length a0.Rows : Int) ≤ (4000 : Int))) else false) then true else false) then true else false) then true else false)) else (bif (decide ((List.length a0.Rows : Int) > (4010 : Int))) then (some (bif (bif (bif (bif (decide ((List.length a0.Rows : Int) > (100 : Int))) then (decide ((List.length a0.Rows : Int) ≤ (4000 : Int))) else false) then true else (decide ((List.length a0.Rows : Int) > (4010 : Int)))) then true else false) then true else false)) else (bif (decide ((List.length a0.Late : Int) > (100 : Int))) then (bif (decide ((List.length a0.Late : Int) ≤ (4000 : Int))) then (some (bif (bif (bif (bif (decide ((List.length a0.Rows : Int) > (100 : Int))) then (decide ((List.length a0.Rows : Int) ≤ (4000 : Int))) else false) then true else (decide ((List.length a0.Rows : Int) > (4010 : Int)))) then true else (bif (decide ((List.length a0.Late : Int) > (100 : Int))) then (decide ((List.length a0.Late : Int) ≤ (4000 : Int))) else false)) then true else false)) else (some (bif (bif (bif (bif (decide ((List.length a0.Rows : Int) > (100 : Int))) then (decide ((List.length a0.Rows : Int) ≤ (4000 : Int))) else false) then true else (decide ((List.length a0.Rows : Int) > (4010 : Int)))) then true else (bif (decide ((List.length a0.Late : Int) > (100 : Int))) then (decide ((List.length a0.Late : Int) ≤ (4000 : Int))) else false)) then true else (decide ((List.length a0.Late : Int) > (4010 : Int)))))) else (some (bif (bif (bif (bif (decide ((List.length a0.Rows : Int) > (100 : Int))) then (decide ((List.length a0.Rows : Int) ≤ (4000 : Int))) else false) then true else (decide ((List.length a0.Rows : Int) > (4010 : Int)))) then true else (bif (decide ((List.length a0.Late : Int) > (100 : Int))) then false else false)) then true else (decide ((List.length a0.Late : Int) > (4010 : Int)))))))) else (bif (decide ((List.length a0.Rows : Int) > (4010 : Int))) then (some (bif (bif (bif (bif (decide ((List.length a0.Rows : Int) > (100 : Int))) then false else false) then true else (decide ((List.length a0.Rows : Int) > (4010 : Int)))) then true else false) then true else false)) else (bif (decide ((List.length a0.Late : Int) > (100 : Int))) then (bif (decide ((List.length a0.Late : Int) ≤ (4000 : Int))) then (some (bif (bif (bif (bif (decide ((List.length a0.Rows : Int) > (100 : Int))) then false else false) then true else (decide ((List.length a0.Rows : Int) > (4010 : Int)))) then true else (bif (decide ((List.length a0.Late : Int) > (100 : Int))) then (decide ((List.length a0.Late : Int) ≤ (4000 : Int))) else false)) then true else false)) else (some (bif (bif (bif (bif (decide ((List.length a0.Rows : Int) > (100 : Int))) then false else false) then true else (decide ((List.length a0.Rows : Int) > (4010 : Int)))) then true else (bif (decide ((List.length a0.Late : Int) > (100 : Int))) then (decide ((List.length a0.Late : Int) ≤ (4000 : Int))) else false)) then true else (decide ((List.length a0.Late : Int) > (4010 : Int)))))) else (some (bif (bif (bif (bif (decide ((List.length a0.Rows : Int) > (100 : Int))) then false else false) then true else (decide ((List.length a0.Rows : Int) > (4010 : Int)))) then true else (bif (decide ((List.length a0.Late : Int) > (100 : Int))) then false else false)) then true else (decide ((List.length a0.Late : Int) > (4010 : Int))))))) : Option (Bool)).bind fun j9_2 => some j9_2

inductive prefix_check_L0_o where
  | x0
  | x1
def prefix_check_L0 (y0_5 : (List GOutputs)) : List GOutputs → Nat → Option prefix_check_L0_o
  | [], k => some (.x0)
  | x :: xs, k => (bif (decide ((List.length x.Rows : Int) > (4000 : Int))) then (some (bif (decide ((List.length x.Rows : Int) > (4000 : Int))) then true else false)) else (some (bif (decide ((List.length x.Rows : Int) > (4000 : Int))) then true else (decide ((List.length x.Late : Int) > (4000 : Int))))) : Option (Bool)).bind fun j15_20 => bif j15_20 then (some (.x1)) else (prefix_check_L0 y0_5 xs (k + 1))

def prefix_check (a0 : (List GOutputs)) : Option (Int) :=
  (lenOk (List.length a0)).bind fun u1 => (prefix_check_L0  a0 a0 0).bind fun o19 => match o19 with | .x0 => (some 0) | .x1 => (some 4)

def prefix_within_Row (a b : List GRow) : Option Bool := (lenOk (List.length a)).bind fun _ => (lenOk (List.length b)).bind fun _ => (wfOk wf_GRow a).bind fun _ => (wfOk wf_GRow b).bind fun _ => some (subAll (addAll [] b) a)

def prefix_within_Record (a b : List GRecord) : Option Bool := (lenOk (List.length a)).bind fun _ => (lenOk (List.length b)).bind fun _ => (wfOk wf_GRecord a).bind fun _ => (wfOk wf_GRecord b).bind fun _ => some (subAll (addAll [] b) a)

def prefix_Part (a0 : GOutputs) (a1 : GOutputs) : Option (Bool × Int) :=
  (prefix_check [a0, a1]).bind fun v1 => bif (v1 != (0 : Int)) then (some (false, v1)) else (((prefix_within_Row a0.Rows a1.Rows).bind fun v10 => bif v10 then ((prefix_within_Record a0.Late a1.Late).bind fun v13 => some (bif v10 then v13 else false)) else (some (bif v10 then false else false)) : Option (Bool)).bind fun j9_4 => some (j9_4, 0))

def ref40_many (a0 : GOutputs) : Option (Bool) :=
  (bif (decide ((List.length a0.Rows : Int) > (4000 : Int))) then (some (bif (decide ((List.length a0.Rows : Int) > (4000 : Int))) then true else false)) else (some (bif (decide ((List.length a0.Rows : Int) > (4000 : Int))) then true else (decide ((List.length a0.Late : Int) > (4000 : Int))))) : Option (Bool)).bind fun j2_2 => some j2_2

def ref40_In (a b : GOutputs) : Option Bool := (lenOk (List.length a.Rows)).bind fun _ => (lenOk (List.length a.Late)).bind fun _ => (lenOk (List.length b.Rows)).bind fun _ => (lenOk (List.length b.Late)).bind fun _ => (wfOk wf_GRow a.Rows).bind fun _ => (wfOk wf_GRecord a.Late).bind fun _ => (wfOk wf_GRow b.Rows).bind fun _ => (wfOk wf_GRecord b.Late).bind fun _ => some (bif subAll (addAll [] b.Rows) a.Rows then subAll (addAll [] b.Late) a.Late else false)

def ref40_Part (a0 : GOutputs) (a1 : GOutputs) : Option (Bool × Int) :=
  ((ref40_many a0).bind fun v7 => bif v7 then (some (bif v7 then true else false)) else ((ref40_many a1).bind fun v10 => some (bif v7 then true else v10)) : Option (Bool)).bind fun j6_11 => bif j6_11 then (some (false, 4)) else ((ref40_In a0 a1).bind fun v14 => some (v14, 0))

def prefix_Same (a0 : GOutputs) (a1 : GOutputs) : Option (Bool × Int) :=
  (prefix_Part a0 a1).bind fun v1 => (bif v1.1 then (bif ((List.length a0.Rows : Int) == (List.length a1.Rows : Int)) then (some (bif (bif v1.1 then ((List.length a0.Rows : Int) == (List.length a1.Rows : Int)) else false) then ((List.length a0.Late : Int) == (List.length a1.Late : Int)) else false)) else (some (bif (bif v1.1 then ((List.length a0.Rows : Int) == (List.length a1.Rows : Int)) else false) then false else false))) else (some (bif (bif v1.1 then false else false) then false else false)) : Option (Bool)).bind fun j5_4 => some (j5_4, v1.2)

def ref40_Same (a0 : GOutputs) (a1 : GOutputs) : Option (Bool × Int) :=
  ((ref40_many a0).bind fun v7 => bif v7 then (some (bif v7 then true else false)) else ((ref40_many a1).bind fun v10 => some (bif v7 then true else v10)) : Option (Bool)).bind fun j6_11 => bif j6_11 then (some (false, 4)) else (((ref40_In a0 a1).bind fun v20 => bif v20 then ((ref40_In a1 a0).bind fun v23 => some (bif v20 then v23 else false)) else (some (bif v20 then false else false)) : Option (Bool)).bind fun j19_4 => some (j19_4, 0))

def law40_PrefixParts (a0 : GOutputs) (a1 : GOutputs) : Option (Bool) :=
  ((ref40_Great a0).bind fun v7 => bif v7 then (some (bif v7 then true else false)) else ((ref40_Great a1).bind fun v10 => some (bif v7 then true else v10)) : Option (Bool)).bind fun j6_18 => bif j6_18 then (some true) else ((prefix_Part a0 a1).bind fun v14 => (ref40_Part a0 a1).bind fun v16 => (prefix_Same a0 a1).bind fun v18 => (ref40_Same a0 a1).bind fun v20 => some (bif (bif (bif (v14.1 == v16.1) then (v14.2 == v16.2) else false) then (v18.1 == v20.1) else false) then (v18.2 == v20.2) else false))
end
end Go.D
