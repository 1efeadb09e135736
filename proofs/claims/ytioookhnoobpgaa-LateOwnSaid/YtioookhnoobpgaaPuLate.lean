/- Late, as plain functions: what the printed functions of layer 20 and of its reference answer. -/
import Derived.Test.YtioookhnoobpgaaDFun
set_option linter.all false
namespace Go.D

theorem eqb_GRecord_eq (x y : GRecord) : eqb_GRecord x y = decide (x = y) := by
  obtain ⟨a, b, c⟩ := x
  obtain ⟨a', b', c'⟩ := y
  simp only [eqb_GRecord, Bool.and_true]
  rw [Bool.eq_iff_iff]
  simp

def lowest : Int := -9223372036854775808
def final : Int := 9223372036854775807
def isTime (t : Int) : Bool := decide (-1099511627776 ≤ t) && decide (t ≤ 1099511627776)
def okEv (x : GEvent) : Bool := bif x.Mark then decide (x.Record = ⟨0, 0, 0⟩) && (isTime x.Time || x.Time == final) else x.Time == 0 && isTime x.Record.Time
def chk (l : List GEvent) : Int := if 60 < l.length then 4 else bif l.all okEv then 0 else 8

theorem late_time_eq (t : Int) : late_time t = some (isTime t) := by
  unfold late_time isTime
  simp only [ge_iff_le]
  cases decide (-1099511627776 ≤ t) <;> rfl

theorem late_Check_L0_eq (l : List GEvent) : ∀ (xs : List GEvent) (k : Nat), late_Check_L0 l xs k = some (bif xs.all okEv then .x0 else .x1) := by
  intro xs
  induction xs with
  | nil => intro k; rfl
  | cons x xs ih =>
    intro k
    rw [late_Check_L0, ih]
    simp only [late_time_eq, eqb_GRecord_eq, List.all_cons, okEv, final]
    generalize decide (x.Record = ⟨0, 0, 0⟩) = b1
    generalize isTime x.Time = b2
    generalize isTime x.Record.Time = b3
    generalize (x.Time == 9223372036854775807) = b4
    generalize (x.Time == 0) = b5
    generalize x.Mark = b6
    cases b1 <;> cases b2 <;> cases b3 <;> cases b4 <;> cases b5 <;> cases b6 <;> rfl

theorem lenOk_small {n : Nat} (h : n ≤ 140737488355328) : lenOk n = some () := by unfold lenOk; rw [if_pos h]
theorem capOk_small {n b : Nat} (h : n * b ≤ 140737488355328) : capOk n b = some () := by unfold capOk; rw [if_pos h]

theorem late_Check_eq (l : List GEvent) : late_Check l = some (chk l) := by
  unfold late_Check chk
  by_cases h : 60 < l.length
  · rw [if_pos h, show decide ((l.length : Int) > 60) = true from decide_eq_true (by omega)]; rfl
  · rw [if_neg h, show decide ((l.length : Int) > 60) = false from decide_eq_false (by omega), lenOk_small (by omega)]
    simp only [cond_false, Option.bind_some, late_Check_L0_eq]
    cases l.all okEv <;> rfl

theorem chk_len {l : List GEvent} (h : chk l = 0) : l.length ≤ 60 := by
  unfold chk at h; split at h
  · cases h
  · omega

/-- The mark behind an event. -/
def mstep (m : Int) (x : GEvent) : Int := if x.Mark then (if x.Time > m then x.Time else m) else m
def markF (m : Int) (l : List GEvent) : Int := l.foldl mstep m

theorem late_Mark_L0_eq (l : List GEvent) : ∀ (xs : List GEvent) (k : Nat) (m : Int), late_Mark_L0 l xs k m = some (.x0 (markF m xs)) := by
  intro xs
  induction xs with
  | nil => intro k m; rfl
  | cons x xs ih =>
    intro k m
    rw [late_Mark_L0]
    cases hx : x.Mark <;> simp [ih, markF, mstep, hx]

theorem late_Mark_eq (l : List GEvent) : late_Mark l = some (if chk l = 0 then (markF lowest l, 0) else (0, chk l)) := by
  unfold late_Mark
  rw [late_Check_eq]
  by_cases h : chk l = 0
  · have := chk_len h
    simp [h, lenOk_small (show l.length ≤ 140737488355328 by omega), late_Mark_L0_eq, lowest]
  · have h' : (chk l != 0) = true := by simp [h]
    simp [h, h']

/-- The records that are late, or those that are not. -/
def recs (late : Bool) : Int → List GEvent → List GRecord
  | _, [] => []
  | m, x :: l => if !x.Mark && (decide (x.Record.Time < m) == late) then x.Record :: recs late (mstep m x) l else recs late (mstep m x) l

theorem recs_len (q : Bool) : ∀ (l : List GEvent) (m : Int), (recs q m l).length ≤ l.length := by
  intro l
  induction l with
  | nil => intro m; exact Nat.le_refl _
  | cons x l ih =>
    intro m
    have := ih (mstep m x)
    simp only [recs]
    split <;> simp only [List.length_cons] <;> omega

theorem late_Split_L0_eq (l : List GEvent) : ∀ (xs : List GEvent) (k : Nat) (a b : List GRecord) (m : Int), a.length + xs.length ≤ 1000000 → b.length + xs.length ≤ 1000000 →
    late_Split_L0 l xs k a b m = some (.x0 (a ++ recs false m xs) (b ++ recs true m xs)) := by
  intro xs
  induction xs with
  | nil => intro k a b m _ _; simp [late_Split_L0, recs]
  | cons x xs ih =>
    intro k a b m ha hb
    simp only [List.length_cons] at ha hb
    rw [late_Split_L0]
    cases hx : x.Mark with
    | true => simp [ih _ a b _ (by omega) (by omega), recs, mstep, hx]
    | false =>
      by_cases ht : x.Record.Time < m
      · simp [ht, capOk_small (show (b.length + 1) * 24 ≤ 140737488355328 by omega), ih _ a (b ++ [x.Record]) _ (by omega) (by simp; omega), recs, mstep, hx]
      · simp [ht, capOk_small (show (a.length + 1) * 24 ≤ 140737488355328 by omega), ih _ (a ++ [x.Record]) b _ (by simp; omega) (by omega), recs, mstep, hx]

def rightS (l : List GEvent) : List GRecord := if chk l = 0 then recs false lowest l else []
def lateS (l : List GEvent) : List GRecord := if chk l = 0 then recs true lowest l else []
theorem late_Split_eq (l : List GEvent) : late_Split l = some (rightS l, lateS l, chk l) := by
  unfold late_Split rightS lateS
  rw [late_Check_eq]
  by_cases h : chk l = 0
  · have := chk_len h
    simp [h, lenOk_small (show l.length ≤ 140737488355328 by omega), late_Split_L0_eq l l 0 [] [] _ (by simp; omega) (by simp; omega), lowest]
  · have h' : (chk l != 0) = true := by simp [h]
    simp [h, h']
end Go.D
