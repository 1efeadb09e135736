/- Late: the reference, and the laws LateGrows and LateOwn, as plain functions. -/
import Derived.Test.YtioookhnoobpgaaPuLate
set_option linter.all false
namespace Go.D

theorem law20_alive_eq : law20_alive = some true := by rfl
abbrev mkE (t : Int) : GEvent := ⟨true, t, ⟨0, 0, 0⟩⟩
theorem law20_mark_eq (t : Int) : law20_mark t = some (mkE t) := rfl
theorem markF_one (m : Int) (x : GEvent) : markF m [x] = mstep m x := rfl
theorem ref13_Check_eq (t : Int) : ref13_Check t 1 = some (bif isTime t then 0 else 16) := by
  unfold ref13_Check isTime
  by_cases h1 : -1099511627776 ≤ t
  · rw [show decide (t < -1099511627776) = false from decide_eq_false (by omega), decide_eq_true h1]
    by_cases h2 : t ≤ 1099511627776
    · rw [show decide (t > 1099511627776) = false from decide_eq_false (by omega), decide_eq_true h2]; rfl
    · rw [show decide (t > 1099511627776) = true from decide_eq_true (by omega), decide_eq_false h2]; rfl
  · rw [show decide (t < -1099511627776) = true from decide_eq_true (by omega), decide_eq_false h1]; rfl

theorem ref20_Valid_eq (x : GEvent) : ref20_Valid x = some (okEv x) := by
  unfold ref20_Valid okEv final
  simp only [ref13_Check_eq, eqb_GRecord_eq]
  generalize decide (x.Record = ⟨0, 0, 0⟩) = b1
  generalize isTime x.Time = b2
  generalize isTime x.Record.Time = b3
  generalize (x.Time == 9223372036854775807) = b4
  generalize (x.Time == 0) = b5
  generalize x.Mark = b6
  cases b1 <;> cases b2 <;> cases b3 <;> cases b4 <;> cases b5 <;> cases b6 <;> rfl

theorem ref20_Check_L0_eq (l : List GEvent) : ∀ (xs : List GEvent) (k : Nat), ref20_Check_L0 l xs k = some (bif xs.all okEv then .x0 else .x1) := by
  intro xs
  induction xs with
  | nil => intro k; rfl
  | cons x xs ih =>
    intro k
    rw [ref20_Check_L0, ih]
    simp only [ref20_Valid_eq, List.all_cons, Option.bind_some]
    cases okEv x <;> rfl
theorem ref20_Check_eq (l : List GEvent) : ref20_Check l = some (chk l) := by
  unfold ref20_Check chk
  by_cases h : 60 < l.length
  · rw [if_pos h, show decide ((l.length : Int) > 60) = true from decide_eq_true (by omega)]; rfl
  · rw [if_neg h, show decide ((l.length : Int) > 60) = false from decide_eq_false (by omega), lenOk_small (by omega)]
    simp only [cond_false, Option.bind_some, ref20_Check_L0_eq]
    cases l.all okEv <;> rfl

theorem getI_nat {α : Type} (l : List α) (k : Nat) : getI l (k : Int) = l[k]? := by simp [getI]
theorem sliceI_take {α : Type} {l : List α} {k : Nat} (h : k ≤ l.length) : sliceI l 0 (k : Int) = some (l.take k) := by
  simp [sliceI, h]
theorem sliceI_drop {α : Type} {l : List α} {k : Nat} (h : k ≤ l.length) : sliceI l (k : Int) (l.length : Int) = some (l.drop k) := by
  unfold sliceI
  rw [if_pos ⟨by omega, by omega, by simp⟩]
  simp only [Int.toNat_natCast]
  rw [List.take_of_length_le (by simp)]

theorem ref20_Same_L0_eq (a b : List GRecord) (h : a.length = b.length) : ∀ (xs : List GRecord) (k : Nat), a.drop k = xs → ref20_Same_L0 a b xs k = some (bif decide (xs = b.drop k) then .x0 else .x1) := by
  intro xs
  induction xs with
  | nil =>
    intro k hx
    have : a.length ≤ k := by simpa using hx
    rw [ref20_Same_L0, List.drop_of_length_le (by omega)]; rfl
  | cons x xs ih =>
    intro k hx
    have hk : k < a.length := by
      rcases Nat.lt_or_ge k a.length with h1 | h1
      · exact h1
      · rw [List.drop_of_length_le h1] at hx; cases hx
    rw [ref20_Same_L0, getI_nat, List.getElem?_eq_getElem (show k < b.length by omega), Option.bind_some, eqb_GRecord_eq]
    rw [List.drop_eq_getElem_cons hk] at hx
    injection hx with h1 h2
    rw [ih (k + 1) h2, List.drop_eq_getElem_cons (show k < b.length by omega)]
    generalize b.drop (k + 1) = ys
    generalize b[k] = y
    by_cases he : x = y
    · subst he
      simp
    · simp [he]
theorem ref20_Same_eq (a b : List GRecord) (h : a.length ≤ 1000000) : ref20_Same a b = some (decide (a = b)) := by
  unfold ref20_Same
  by_cases hl : a.length = b.length
  · rw [show ((a.length : Int) != (b.length : Int)) = false by simp [hl], lenOk_small (by omega)]
    simp only [cond_false, Option.bind_some, ref20_Same_L0_eq a b hl a 0 rfl, List.drop_zero]
    cases decide (a = b) <;> rfl
  · rw [show ((a.length : Int) != (b.length : Int)) = true by simp; omega]
    have : a ≠ b := fun e => hl (by rw [e])
    simp [this]

theorem chk_ok {l : List GEvent} : chk l = 0 ↔ l.length ≤ 60 ∧ ∀ x ∈ l, okEv x = true := by
  unfold chk
  constructor
  · intro h
    split at h
    · cases h
    · refine ⟨by omega, ?_⟩
      cases ha : l.all okEv with
      | true => exact List.all_eq_true.1 ha
      | false => rw [ha] at h; cases h
  · rintro ⟨h1, h2⟩
    rw [if_neg (by omega), List.all_eq_true.2 h2]; rfl

theorem markF_mono (l : List GEvent) : ∀ m : Int, m ≤ markF m l := by
  induction l with
  | nil => intro m; exact Int.le_refl _
  | cons x l ih =>
    intro m
    refine Int.le_trans ?_ (ih (mstep m x))
    unfold mstep; split <;> (try split) <;> omega
theorem markF_append (a b : List GEvent) (m : Int) : markF m (a ++ b) = markF (markF m a) b := List.foldl_append ..
theorem recs_append (q : Bool) : ∀ (a b : List GEvent) (m : Int), recs q m (a ++ b) = recs q m a ++ recs q (markF m a) b := by
  intro a
  induction a with
  | nil => intro b m; rfl
  | cons x a ih =>
    intro b m
    have h1 : markF m (x :: a) = markF (mstep m x) a := rfl
    rw [h1]
    simp only [recs, List.cons_append, ih]
    split <;> rfl

theorem wrap_small {z : Int} (h1 : -9223372036854775808 ≤ z) (h2 : z ≤ 9223372036854775807) : IntKind.i64.wrap z = z := Go.IntWalk.i64_in z ⟨h1, h2⟩

theorem grows_L0 (l : List GEvent) (hc : chk l = 0) (w t : Int) (v : Bool) : ∀ (j k n : Nat), k + j = l.length → j + 2 ≤ n →
    law20_LateGrows_L0 l w t v n (if k = 0 then lowest else markF lowest (l.take (k - 1))) (k : Int) = some (.x1 (markF lowest l)) := by
  obtain ⟨hl, hok⟩ := chk_ok.1 hc
  have step : ∀ k, k ≤ l.length → chk (l.take k) = 0 := fun k _ => chk_ok.2 ⟨by simp; omega, fun x hx => hok x (List.mem_of_mem_take hx)⟩
  have le : ∀ k, (if k = 0 then lowest else markF lowest (l.take (k - 1))) ≤ markF lowest (l.take k) := by
    intro k
    split
    · exact markF_mono _ _
    · rename_i h
      have : l.take k = l.take (k - 1) ++ (l.drop (k - 1)).take 1 := by rw [← List.take_add]; congr 1; omega
      rw [this, markF_append]
      exact markF_mono _ _
  intro j
  induction j with
  | zero =>
    intro k n hk hn
    obtain ⟨n, rfl⟩ : ∃ m, n = m + 2 := ⟨n - 2, by omega⟩
    have hk' : k = l.length := by omega
    subst hk'
    rw [law20_LateGrows_L0]
    have h1 := le l.length
    simp only [sliceI_take (Nat.le_refl _), late_Mark_eq, List.take_length, hc, Option.bind_some, if_true] at h1 ⊢
    rw [decide_eq_true (Int.le_refl _), decide_eq_false (show ¬ markF lowest l < _ by omega)]
    simp only [cond_true, bne_self_eq_false, cond_false]
    rw [law20_LateGrows_L0, wrap_small (by omega) (by omega), decide_eq_false (by omega)]; rfl
  | succ j ih =>
    intro k n hk hn
    obtain ⟨n, rfl⟩ : ∃ m, n = m + 1 := ⟨n - 1, by omega⟩
    rw [law20_LateGrows_L0]
    have h1 := le k
    have h2 := ih (k + 1) n (by omega) (by omega)
    rw [if_neg (by omega)] at h2
    simp only [sliceI_take (show k ≤ l.length by omega), late_Mark_eq, step k (by omega), Option.bind_some, if_true]
    rw [decide_eq_true (show (k : Int) ≤ (l.length : Int) by omega), decide_eq_false (show ¬ markF lowest (l.take k) < _ by omega)]
    simp only [cond_true, bne_self_eq_false, cond_false]
    rw [wrap_small (by omega) (by omega)]
    exact h2

theorem law20_LateGrows_eq (l : List GEvent) (w t : Int) : law20_LateGrows l w t = some true := by
  unfold law20_LateGrows
  simp only [law20_alive_eq, ref20_Check_eq, Option.bind_some]
  by_cases hc : chk l = 0
  · by_cases h1 : 60 ≤ l.length
    · have h1' : decide ((l.length : Int) ≥ 60) = true := decide_eq_true (by omega)
      simp [hc, h1']
    · have h1' : decide ((l.length : Int) ≥ 60) = false := decide_eq_false (by omega)
      by_cases h2 : w < 0
      · simp [hc, h1', h2]
      · by_cases h3 : w > (l.length : Int)
        · simp [hc, h1', h2, h3]
        · obtain ⟨k, rfl⟩ : ∃ k : Nat, w = k := ⟨w.toNat, by omega⟩
          have hk : k ≤ l.length := by omega
          obtain ⟨hl, hok⟩ := chk_ok.1 hc
          have hT : chk (l.take k) = 0 := chk_ok.2 ⟨by simp; omega, fun x hx => hok x (List.mem_of_mem_take hx)⟩
          have hL := grows_L0 l hc k t true l.length 0 FU (by omega) (by unfold FU; omega)
          simp only [if_true] at hL
          have hL : law20_LateGrows_L0 l k t true FU (-9223372036854775808) 0 = some (.x1 (markF lowest l)) := hL
          simp only [hc, h1', hL, sliceI_take hk, sliceI_drop hk, late_Mark_eq, hT, law20_mark_eq, ref20_Valid_eq, show decide ((k : Int) < 0) = false from decide_eq_false h2, show decide ((k : Int) > (l.length : Int)) = false from decide_eq_false h3,
            bne_self_eq_false, cond_false, cond_true, Bool.not_true, Option.bind_some, if_true, beq_self_eq_true]
          by_cases h4 : t > markF lowest (l.take k)
          · simp [h4]
          · cases h5 : okEv (mkE t) with
            | false => simp [h4, h5]
            | true =>
              have hm : markF lowest ((l.take k ++ [mkE t]) ++ l.drop k) = markF lowest l := by
                conv => rhs; rw [← List.take_append_drop k l]
                rw [markF_append, markF_append, markF_append]
                congr 1
                rw [markF_one]; unfold mstep; rw [if_pos rfl, if_neg h4]
              have hr : ∀ q, recs q lowest ((l.take k ++ [mkE t]) ++ l.drop k) = recs q lowest l := by
                intro q
                conv => rhs; rw [← List.take_append_drop k l]
                rw [recs_append, recs_append, recs_append, markF_append]
                have h6 : markF (markF lowest (l.take k)) [mkE t] = markF lowest (l.take k) := by
                  rw [markF_one]; unfold mstep; rw [if_pos rfl, if_neg h4]
                rw [h6]
                simp [recs]
              have hn : chk ((l.take k ++ [mkE t]) ++ l.drop k) = 0 := by
                refine chk_ok.2 ⟨by simp; omega, fun x hx => ?_⟩
                rcases List.mem_append.1 hx with hx | hx
                · rcases List.mem_append.1 hx with hx | hx
                  · exact hok x (List.mem_of_mem_take hx)
                  · rw [List.mem_singleton.1 hx]; exact h5
                · exact hok x (List.mem_of_mem_drop hx)
              have hlen : ((l.take k ++ [mkE t]) ++ l.drop k).length = l.length + 1 := by simp; omega
              have s1 : (recs false lowest l).length ≤ 1000000 := Nat.le_trans (recs_len _ _ _) (by omega)
              have s2 : (recs true lowest l).length ≤ 1000000 := Nat.le_trans (recs_len _ _ _) (by omega)
              have c1 : capOk (l.take k).length 40 = some () := capOk_small (by simp; omega)
              have c2 : capOk (l.take k ++ [mkE t]).length 40 = some () := capOk_small (by simp; omega)
              have c3 : capOk ((l.take k ++ [mkE t]) ++ l.drop k).length 40 = some () := capOk_small (by rw [hlen]; omega)
              simp only [c1, c2, c3, late_Mark_eq, late_Split_eq, hn, hc, hm, if_true, rightS, lateS, hr, ref20_Same_eq _ _ s1, ref20_Same_eq _ _ s2, Option.bind_some, h5, show decide (t > markF lowest (l.take k)) = false from decide_eq_false h4,
                bne_self_eq_false, cond_false, cond_true, Bool.not_true, beq_self_eq_true, decide_true]
              cases (l.take k).isEmpty <;> cases (l.drop k).isEmpty <;> rfl
  · have h' : (chk l != 0) = true := by simp [hc]
    simp [h']
end Go.D
