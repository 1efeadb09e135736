/- The law LateOwn, as a plain function. -/
import Derived.Test.YtioookhnoobpgaaPuLate2
set_option linter.all false
namespace Go.D

theorem recs_marks (q : Bool) : ∀ (l : List GEvent) (m : Int), (∀ x ∈ l, x.Mark = true) → recs q m l = [] := by
  intro l
  induction l with
  | nil => intro m _; rfl
  | cons x l ih =>
    intro m h
    simp only [recs, h x (List.mem_cons_self ..), Bool.not_true, Bool.false_and, Bool.false_eq_true, if_false]
    exact ih _ fun y hy => h y (List.mem_cons_of_mem _ hy)

theorem get_mid {α : Type} (A R : List α) (r : α) : (A ++ r :: R)[A.length]? = some r := by simp

theorem own_L0 (l : List GEvent) (right behind : List GRecord) (hr : right.length ≤ 60) (hb : behind.length ≤ 60) : ∀ (xs : List GEvent) (k : Nat) (m : Int) (A B : List GRecord) (ms : List GEvent),
    right = A ++ recs false m xs → behind = B ++ recs true m xs → m = markF lowest ms → (∀ x ∈ ms, x.Mark = true ∧ okEv x = true) → (∀ x ∈ xs, okEv x = true) → ms.length + xs.length ≤ 60 →
    law20_LateOwn_L0 l true right behind xs k (A.length : Int) (B.length : Int) ms = some (.x0 (right.length : Int) (behind.length : Int)) := by
  intro xs
  induction xs with
  | nil =>
    intro k m A B ms h1 h2 _ _ _ _
    simp only [recs, List.append_nil] at h1 h2
    rw [law20_LateOwn_L0, h1, h2]
  | cons x xs ih =>
    intro k m A B ms h1 h2 hm hms hxs hlen
    simp only [List.length_cons] at hlen
    have hx := hxs x (List.mem_cons_self ..)
    have hxs' : ∀ y ∈ xs, okEv y = true := fun y hy => hxs y (List.mem_cons_of_mem _ hy)
    rw [law20_LateOwn_L0]
    have c1 : capOk ms.length 40 = some () := capOk_small (by omega)
    have c2 : capOk (ms ++ [x]).length 40 = some () := capOk_small (by simp; omega)
    cases hk : x.Mark with
    | true =>
      have e : ∀ q, recs q m (x :: xs) = recs q (mstep m x) xs := fun q => by simp [recs, hk]
      rw [e] at h1 h2
      have := ih (k + 1) (mstep m x) A B (ms ++ [x]) h1 h2 (by rw [markF_append, markF_one, hm]) (fun y hy => by
        rcases List.mem_append.1 hy with hy | hy
        · exact hms y hy
        · rw [List.mem_singleton.1 hy]; exact ⟨hk, hx⟩) hxs' (by simp; omega)
      simp only [cond_true, c2, Option.bind_some, this]
    | false =>
      have hc : chk (ms ++ [x]) = 0 := chk_ok.2 ⟨by simp; omega, fun y hy => by
        rcases List.mem_append.1 hy with hy | hy
        · exact (hms y hy).2
        · rw [List.mem_singleton.1 hy]; exact hx⟩
      have hq : ∀ q, recs q lowest (ms ++ [x]) = recs q m [x] := fun q => by
        rw [recs_append, recs_marks q ms _ (fun y hy => (hms y hy).1), ← hm]; rfl
      have hst : mstep m x = m := by unfold mstep; rw [hk]; rfl
      have w1 : IntKind.i64.wrap 1 = 1 := rfl
      simp only [late_Split_eq, rightS, lateS, hc, if_true, hq, c1, c2, Option.bind_some, bne_self_eq_false, cond_false]
      by_cases ht : x.Record.Time < m
      · have e1 : recs false m [x] = [] := by simp [recs, hk, ht]
        have e2 : recs true m [x] = [x.Record] := by simp [recs, hk, ht]
        have f1 : recs false m (x :: xs) = recs false m xs := by simp [recs, hk, ht, hst]
        have f2 : recs true m (x :: xs) = x.Record :: recs true m xs := by simp [recs, hk, ht, hst]
        rw [f1] at h1
        rw [f2] at h2
        have hB : B.length < behind.length := by rw [h2]; simp
        have hg : getI behind (B.length : Int) = some x.Record := by rw [getI_nat, h2, get_mid]
        have := ih (k + 1) m A (B ++ [x.Record]) ms h1 (by rw [h2]; simp) hm hms hxs' (by omega)
        rw [show ((B ++ [x.Record]).length : Int) = (B.length : Int) + 1 by simp] at this
        simp only [e1, e2, List.length_nil, List.length_cons, Int.natCast_zero, Int.zero_add, w1, show ((0 + 1 : Nat) : Int) = 1 from rfl, bne_self_eq_false, cond_false, show ((0 : Int) == 1) = false from rfl, decide_eq_false (show ¬ ((B.length : Int) ≥ (behind.length : Int)) by omega), hg, Option.bind_some,
          eqb_GRecord_eq, decide_true, Bool.not_true, wrap_small (z := (B.length : Int) + 1) (by omega) (by omega), this]
        cases ms.isEmpty <;> rfl
      · have e1 : recs false m [x] = [x.Record] := by simp [recs, hk, ht]
        have e2 : recs true m [x] = [] := by simp [recs, hk, ht]
        have f1 : recs false m (x :: xs) = x.Record :: recs false m xs := by simp [recs, hk, ht, hst]
        have f2 : recs true m (x :: xs) = recs true m xs := by simp [recs, hk, ht, hst]
        rw [f1] at h1
        rw [f2] at h2
        have hA : A.length < right.length := by rw [h1]; simp
        have hg : getI right (A.length : Int) = some x.Record := by rw [getI_nat, h1, get_mid]
        have := ih (k + 1) m (A ++ [x.Record]) B ms (by rw [h1]; simp) h2 hm hms hxs' (by omega)
        rw [show ((A ++ [x.Record]).length : Int) = (A.length : Int) + 1 by simp] at this
        simp only [e1, e2, List.length_nil, List.length_cons, Int.natCast_zero, Int.add_zero, w1, show ((0 + 1 : Nat) : Int) = 1 from rfl, bne_self_eq_false, cond_false, cond_true, beq_self_eq_true, decide_eq_false (show ¬ ((A.length : Int) ≥ (right.length : Int)) by omega), hg, Option.bind_some,
          eqb_GRecord_eq, decide_true, Bool.not_true, wrap_small (z := (A.length : Int) + 1) (by omega) (by omega), this]
        cases ms.isEmpty <;> rfl

theorem law20_LateOwn_eq (l : List GEvent) : law20_LateOwn l = some true := by
  unfold law20_LateOwn
  simp only [law20_alive_eq, ref20_Check_eq, Option.bind_some]
  by_cases hc : chk l = 0
  · obtain ⟨hl, hok⟩ := chk_ok.1 hc
    have s1 : (recs false lowest l).length ≤ 60 := Nat.le_trans (recs_len _ _ _) (by omega)
    have s2 : (recs true lowest l).length ≤ 60 := Nat.le_trans (recs_len _ _ _) (by omega)
    have h := own_L0 l _ _ s1 s2 l 0 lowest [] [] [] rfl rfl rfl (fun x hx => by cases hx) hok (by simpa using hl)
    simp only [List.length_nil, Int.natCast_zero] at h
    have h : law20_LateOwn_L0 l true (recs false lowest l) (recs true lowest l) l 0 0 0 [] = _ := h
    simp [hc, late_Split_eq, rightS, lateS, lenOk_small (show l.length ≤ 140737488355328 by omega), h]
  · have h' : (chk l != 0) = true := by simp [hc]
    simp [h']
end Go.D
