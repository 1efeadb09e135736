/- What Part and Same answer: multisets, by counting. -/
import Derived.Test.YtioookhnoobpgaaDFun
set_option linter.all false
namespace Go.D
open Go.Av
section
variable {α : Type} [DecidableEq α]
theorem wrap_near {z : Int} (h1 : -4611686018427387904 ≤ z) (h2 : z ≤ 4611686018427387904) : IntKind.i64.wrap z = z := wrap_i64 (by omega) (by omega)

theorem addAll_get : ∀ (xs : List α) (ks : List (α × Int)), (∀ y, 0 ≤ getA y ks ∧ getA y ks + xs.length ≤ 4611686018427387904) → ∀ y, getA y (addAll ks xs) = getA y ks + xs.count y := by
  intro xs
  induction xs with
  | nil => intro ks _ y; simp [addAll]
  | cons x xs ih =>
    intro ks h y
    have hx := h x
    simp only [List.length_cons] at hx
    have hw : IntKind.i64.wrap (getA x ks + 1) = getA x ks + 1 := wrap_near (by omega) (by omega)
    rw [addAll, hw]
    rw [ih]
    · by_cases hy : y = x
      · subst hy; rw [getA_set, List.count_cons_self]; omega
      · rw [getA_set_ne hy, List.count_cons_of_ne (fun e => hy e.symm)]
    · intro z
      have hz := h z
      simp only [List.length_cons] at hz
      by_cases hy : z = x
      · subst hy; rw [getA_set]; omega
      · rw [getA_set_ne hy]; omega

theorem subAll_iff : ∀ (xs : List α) (ks : List (α × Int)), (∀ y, 0 ≤ getA y ks ∧ getA y ks ≤ 4611686018427387904) → (subAll ks xs = true ↔ ∀ y, (xs.count y : Int) ≤ getA y ks) := by
  intro xs
  induction xs with
  | nil => intro ks h; simp [subAll]; exact fun y => (h y).1
  | cons x xs ih =>
    intro ks h
    have hx := h x
    have hw : IntKind.i64.wrap (getA x ks - 1) = getA x ks - 1 := wrap_near (by omega) (by omega)
    rw [subAll, hw, getA_set]
    by_cases hn : getA x ks - 1 < 0
    · rw [decide_eq_true hn, cond_true]
      constructor
      · intro h; cases h
      · intro h2
        have := h2 x
        rw [List.count_cons_self] at this
        omega
    · rw [decide_eq_false hn, cond_false, ih]
      · constructor
        · intro h2 y
          have h3 := h2 y
          by_cases hy : y = x
          · subst hy; rw [getA_set] at h3; rw [List.count_cons_self]; omega
          · rw [getA_set_ne hy] at h3; rw [List.count_cons_of_ne (fun e => hy e.symm)]; exact h3
        · intro h2 y
          have h3 := h2 y
          by_cases hy : y = x
          · subst hy; rw [getA_set]; rw [List.count_cons_self] at h3; omega
          · rw [getA_set_ne hy]; rw [List.count_cons_of_ne (fun e => hy e.symm)] at h3; exact h3
      · intro z
        have hz := h z
        by_cases hy : z = x
        · subst hy; rw [getA_set]; omega
        · rw [getA_set_ne hy]; exact hz

theorem within_iff (a b : List α) (hb : b.length ≤ 4611686018427387904) : subAll (addAll [] b) a = true ↔ ∀ y, a.count y ≤ b.count y := by
  have h0 : ∀ y, getA y (addAll [] b) = b.count y := fun y => by
    rw [addAll_get b [] (fun y => by simp [getA]; omega)]; simp [getA]
  rw [subAll_iff]
  · constructor
    · intro h y; have := h y; rw [h0] at this; omega
    · intro h y; have := h y; rw [h0]; omega
  · intro y
    rw [h0]
    have := List.count_le_length (a := y) (l := b)
    omega

theorem count_len : ∀ (a b : List α), (∀ y, a.count y ≤ b.count y) → a.length ≤ b.length ∧ (a.length = b.length → ∀ y, b.count y ≤ a.count y) := by
  intro a
  induction a with
  | nil =>
    intro b _
    refine ⟨by simp, fun h y => ?_⟩
    have : b = [] := List.eq_nil_of_length_eq_zero (by simpa using h.symm)
    subst this; simp
  | cons x a ih =>
    intro b h
    have hx : x ∈ b := by
      have := h x
      rw [List.count_cons_self] at this
      exact List.count_pos_iff.1 (by omega)
    have hp := List.perm_cons_erase hx
    have hc : ∀ y, b.count y = (x :: b.erase x).count y := fun y => hp.count_eq y
    obtain ⟨h1, h2⟩ := ih (b.erase x) (fun y => by
      have h3 := h y
      rw [hc y] at h3
      by_cases hy : y = x
      · subst hy; rw [List.count_cons_self, List.count_cons_self] at h3; omega
      · rw [List.count_cons_of_ne (fun e => hy e.symm), List.count_cons_of_ne (fun e => hy e.symm)] at h3; exact h3)
    have hl : b.length = (b.erase x).length + 1 := by rw [hp.length_eq]; simp
    refine ⟨by simp; omega, fun he y => ?_⟩
    have h3 := h2 (by simp at he; omega) y
    rw [hc y]
    by_cases hy : y = x
    · subst hy; rw [List.count_cons_self, List.count_cons_self]; omega
    · rw [List.count_cons_of_ne (fun e => hy e.symm), List.count_cons_of_ne (fun e => hy e.symm)]; exact h3

theorem within_same (a b : List α) (ha : a.length ≤ 4611686018427387904) (hb : b.length ≤ 4611686018427387904) : (subAll (addAll [] b) a && subAll (addAll [] a) b) = (subAll (addAll [] b) a && decide (a.length = b.length)) := by
  rw [Bool.eq_iff_iff]
  simp only [Bool.and_eq_true, decide_eq_true_eq]
  rw [within_iff a b hb, within_iff b a ha]
  constructor
  · rintro ⟨h1, h2⟩
    refine ⟨h1, ?_⟩
    have := (count_len a b h1).1
    have := (count_len b a h2).1
    omega
  · rintro ⟨h1, h2⟩
    exact ⟨h1, (count_len a b h1).2 h2⟩
end

theorem g4000 (n : Nat) : decide ((n : Int) > 4000) = decide (4000 < n) := decide_eq_decide.2 (by omega)
theorem g100 (n : Nat) : decide ((n : Int) > 100) = decide (100 < n) := decide_eq_decide.2 (by omega)
theorem g4010 (n : Nat) : decide ((n : Int) > 4010) = decide (4010 < n) := decide_eq_decide.2 (by omega)
theorem l4000 (n : Nat) : decide ((n : Int) ≤ 4000) = decide (n ≤ 4000) := decide_eq_decide.2 (by omega)
def manyB (x : GOutputs) : Bool := decide (4000 < x.Rows.length) || decide (4000 < x.Late.length)
theorem many_eq (x : GOutputs) : ref40_many x = some (manyB x) := by
  unfold ref40_many manyB
  simp only [g4000]
  by_cases h1 : 4000 < x.Rows.length <;> by_cases h2 : 4000 < x.Late.length <;> simp [h1, h2]
theorem check_eq (a b : GOutputs) : prefix_check [a, b] = some (if manyB a || manyB b then 4 else 0) := by
  have h0 : prefix_check_L0 [a, b] [a, b] 0 = some (if manyB a || manyB b then .x1 else .x0) := by
    unfold manyB
    simp only [prefix_check_L0, g4000]
    by_cases h1 : 4000 < a.Rows.length <;> by_cases h2 : 4000 < a.Late.length <;> by_cases h3 : 4000 < b.Rows.length <;> by_cases h4 : 4000 < b.Late.length <;> simp [h1, h2, h3, h4]
  unfold prefix_check
  rw [h0]
  by_cases h : (manyB a || manyB b) = true
  · simp [h, lenOk]
  · simp [h, lenOk]

def greatB (x : GOutputs) : Bool := decide (100 < x.Rows.length ∧ x.Rows.length ≤ 4000) || decide (4010 < x.Rows.length) || decide (100 < x.Late.length ∧ x.Late.length ≤ 4000) || decide (4010 < x.Late.length)
theorem great_eq (x : GOutputs) : ref40_Great x = some (greatB x) := by
  unfold ref40_Great greatB
  simp only [g4000, g100, g4010, l4000]
  by_cases h1 : 100 < x.Rows.length <;> by_cases h2 : x.Rows.length ≤ 4000 <;> by_cases h3 : 4010 < x.Rows.length <;> by_cases h4 : 100 < x.Late.length <;> by_cases h5 : x.Late.length ≤ 4000 <;> by_cases h6 : 4010 < x.Late.length <;> simp [h1, h2, h3, h4, h5, h6]
theorem great_few {x : GOutputs} (h : greatB x = false) : x.Rows.length ≤ 4010 ∧ x.Late.length ≤ 4010 := by
  simp [greatB] at h; omega

theorem lenOk_ok {n : Nat} (h : n ≤ 140737488355328) : lenOk n = some () := by unfold lenOk; rw [if_pos h]

theorem In_eq {a b : GOutputs} (wa : wf_GOutputs a) (wb : wf_GOutputs b) (ha : greatB a = false) (hb : greatB b = false) : ref40_In a b = some (subAll (addAll [] b.Rows) a.Rows && subAll (addAll [] b.Late) a.Late) := by
  obtain ⟨a1, a2⟩ := great_few ha
  obtain ⟨b1, b2⟩ := great_few hb
  unfold ref40_In
  rw [lenOk_ok (by omega), lenOk_ok (by omega), lenOk_ok (by omega), lenOk_ok (by omega), wfOk_ok wa.1.2, wfOk_ok wa.2.2, wfOk_ok wb.1.2, wfOk_ok wb.2.2]
  simp only [Option.bind_some]
  cases subAll (addAll [] b.Rows) a.Rows <;> rfl

theorem Part_eq {a b : GOutputs} (wa : wf_GOutputs a) (wb : wf_GOutputs b) (ha : greatB a = false) (hb : greatB b = false) : prefix_Part a b = some (if manyB a || manyB b then (false, 4) else (subAll (addAll [] b.Rows) a.Rows && subAll (addAll [] b.Late) a.Late, 0)) := by
  obtain ⟨a1, a2⟩ := great_few ha
  obtain ⟨b1, b2⟩ := great_few hb
  have hr : prefix_within_Row a.Rows b.Rows = some (subAll (addAll [] b.Rows) a.Rows) := by
    unfold prefix_within_Row
    rw [lenOk_ok (by omega), lenOk_ok (by omega), wfOk_ok wa.1.2, wfOk_ok wb.1.2]; rfl
  have hl : prefix_within_Record a.Late b.Late = some (subAll (addAll [] b.Late) a.Late) := by
    unfold prefix_within_Record
    rw [lenOk_ok (by omega), lenOk_ok (by omega), wfOk_ok wa.2.2, wfOk_ok wb.2.2]; rfl
  unfold prefix_Part
  rw [check_eq, hr, hl]
  cases h : (manyB a || manyB b)
  · cases subAll (addAll [] b.Rows) a.Rows <;> simp
  · simp

theorem PartR_eq {a b : GOutputs} (wa : wf_GOutputs a) (wb : wf_GOutputs b) (ha : greatB a = false) (hb : greatB b = false) : ref40_Part a b = some (if manyB a || manyB b then (false, 4) else (subAll (addAll [] b.Rows) a.Rows && subAll (addAll [] b.Late) a.Late, 0)) := by
  unfold ref40_Part
  rw [many_eq, many_eq, In_eq wa wb ha hb]
  cases manyB a <;> cases manyB b <;> simp

theorem Same_eq {a b : GOutputs} (wa : wf_GOutputs a) (wb : wf_GOutputs b) (ha : greatB a = false) (hb : greatB b = false) : prefix_Same a b = ref40_Same a b := by
  obtain ⟨a1, a2⟩ := great_few ha
  obtain ⟨b1, b2⟩ := great_few hb
  unfold prefix_Same ref40_Same
  rw [many_eq, many_eq, In_eq wa wb ha hb, In_eq wb wa hb ha, Part_eq wa wb ha hb]
  have h1 := within_same a.Rows b.Rows (by omega) (by omega)
  have h2 := within_same a.Late b.Late (by omega) (by omega)
  cases hma : manyB a <;> cases hmb : manyB b
  · have e1 : ((a.Rows.length : Int) == (b.Rows.length : Int)) = decide (a.Rows.length = b.Rows.length) := by
      rw [Bool.eq_iff_iff]; simp; omega
    have e2 : ((a.Late.length : Int) == (b.Late.length : Int)) = decide (a.Late.length = b.Late.length) := by
      rw [Bool.eq_iff_iff]; simp; omega
    simp only [e1, e2]
    revert h1 h2
    cases subAll (addAll [] b.Rows) a.Rows <;> cases subAll (addAll [] b.Late) a.Late <;> cases subAll (addAll [] a.Rows) b.Rows <;> cases subAll (addAll [] a.Late) b.Late <;> cases decide (a.Rows.length = b.Rows.length) <;> cases decide (a.Late.length = b.Late.length) <;> simp
  all_goals simp

theorem law40_PrefixParts_eq (a b : GOutputs) (wa : wf_GOutputs a) (wb : wf_GOutputs b) : law40_PrefixParts a b = some true := by
  unfold law40_PrefixParts
  rw [great_eq, great_eq]
  cases ha : greatB a
  · cases hb : greatB b
    · simp only [Option.bind_some, cond_false]
      rw [Same_eq wa wb ha hb, Part_eq wa wb ha hb, PartR_eq wa wb ha hb]
      have : ∃ v, ref40_Same a b = some v := by
        unfold ref40_Same
        rw [many_eq, many_eq, In_eq wa wb ha hb, In_eq wb wa hb ha]
        cases manyB a <;> cases manyB b <;> simp
        cases subAll (addAll [] b.Rows) a.Rows <;> cases subAll (addAll [] b.Late) a.Late <;> cases subAll (addAll [] a.Rows) b.Rows <;> cases subAll (addAll [] a.Late) b.Late <;> simp
      obtain ⟨v, hv⟩ := this
      rw [hv]
      simp
    · simp
  · simp
end Go.D
