/- Regions whose order is drawn: folds over sets of operations. -/
import Derived.Test.YtioookhnoobpgaaAvStep
namespace Go.Av

/-! A fold over those k < n that are in S. -/
def foldS {V : Type} (f : Nat → V → V) (S : Nat → Bool) : Nat → V → V
  | 0, v => v
  | n + 1, v => bif S n then f n (foldS f S n v) else foldS f S n v

theorem foldS_congr {V : Type} {f : Nat → V → V} {S S' : Nat → Bool} : ∀ (n : Nat) (v : V), (∀ k, k < n → (∀ u, f k u = u) ∨ S k = S' k) → foldS f S n v = foldS f S' n v := by
  intro n
  induction n with
  | zero => intro v _; rfl
  | succ n ih =>
    intro v h
    have := ih v (fun k hk => h k (by omega))
    simp only [foldS, this]
    rcases h n (by omega) with h1 | h1
    · cases S n <;> cases S' n <;> simp [h1]
    · rw [h1]

theorem foldS_insert {V : Type} {f : Nat → V → V} {S : Nat → Bool} {i : Nat} (hi : S i = false) : ∀ (n : Nat) (v : V), i < n → (∀ k, k < n → S k = true → (∀ u, f k u = u) ∨ k < i) →
    foldS f (fun k => S k || Nat.beq k i) n v = f i (foldS f S n v) := by
  intro n
  induction n with
  | zero => intro v h; omega
  | succ n ih =>
    intro v hlt h
    simp only [foldS]
    by_cases hn : n = i
    · subst hn
      have hb : Nat.beq n n = true := by simp
      rw [hi, hb, Bool.false_or, cond_true, cond_false]
      congr 1
      refine foldS_congr n v fun k hk => .inr ?_
      have : Nat.beq k n = false := by rw [← Bool.not_eq_true, Nat.beq_eq]; omega
      simp [this]
    · have hb : Nat.beq n i = false := by rw [← Bool.not_eq_true, Nat.beq_eq]; exact hn
      have := ih v (by omega) (fun k hk => h k (by omega))
      rw [this, hb, Bool.or_false]
      cases hs : S n with
      | false => rfl
      | true =>
        rcases h n (by omega) hs with h1 | h1
        · simp [h1]
        · omega

theorem foldS_none {V : Type} {f : Nat → V → V} : ∀ (n : Nat) (v : V), foldS f (fun _ => false) n v = v
  | 0, _ => rfl
  | n + 1, v => foldS_none n v

/-! What comes before what. -/

def preOf (o : Oper) : List Nat := (o.after.toList.filter (Region.binds .any)).map (·.on)

/-- For each operation the set of those that come before it, as a mask. -/
def masksGo : List Nat → List Oper → List Nat
  | done, [] => done
  | done, o :: r => masksGo (done ++ [(preOf o).foldl (fun m j => m ||| 2 ^ j ||| done.getD j 0) 0]) r

def masks (ops : List Oper) : List Nat := masksGo [] ops

structure MaskOk (l : List Oper) (ms : List Nat) : Prop where
  len : ms.length = l.length
  step : ∀ (i : Nat) o m, l[i]? = some o → ms[i]? = some m → (∀ j ∈ preOf o, j < i) → ∀ q, m.testBit q = true → ∃ j ∈ preOf o, q = j ∨ (ms.getD j 0).testBit q = true

theorem foldl_bits (done : List Nat) : ∀ (l : List Nat) (m q : Nat), (l.foldl (fun m j => m ||| 2 ^ j ||| done.getD j 0) m).testBit q = true → m.testBit q = true ∨ ∃ j ∈ l, q = j ∨ (done.getD j 0).testBit q = true := by
  intro l
  induction l with
  | nil => intro m q h; exact .inl h
  | cons a l ih =>
    intro m q h
    rw [List.foldl_cons] at h
    rcases ih _ q h with h1 | ⟨j, hj, h2⟩
    · rw [Nat.testBit_or, Nat.testBit_or, Nat.testBit_two_pow] at h1
      simp only [Bool.or_eq_true, decide_eq_true_eq] at h1
      rcases h1 with (h1 | h1) | h1
      · exact .inl h1
      · exact .inr ⟨a, List.mem_cons_self .., .inl h1.symm⟩
      · exact .inr ⟨a, List.mem_cons_self .., .inr h1⟩
    · exact .inr ⟨j, List.mem_cons_of_mem _ hj, h2⟩

theorem masksGo_ok : ∀ (r pre : List Oper) (done : List Nat), MaskOk pre done → MaskOk (pre ++ r) (masksGo done r) := by
  intro r
  induction r with
  | nil => intro pre done h; simpa [masksGo] using h
  | cons o r ih =>
    intro pre done h
    have := ih (pre ++ [o]) (done ++ [(preOf o).foldl (fun m j => m ||| 2 ^ j ||| done.getD j 0) 0]) ?_
    · simpa [masksGo] using this
    · refine ⟨by simp [h.len], fun i o' m ho hm hlt q hq => ?_⟩
      have hget : ∀ j, j < done.length → (done ++ [(preOf o).foldl (fun m j => m ||| 2 ^ j ||| done.getD j 0) 0]).getD j 0 = done.getD j 0 := by
        intro j hj
        simp [List.getD, List.getElem?_append_left hj]
      by_cases hi : i < pre.length
      · rw [List.getElem?_append_left hi] at ho
        rw [List.getElem?_append_left (by rw [h.len]; exact hi)] at hm
        obtain ⟨j, hj, h2⟩ := h.step i o' m ho hm hlt q hq
        refine ⟨j, hj, ?_⟩
        rw [hget j (by rw [h.len]; have := hlt j hj; omega)]
        exact h2
      · have hie : i = pre.length := by
          have := (List.getElem?_eq_some_iff.1 ho).1
          simp at this; omega
        subst hie
        simp at ho
        subst ho
        rw [← h.len] at hm
        simp at hm
        subst hm
        rcases foldl_bits done _ 0 q hq with h1 | ⟨j, hj, h2⟩
        · simp at h1
        · refine ⟨j, hj, ?_⟩
          rw [hget j (by rw [h.len]; exact hlt j hj)]
          exact h2

theorem masks_ok (l : List Oper) : MaskOk l (masks l) := by
  have := masksGo_ok l [] [] ⟨rfl, fun i o m h => by simp at h⟩
  simpa [masks] using this

/-- A set that is closed under what comes directly before is closed under the masks. -/
theorem closed_masks {l : List Oper} {S : Nat → Bool} (hpre : ∀ (i : Nat) o, l[i]? = some o → ∀ j ∈ preOf o, j < i) (hS : ∀ (i : Nat) o, l[i]? = some o → S i = true → ∀ j ∈ preOf o, S j = true) :
    ∀ (i : Nat) o, l[i]? = some o → (∀ j ∈ preOf o, S j = true) → ∀ q, ((masks l).getD i 0).testBit q = true → S q = true ∧ q < i := by
  intro i
  induction i using Nat.strongRecOn with
  | _ i ih =>
    intro o ho hj q hq
    have hlt : i < (masks l).length := by rw [(masks_ok l).len]; exact (List.getElem?_eq_some_iff.1 ho).1
    have hm : (masks l)[i]? = some ((masks l).getD i 0) := by simp [List.getD, hlt]
    obtain ⟨j, hjm, h2⟩ := (masks_ok l).step i o _ ho hm (hpre i o ho) q hq
    have hji := hpre i o ho j hjm
    rcases h2 with rfl | h2
    · exact ⟨hj q hjm, hji⟩
    · have hjl : j < l.length := by have := (List.getElem?_eq_some_iff.1 ho).1; omega
      obtain ⟨h3, h4⟩ := ih j hji l[j] (List.getElem?_eq_getElem hjl) (hS j _ (List.getElem?_eq_getElem hjl) (hj j hjm)) q h2
      exact ⟨h3, by omega⟩
end Go.Av
