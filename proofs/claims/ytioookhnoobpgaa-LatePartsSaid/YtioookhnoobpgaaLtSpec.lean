/- Late: events and records as data, what the functions compute. -/
import Derived.Test.YtioookhnoobpgaaAvSym5
namespace Go.Av.Lt

structure R3 where
  key : Int
  time : Int
  value : Int
  deriving DecidableEq, Inhabited
structure Ev where
  mark : Bool
  time : Int
  r : R3
  deriving DecidableEq, Inhabited

abbrev i64 (z : Int) : AV := .sc (.int .i64 z)
abbrev bo (b : Bool) : AV := .sc (.bool b)
def encR (r : R3) : AV := .agg [i64 r.key, i64 r.time, i64 r.value]
def encE (x : Ev) : AV := .agg [bo x.mark, i64 x.time, i64 x.r.key, i64 x.r.time, i64 x.r.value]
def encEs (own : Bool) (l : List Ev) : AV := .list own (l.map encE)
def encRs (own : Bool) (l : List R3) : AV := .list own (l.map encR)

def lowest : Int := -9223372036854775808
def final : Int := 9223372036854775807
def isTime (t : Int) : Bool := decide (-1099511627776 ≤ t) && decide (t ≤ 1099511627776)

def R3.zero (r : R3) : Bool := r.key == 0 && r.time == 0 && r.value == 0
def okEv (x : Ev) : Bool := if x.mark then x.r.zero && (isTime x.time || x.time == final) else x.time == 0 && isTime x.r.time
def chk (l : List Ev) : Int := if 60 < l.length then 4 else if l.all okEv then 0 else 8

/-- The mark behind an event. -/
def mstep (m : Int) (x : Ev) : Int := if x.mark then (if x.time > m then x.time else m) else m
def markF (m : Int) (l : List Ev) : Int := l.foldl mstep m
def markS (l : List Ev) : Int × Int := if chk l = 0 then (markF lowest l, 0) else (0, chk l)

/-- The records that are late, or those that are not. -/
def recs (late : Bool) : Int → List Ev → List R3
  | _, [] => []
  | m, x :: l => if !x.mark && (decide (x.r.time < m) == late) then x.r :: recs late (mstep m x) l else recs late (mstep m x) l
def rightS (l : List Ev) : List R3 := if chk l = 0 then recs false lowest l else []
def lateS (l : List Ev) : List R3 := if chk l = 0 then recs true lowest l else []

/-- A slice that is nil as long as it holds nothing, else an object. -/
def slA (id : Nat) (es : List AV) : AV :=
  match es with
  | [] => .nils
  | e :: r => .ref id 0 (e :: r).length
def optG (id esz : Nat) (es : List AV) : List (Nat × Obj) :=
  match es with
  | [] => []
  | e :: r => [(id, { es := e :: r, esz := esz })]

theorem flatR (l : List R3) : ∀ e ∈ l.map encR, FlatE e := by
  intro e he
  obtain ⟨r, _, rfl⟩ := List.mem_map.1 he
  intro a ha
  simp only [encR, AV.cells, List.mem_cons, List.not_mem_nil, or_false] at ha
  rcases ha with rfl | rfl | rfl <;> exact ⟨_, rfl⟩
theorem flatE (l : List Ev) : ∀ e ∈ l.map encE, FlatE e := by
  intro e he
  obtain ⟨r, _, rfl⟩ := List.mem_map.1 he
  intro a ha
  simp only [encE, AV.cells, List.mem_cons, List.not_mem_nil, or_false] at ha
  rcases ha with rfl | rfl | rfl | rfl | rfl <;> exact ⟨_, rfl⟩
theorem cvEs {H : Heap} {own : Bool} {l : List Ev} : Cv false H (encEs own l) (encEs false l) := cv_list (flatE l)
theorem cvRs {H : Heap} {own : Bool} {l : List R3} : Cv false H (encRs own l) (encRs false l) := cv_list (flatR l)
theorem ownRs (l : List R3) : OwnO (encRs true l) := ownO_list (flatR l)
theorem okEs (own : Bool) (l : List Ev) (M : Nat → Prop) : (encEs own l).Ok M := .list
theorem getE (l : List Ev) (k : Nat) (h : k < l.length) : (l.map encE)[((k : Nat) : Int).toNat]? = some (encE l[k]) := ix_map (List.getElem?_eq_getElem h)
theorem getR (l : List R3) (k : Nat) (h : k < l.length) : (l.map encR)[((k : Nat) : Int).toNat]? = some (encR l[k]) := ix_map (List.getElem?_eq_getElem h)
theorem okE (x : Ev) (M : Nat → Prop) : (encE x).Ok M := .agg fun a ha => by
  simp only [List.mem_cons, List.not_mem_nil, or_false] at ha
  rcases ha with rfl | rfl | rfl | rfl | rfl <;> exact .sc
theorem cvE {m : Bool} {H : Heap} {x : Ev} : Cv m H (encE x) (encE x) := .agg rfl fun i a b ha hb => by
  rw [ha] at hb; cases hb
  have := List.mem_of_getElem? ha
  simp only [List.mem_cons, List.not_mem_nil, or_false] at this
  rcases this with rfl | rfl | rfl | rfl | rfl <;> exact .sc
theorem cv_bo {m : Bool} {H : Heap} {a b : Bool} (h : a = b) : Cv m H (bo a) (bo b) := by rw [h]; exact .sc
theorem cv_i64 {m : Bool} {H : Heap} {a b : Int} (h : a = b) : Cv m H (i64 a) (i64 b) := by rw [h]; exact .sc
theorem stillR (l : List R3) : ∀ e ∈ l.map encR, StillE e := by
  intro e he θ
  obtain ⟨r, _, rfl⟩ := List.mem_map.1 he
  rfl
theorem neR {x y : R3} (h : x ≠ y) : (!(x.key == y.key && (x.time == y.time && (x.value == y.value && true)))) = true := by
  cases hb : (x.key == y.key && (x.time == y.time && (x.value == y.value && true))) with
  | false => rfl
  | true =>
    simp only [Bool.and_eq_true, beq_iff_eq, and_true] at hb
    obtain ⟨a, b, c⟩ := x
    obtain ⟨a', b', c'⟩ := y
    simp only at hb
    obtain ⟨rfl, rfl, rfl⟩ := hb
    exact absurd rfl h
theorem flat1R (r : R3) : FlatE (encR r) := flatR [r] _ (List.mem_singleton.2 rfl)
theorem still1R (r : R3) : StillE (encR r) := stillR [r] _ (List.mem_singleton.2 rfl)
theorem recs_len (q : Bool) : ∀ (l : List Ev) (m : Int), (recs q m l).length ≤ l.length := by
  intro l
  induction l with
  | nil => intro m; exact Nat.le_refl _
  | cons x l ih =>
    intro m
    have := ih (mstep m x)
    simp only [recs]
    split <;> simp only [List.length_cons] <;> omega
theorem rights_len (l : List Ev) : (rightS l).length ≤ l.length := by
  unfold rightS; split
  · exact recs_len _ _ _
  · exact Nat.zero_le _
theorem lates_len (l : List Ev) : (lateS l).length ≤ l.length := by
  unfold lateS; split
  · exact recs_len _ _ _
  · exact Nat.zero_le _

/-! From what a law's argument looks like to events. -/
theorem evs_of {es : List AV} (h : ∀ x ∈ es, ∃ e, x = encE e) : ∃ l : List Ev, es = l.map encE := by
  induction es with
  | nil => exact ⟨[], rfl⟩
  | cons a r ih =>
    obtain ⟨e, he⟩ := h a (List.mem_cons_self ..)
    obtain ⟨l, hl⟩ := ih fun x hx => h x (List.mem_cons_of_mem _ hx)
    exact ⟨e :: l, by rw [he, hl]; rfl⟩
theorem stillE (l : List Ev) : ∀ e ∈ l.map encE, StillE e := by
  intro e he θ
  obtain ⟨r, _, rfl⟩ := List.mem_map.1 he
  rfl
theorem flat1E (r : Ev) : FlatE (encE r) := flatE [r] _ (List.mem_singleton.2 rfl)
theorem still1E (r : Ev) : StillE (encE r) := stillE [r] _ (List.mem_singleton.2 rfl)

/-! Plain laws. -/
def bare (l : List Ev) : List Ev := l.filter fun x => !x.mark
theorem chk_ok {l : List Ev} (h : chk l = 0) : l.length ≤ 60 ∧ ∀ x ∈ l, okEv x = true := by
  unfold chk at h
  by_cases h1 : 60 < l.length
  · rw [if_pos h1] at h; cases h
  · rw [if_neg h1] at h
    by_cases h2 : l.all okEv = true
    · exact ⟨by omega, fun x hx => List.all_eq_true.1 h2 x hx⟩
    · rw [if_neg h2] at h; cases h
theorem chk_of {l : List Ev} (h1 : l.length ≤ 60) (h2 : ∀ x ∈ l, okEv x = true) : chk l = 0 := by
  unfold chk
  rw [if_neg (by omega), if_pos (List.all_eq_true.2 h2)]
theorem ok_time {x : Ev} (h : okEv x = true) (hm : x.mark = false) : -1099511627776 ≤ x.r.time ∧ x.r.time ≤ 1099511627776 := by
  unfold okEv at h
  rw [hm, if_neg (by simp)] at h
  simp only [Bool.and_eq_true, isTime, decide_eq_true_eq] at h
  exact h.2
theorem ok_mark {x : Ev} (h : okEv x = true) (hm : x.mark = true) : x.time ≤ final ∧ lowest ≤ x.time := by
  unfold okEv at h
  rw [hm, if_pos rfl] at h
  simp only [Bool.and_eq_true, Bool.or_eq_true, isTime, decide_eq_true_eq, beq_iff_eq] at h
  unfold final lowest at *
  omega
def finE : Ev := ⟨true, final, ⟨0, 0, 0⟩⟩
theorem okFin : okEv finE = true := by decide
theorem mstep_le {m : Int} {x : Ev} (h : okEv x = true) (hm : m ≤ final) : mstep m x ≤ final := by
  unfold mstep
  by_cases h1 : x.mark = true
  · rw [if_pos h1]; have := (ok_mark h h1).1; split <;> omega
  · rw [if_neg h1]; exact hm
theorem recs_fin : ∀ (l : List Ev), (∀ x ∈ l, okEv x = true) → recs false final l = [] ∧ (recs true final l).length = (bare l).length := by
  intro l
  induction l with
  | nil => intro _; exact ⟨rfl, rfl⟩
  | cons x l ih =>
    intro h
    have hx := h x (List.mem_cons_self ..)
    obtain ⟨h1, h2⟩ := ih fun y hy => h y (List.mem_cons_of_mem _ hy)
    have hs : mstep final x = final := by
      unfold mstep
      by_cases hm : x.mark = true
      · rw [if_pos hm, if_neg (by have := (ok_mark hx hm).1; omega)]
      · rw [if_neg hm]
    cases hm : x.mark with
    | true => simp [recs, hm, hs, h1, h2, bare]
    | false =>
      have ht := ok_time hx hm
      have hlt : decide (x.r.time < final) = true := decide_eq_true (by unfold final; omega)
      simp [recs, hm, hs, h1, h2, bare, hlt]
theorem recs_bare : ∀ (l : List Ev), (∀ x ∈ l, okEv x = true) → (recs false lowest (bare l)).length = (bare l).length ∧ recs true lowest (bare l) = [] := by
  intro l
  induction l with
  | nil => intro _; exact ⟨rfl, rfl⟩
  | cons x l ih =>
    intro h
    have hx := h x (List.mem_cons_self ..)
    obtain ⟨h1, h2⟩ := ih fun y hy => h y (List.mem_cons_of_mem _ hy)
    cases hm : x.mark with
    | true =>
      have : bare (x :: l) = bare l := by simp [bare, hm]
      rw [this]; exact ⟨h1, h2⟩
    | false =>
      have hb : bare (x :: l) = x :: bare l := by simp [bare, hm]
      have ht := ok_time hx hm
      have hs : mstep lowest x = lowest := by unfold mstep; rw [hm]; rfl
      have hlt : decide (x.r.time < lowest) = false := decide_eq_false (by unfold lowest; omega)
      rw [hb]
      simp [recs, hm, hs, hlt, h1, h2]
theorem recs_both : ∀ (l : List Ev) (m : Int), (recs false m l).length + (recs true m l).length = (bare l).length := by
  intro l
  induction l with
  | nil => intro _; rfl
  | cons x l ih =>
    intro m
    have := ih (mstep m x)
    cases hm : x.mark with
    | true => simp [recs, hm, bare] at this ⊢; exact this
    | false =>
      cases hlt : decide (x.r.time < m) <;> simp [recs, hm, hlt, bare] at this ⊢ <;> omega
theorem ends {l : List Ev} (h : chk l = 0) (hl : l.length < 60) :
    chk (finE :: l) = 0 ∧ rightS (finE :: l) = [] ∧ (lateS (finE :: l)).length = (bare l).length ∧ chk (bare l) = 0 ∧ (rightS (bare l)).length = (bare l).length ∧ lateS (bare l) = [] ∧ (rightS l).length + (lateS l).length = (bare l).length := by
  obtain ⟨h1, h2⟩ := chk_ok h
  have c1 : chk (finE :: l) = 0 := chk_of (by simp; omega) (fun x hx => by rcases List.mem_cons.1 hx with rfl | hx; exact okFin; exact h2 x hx)
  have c2 : chk (bare l) = 0 := chk_of (by have := List.length_filter_le (fun x : Ev => !x.mark) l; unfold bare; omega) (fun x hx => h2 x (List.mem_filter.1 hx).1)
  have e1 : ∀ q, recs q lowest (finE :: l) = recs q final l := fun q => by
    have hs : mstep lowest finE = final := by decide
    simp [recs, hs, show finE.mark = true from rfl]
  have f := recs_fin l h2
  have b := recs_bare l h2
  have r := recs_both l lowest
  simp only [rightS, lateS, c1, c2, h, if_true, e1]
  exact ⟨trivial, f.1, f.2, trivial, b.1, b.2, r⟩
theorem recs_append (q : Bool) : ∀ (a b : List Ev) (m : Int), recs q m (a ++ b) = recs q m a ++ recs q (markF m a) b := by
  intro a
  induction a with
  | nil => intro b m; rfl
  | cons x a ih =>
    intro b m
    have := ih b (mstep m x)
    simp only [List.cons_append, recs, this]
    have hm : markF m (x :: a) = markF (mstep m x) a := rfl
    rw [hm]
    split <;> rfl
theorem markF_append (a b : List Ev) (m : Int) : markF m (a ++ b) = markF (markF m a) b := by simp [markF]
theorem markF_ge : ∀ (l : List Ev) (m : Int), m ≤ markF m l := by
  intro l
  induction l with
  | nil => intro m; exact Int.le_refl m
  | cons x l ih =>
    intro m
    have h1 := ih (mstep m x)
    have h2 : m ≤ mstep m x := by unfold mstep; split; · split <;> omega
                                  · exact Int.le_refl m
    have hm : markF m (x :: l) = markF (mstep m x) l := rfl
    rw [hm]; omega
/-- The mark behind events is the one before them, or that of one of them. -/
theorem markF_of : ∀ (l : List Ev) (m : Int), markF m l = m ∨ ∃ x ∈ l, x.mark = true ∧ markF m l = x.time := by
  intro l
  induction l with
  | nil => intro m; exact .inl rfl
  | cons x l ih =>
    intro m
    have hm : markF m (x :: l) = markF (mstep m x) l := rfl
    rw [hm]
    rcases ih (mstep m x) with h | ⟨y, hy, h1, h2⟩
    · rw [h]
      unfold mstep
      by_cases h1 : x.mark = true
      · rw [if_pos h1]
        split
        · exact .inr ⟨x, List.mem_cons_self .., h1, rfl⟩
        · exact .inl rfl
      · rw [if_neg h1]; exact .inl rfl
    · exact .inr ⟨y, List.mem_cons_of_mem _ hy, h1, h2⟩
def markEv (m : Int) : Ev := ⟨true, m, ⟨0, 0, 0⟩⟩
theorem ok_markEv {x : Ev} (h : okEv x = true) (hm : x.mark = true) : okEv (markEv x.time) = true := by
  unfold okEv at h ⊢
  rw [hm, if_pos rfl] at h
  simp only [Bool.and_eq_true] at h
  show (if true = true then _ else _) = true
  rw [if_pos rfl]
  simp only [Bool.and_eq_true]
  exact ⟨rfl, h.2⟩
theorem mstep_on {x : Ev} {m : Int} (h : x.mark = true) (k : x.time > m) : mstep m x = x.time := by unfold mstep; rw [if_pos h, if_pos k]
/-- The second part, with the mark behind the first one before it. -/
def second (l : List Ev) (c : Nat) : List Ev := if markF lowest (l.take c) = lowest then l.drop c else markEv (markF lowest (l.take c)) :: l.drop c
theorem second_run (l : List Ev) (c : Nat) : markF lowest (second l c) = markF lowest l ∧ ∀ q, recs q lowest (second l c) = recs q (markF lowest (l.take c)) (l.drop c) := by
  have ht : markF lowest l = markF (markF lowest (l.take c)) (l.drop c) := by rw [← markF_append, List.take_append_drop]
  unfold second
  by_cases h : markF lowest (l.take c) = lowest
  · rw [if_pos h, ht, h]; exact ⟨rfl, fun _ => rfl⟩
  · rw [if_neg h]
    have hg := markF_ge (l.take c) lowest
    have hs : mstep lowest (markEv (markF lowest (l.take c))) = markF lowest (l.take c) := mstep_on (x := markEv (markF lowest (l.take c))) rfl (show markF lowest (l.take c) > lowest by omega)
    refine ⟨?_, fun q => ?_⟩
    · have : markF lowest (markEv (markF lowest (l.take c)) :: l.drop c) = markF (mstep lowest (markEv (markF lowest (l.take c)))) (l.drop c) := rfl
      rw [this, hs, ht]
    · simp only [recs, show (markEv (markF lowest (l.take c))).mark = true from rfl, hs]; rfl
theorem parts {l : List Ev} {c : Nat} (h : chk l = 0) (hl : l.length < 60) : chk (l.take c) = 0 ∧ chk (second l c) = 0 ∧ rightS (l.take c) ++ rightS (second l c) = rightS l ∧ lateS (l.take c) ++ lateS (second l c) = lateS l ∧
    markS (l.take c) = (markF lowest (l.take c), 0) ∧ markS (second l c) = (markF lowest l, 0) ∧ markS l = (markF lowest l, 0) := by
  obtain ⟨h1, h2⟩ := chk_ok h
  have c1 : chk (l.take c) = 0 := chk_of (by simp; omega) fun x hx => h2 x (List.mem_of_mem_take hx)
  have c2 : chk (second l c) = 0 := by
    unfold second
    by_cases hm : markF lowest (l.take c) = lowest
    · rw [if_pos hm]; exact chk_of (by simp; omega) fun x hx => h2 x (List.mem_of_mem_drop hx)
    · rw [if_neg hm]
      refine chk_of (by simp; omega) fun x hx => ?_
      rcases List.mem_cons.1 hx with rfl | hx
      · rcases markF_of (l.take c) lowest with h3 | ⟨y, hy, h3, h4⟩
        · exact absurd h3 hm
        · rw [h4]; exact ok_markEv (h2 y (List.mem_of_mem_take hy)) h3
      · exact h2 x (List.mem_of_mem_drop hx)
  obtain ⟨m1, m2⟩ := second_run l c
  have e : ∀ q, recs q lowest (l.take c) ++ recs q lowest (second l c) = recs q lowest l := fun q => by
    rw [m2, ← recs_append, List.take_append_drop]
  simp only [rightS, lateS, markS, c1, c2, h, if_true, m1]
  exact ⟨trivial, trivial, e false, e true, trivial, trivial, trivial⟩
end Go.Av.Lt
