/- Symbolic runs: loops one round after the other, states that are forgotten in part, ends. -/
import Derived.Test.YtioookhnoobpgaaAvSym3
namespace Go.Av

section
variable {P : Program} {nt n0 : Nat} {s : St} {μ : Mu}

theorem SemM.semC {code : Code} {Q : AExit → St → Prop} (h : SemM P nt n0 code (fun e s _ => Q e s) s []) : SemC P nt n0 code Q s := by
  intro c0 H0 c act g
  refine Code.wp_mono ?_ (h c0 H0 c act g .nil)
  rintro e a w ⟨c', s', ae, μ', rfl, g', _, rfl, hq⟩
  exact ⟨c', s', ae, rfl, g', rfl, hq⟩

theorem Good.weak' {c0 c : Ctx} {H0 : Heap} {s s' : St} {act : Act} {θ : Nat → Nat} (g : Good nt c0 H0 n0 c s act) (hw : WeakBy θ n0 s s') :
    ∃ c', c' = { c with ρ := fun o => c.ρ (θ o) } ∧ Good nt c0 H0 n0 c' s' act := ⟨{ c with ρ := fun o => c.ρ (θ o) }, rfl, g.weakBy hw⟩

theorem Good.weakM {c0 c : Ctx} {H0 : Heap} {s s' : St} {act : Act} (g : Good nt c0 H0 n0 c s act) (hm : MOk c0 c s.H μ) (hw : Weak n0 s s') :
    ∃ c', c'.w = c.w ∧ Good nt c0 H0 n0 c' s' act ∧ MOk c0 c' s'.H μ := by
  obtain ⟨θ, hw⟩ := hw
  obtain ⟨c', h2, h3⟩ := g.weak' hw
  exact ⟨c', by rw [h2], h3, hm.weak hw h2⟩

theorem SemM.weak {code : Code} {Q : AExit → St → Mu → Prop} {s' : St} (hw : Weak n0 s s') (h : SemM P nt n0 code Q s' μ) : SemM P nt n0 code Q s μ := by
  intro c0 H0 c act g hm
  obtain ⟨c', hc, g', hm'⟩ := g.weakM hm hw
  have := h c0 H0 c' act g' hm'
  rwa [hc] at this

theorem SemLM.weak {ops : Array Oper} {l : List Oper} {K : St → Mu → Prop} {s' : St} (hw : Weak n0 s s') (h : SemLM P nt n0 ops l K s' μ) : SemLM P nt n0 ops l K s μ := by
  intro c0 H0 c act g hm Qx hQ
  obtain ⟨c', hc, g', hm'⟩ := g.weakM hm hw
  have := h c0 H0 c' act g' hm' Qx hQ
  rwa [hc] at this
end

mutual
theorem ren_id : ∀ a : AV, AV.ren (fun o => o) a = a
  | .junk => rfl
  | .sc _ => rfl
  | .nils => rfl
  | .agg cs => by simp only [AV.ren, rens_id cs]
  | .tup cs => by simp only [AV.ren, rens_id cs]
  | .list .. => rfl
  | .ref .. => rfl
  | .ptr .. => rfl
  | .elem .. => rfl
  | .fn _ caps => by simp only [AV.ren, rens_id caps]
  | .mref _ => rfl
  | .cond _ v => by simp only [AV.ren, ren_id v]
theorem rens_id : ∀ l : List AV, AV.rens (fun o => o) l = l
  | [] => rfl
  | a :: r => by simp only [AV.rens, ren_id a, rens_id r]
end

/-- New names for objects: those that are not told keep theirs. -/
def thL : List (Nat × Nat) → Nat → Nat
  | [], o => o
  | (a, b) :: r, o => bif Nat.beq o a then b else thL r o

theorem thL_nil : thL [] = fun o => o := rfl

def wkL (L : List (Nat × AV)) (θ : List (Nat × Nat)) (n : Nat) : List (Nat × AV) → Prop
  | [] => True
  | (t, a) :: r => fr L t = a.ren (thL θ) ∧ a.Ok (· < n) ∧ wkL L θ n r

def wkG (G : List (Nat × Obj)) (θ : List (Nat × Nat)) (n : Nat) : List (Nat × Obj) → Prop
  | [] => True
  | (o, x) :: r => (∃ y, hp G (thL θ o) = some y ∧ y.esz = x.esz ∧ y.es = x.es.map (AV.ren (thL θ))) ∧ o < n ∧ (∀ e ∈ x.es, ∀ a ∈ e.cells, a.Ok (· < n)) ∧ x.solo = true ∧ x.spent = false ∧ wkG G θ n r

theorem wkL_get {L : List (Nat × AV)} {θ : List (Nat × Nat)} {n : Nat} : ∀ {L' : List (Nat × AV)}, wkL L θ n L' → ∀ t, (fr L' t = .junk ∨ fr L t = (fr L' t).ren (thL θ)) ∧ (fr L' t).Ok (· < n) := by
  intro L'
  induction L' with
  | nil => intro _ t; exact ⟨.inl rfl, .junk⟩
  | cons p r ih =>
    obtain ⟨d, a⟩ := p
    rintro ⟨h1, h2, h3⟩ t
    by_cases ht : t = d
    · subst ht
      have : fr ((t, a) :: r) t = a := by simp [fr]
      rw [this]; exact ⟨.inr h1, h2⟩
    · have : fr ((d, a) :: r) t = fr r t := by
        have hb : Nat.beq t d = false := by rw [← Bool.not_eq_true, Nat.beq_eq]; exact ht
        simp [fr, hb]
      rw [this]; exact ih h3 t

theorem wkG_get {G : List (Nat × Obj)} {θ : List (Nat × Nat)} {n : Nat} : ∀ {G' : List (Nat × Obj)}, wkG G θ n G' → ∀ o x, hp G' o = some x →
    (∃ y, hp G (thL θ o) = some y ∧ y.esz = x.esz ∧ y.es = x.es.map (AV.ren (thL θ))) ∧ o < n ∧ (∀ e ∈ x.es, ∀ a ∈ e.cells, a.Ok (· < n)) ∧ x.solo = true ∧ x.spent = false := by
  intro G'
  induction G' with
  | nil => intro _ o x h; cases h
  | cons p r ih =>
    obtain ⟨d, y⟩ := p
    rintro ⟨h1, h2, h3, h4, h5, h6⟩ o x hx
    by_cases ho : o = d
    · subst ho
      have : hp ((o, y) :: r) o = some y := by simp [hp]
      rw [this] at hx; cases hx
      exact ⟨h1, h2, h3, h4, h5⟩
    · have : hp ((d, y) :: r) o = hp r o := by
        have hb : Nat.beq o d = false := by rw [← Bool.not_eq_true, Nat.beq_eq]; exact ho
        simp [hp, hb]
      rw [this] at hx
      exact ih h6 o x hx

theorem hp_mem {G : List (Nat × Obj)} {o : Nat} (h : hp G o ≠ none) : o ∈ G.map (·.1) := by
  induction G with
  | nil => exact absurd rfl h
  | cons p r ih =>
    obtain ⟨d, y⟩ := p
    by_cases ho : o = d
    · subst ho; simp
    · have : hp ((d, y) :: r) o = hp r o := by
        have hb : Nat.beq o d = false := by rw [← Bool.not_eq_true, Nat.beq_eq]; exact ho
        simp [hp, hb]
      rw [this] at h
      exact List.mem_cons_of_mem _ (ih h)

def injB (θ : List (Nat × Nat)) : List Nat → Bool
  | [] => true
  | o :: r => r.all (fun q => Nat.beq o q || !Nat.beq (thL θ o) (thL θ q)) && injB θ r

theorem injB_ok {θ : List (Nat × Nat)} : ∀ {l : List Nat}, injB θ l = true → ∀ o ∈ l, ∀ q ∈ l, thL θ o = thL θ q → o = q := by
  intro l
  induction l with
  | nil => intro _ o h; cases h
  | cons a r ih =>
    intro h o ho q hq he
    simp only [injB, Bool.and_eq_true, List.all_eq_true, Bool.or_eq_true, Nat.beq_eq, Bool.not_eq_true'] at h
    have key : ∀ x ∈ r, thL θ a = thL θ x → a = x := by
      intro x hx hax
      rcases h.1 x hx with h1 | h1
      · exact h1
      · rw [hax, Nat.beq_refl] at h1; cases h1
    rcases List.mem_cons.1 ho with h1 | h1
    · rcases List.mem_cons.1 hq with h2 | h2
      · rw [h1, h2]
      · rw [h1] at he ⊢; exact key q h2 he
    · rcases List.mem_cons.1 hq with h2 | h2
      · rw [h2] at he ⊢; exact (key o h1 he.symm).symm
      · exact ih h.2 o h1 q h2 he

def fixB (θ : List (Nat × Nat)) (n0 : Nat) : Bool := θ.all fun p => Nat.ble n0 p.1 || Nat.beq p.1 p.2
theorem fixB_ok {n0 : Nat} : ∀ {θ : List (Nat × Nat)}, fixB θ n0 = true → ∀ o, o < n0 → thL θ o = o := by
  intro θ
  induction θ with
  | nil => intro _ o _; rfl
  | cons p r ih =>
    obtain ⟨a, b⟩ := p
    intro h o ho
    simp only [fixB, List.all_cons, Bool.and_eq_true, Bool.or_eq_true, Nat.ble_eq, Nat.beq_eq] at h
    simp only [thL]
    cases hb : Nat.beq o a with
    | true =>
      have : o = a := Nat.eq_of_beq_eq_true hb
      subst this
      rcases h.1 with h1 | h1
      · omega
      · simp only [cond_true]; exact h1.symm
    | false => simp only [cond_false]; exact ih h.2 o ho

/-- What is told of a state behind it: some slots, some objects, by other names. -/
theorem weak_of {L L' : List (Nat × AV)} {G G' : List (Nat × Obj)} {n n' n0 : Nat} (θ : List (Nat × Nat)) (hb : (fixB θ n0 && injB θ (G'.map (·.1)) && Nat.ble n0 n') = true) (hL : wkL L θ n' L') (hG : wkG G θ n' G') :
    Weak n0 ⟨fr L, hp G, n⟩ ⟨fr L', hp G', n'⟩ := by
  simp only [Bool.and_eq_true, Nat.ble_eq] at hb
  obtain ⟨⟨h1, h2⟩, h3⟩ := hb
  refine ⟨thL θ, fixB_ok h1, fun t => (wkL_get hL t).1, fun o x hx => ?_, fun o q ho hq he => injB_ok h2 o (hp_mem ho) q (hp_mem hq) he, fun t => (wkL_get hL t).2, fun o x hx => ?_, h3⟩
  · obtain ⟨⟨y, g1, g2, g3⟩, _⟩ := wkG_get hG o x hx
    exact ⟨y, g1, g2, g3⟩
  · obtain ⟨_, g1, g2, g3, g4⟩ := wkG_get hG o x hx
    exact ⟨g1, g2, g3, g4⟩

theorem Kont.weak {P : Program} {nt n0 : Nat} {Q : AExit → St → Mu → Prop} {μ : Mu} {s s' : St} (hw : Weak n0 s s') : ∀ (K : List Kn) (e : AExit), Kont P nt n0 Q K e s' μ → Kont P nt n0 Q K e s μ := by
  have hloop : ∀ {b : Code} {Q' : AExit → St → Mu → Prop}, SemLoop P nt n0 b Q' s' μ → SemLoop P nt n0 b Q' s μ := by
    intro b Q' h c0 H0 c act g hm
    obtain ⟨c', hc, g', hm'⟩ := g.weakM hm hw
    have := h c0 H0 c' act g' hm'
    rwa [hc] at this
  intro K
  induction K with
  | nil =>
    intro e h c0 H0 c act g hm
    obtain ⟨c', hc, g', hm'⟩ := g.weakM hm hw
    obtain ⟨c2, s2, h1, h2, h3, h4⟩ := h c0 H0 c' act g' hm'
    exact ⟨c2, s2, h1.trans hc, h2, h3, h4⟩
  | cons k K ih =>
    intro e h
    cases k with
    | seq c =>
      cases e with
      | normal => exact SemM.weak hw h
      | exit i => exact ih _ h
      | ret => exact ih _ h
    | block id =>
      cases e with
      | normal => exact ih _ h
      | ret => exact ih _ h
      | exit i =>
        have h' : blockM id (Kont P nt n0 Q K) (.exit i) s' μ := h
        show blockM id (Kont P nt n0 Q K) (.exit i) s μ
        simp only [blockM] at h' ⊢
        cases hb : Nat.beq i id with
        | true => rw [hb, cond_true] at h'; exact ih _ h'
        | false => rw [hb, cond_false] at h'; exact ih _ h'
    | loop b =>
      cases e with
      | normal => exact hloop h
      | exit i => exact ih _ h
      | ret => exact ih _ h

/-- A state may be forgotten in part, wherever a run stands. -/
theorem SemK.weak {P : Program} {nt n0 : Nat} {Q : AExit → St → Mu → Prop} {cf : Cf} {K : List Kn} {μ : Mu} {s s' : St} (hw : Weak n0 s s') (h : SemK P nt n0 Q cf K s' μ) : SemK P nt n0 Q cf K s μ := by
  cases cf with
  | code c => exact SemM.weak hw h
  | exit e => exact Kont.weak hw K e h
  | ops ops l => exact SemLM.weak hw h
  | loop b =>
    intro c0 H0 c act g hm
    obtain ⟨c', hc, g', hm'⟩ := g.weakM hm hw
    have := h c0 H0 c' act g' hm'
    rwa [hc] at this

theorem Kont.collapse {P : Program} {nt n0 : Nat} {Q : AExit → St → Mu → Prop} : ∀ (K : List Kn) (e : AExit) (s : St) (μ : Mu), Cl nt n0 (Kont P nt n0 Q K) e s μ → Kont P nt n0 Q K e s μ := by
  intro K
  induction K with
  | nil =>
    intro e s μ h c0 H0 c act g hm
    obtain ⟨c1, s1, h1, h2, h3, h4⟩ := h c0 H0 c act g hm
    obtain ⟨c2, s2, k1, k2, k3, k4⟩ := h4 c0 H0 c1 act h2 h3
    exact ⟨c2, s2, k1.trans h1, k2, k3, k4⟩
  | cons k K ih =>
    intro e s μ h
    cases k with
    | seq c =>
      cases e with
      | normal =>
        intro c0 H0 cx act g hm
        obtain ⟨c1, s1, h1, h2, h3, h4⟩ := h c0 H0 cx act g hm
        rw [← h1]
        exact h4 c0 H0 c1 act h2 h3
      | exit i => exact ih (.exit i) s μ h
      | ret => exact ih .ret s μ h
    | block id =>
      cases e with
      | normal => exact ih .normal s μ h
      | ret => exact ih .ret s μ h
      | exit i =>
        show blockM id (Kont P nt n0 Q K) (.exit i) s μ
        have h' : ∀ (c0 : Ctx) (H0 : Heap) (c : Ctx) (act : Act), Good nt c0 H0 n0 c s act → MOk c0 c s.H μ → ∃ c' s', c'.w = c.w ∧ Good nt c0 H0 n0 c' s' act ∧ MOk c0 c' s'.H μ ∧ blockM id (Kont P nt n0 Q K) (.exit i) s' μ := h
        simp only [blockM] at h' ⊢
        cases hb : Nat.beq i id with
        | true => simp only [hb, cond_true] at h' ⊢; exact ih .normal s μ h'
        | false => simp only [hb, cond_false] at h' ⊢; exact ih (.exit i) s μ h'
    | loop b =>
      cases e with
      | normal =>
        intro c0 H0 cx act g hm
        obtain ⟨c1, s1, h1, h2, h3, h4⟩ := h c0 H0 cx act g hm
        rw [← h1]
        exact h4 c0 H0 c1 act h2 h3
      | exit i => exact ih (.exit i) s μ h
      | ret => exact ih .ret s μ h

theorem MQ.ofCl {nt n0 : Nat} {Q : AExit → St → Mu → Prop} {c0 : Ctx} {H0 : Heap} : ∀ e a w, MQ nt c0 H0 n0 (Cl nt n0 Q) e a w → MQ nt c0 H0 n0 Q e a w := by
  rintro e a w ⟨c', s', ae, μ', rfl, g', hm', rfl, hq⟩
  obtain ⟨c2, s2, h1, h2, h3, h4⟩ := hq c0 H0 c' a g' hm'
  exact ⟨c2, s2, ae, μ', h1, h2, h3, rfl, h4⟩

/-- Forgetting, what is left first. -/
theorem SemK.weakTo {P : Program} {nt n0 : Nat} {Q : AExit → St → Mu → Prop} {cf : Cf} {K : List Kn} {μ : Mu} {L L' : List (Nat × AV)} {G G' : List (Nat × Obj)} {n n' : Nat} (θ : List (Nat × Nat)) (h : SemK P nt n0 Q cf K ⟨fr L', hp G', n'⟩ μ)
    (hb : (fixB θ n0 && injB θ (G'.map (·.1)) && Nat.ble n0 n') = true) (hL : wkL L θ n' L') (hG : wkG G θ n' G') : SemK P nt n0 Q cf K ⟨fr L, hp G, n⟩ μ := SemK.weak (weak_of θ hb hL hG) h

/-- What is behind a piece of code may be set apart. -/
theorem SemK.cut {P : Program} {nt n0 : Nat} {Q : AExit → St → Mu → Prop} {cf : Cf} {K : List Kn} {μ : Mu} {s : St} (h : SemK P nt n0 (Kont P nt n0 Q K) cf [] s μ) : SemK P nt n0 Q cf K s μ := by
  cases cf with
  | code c => exact SemM.ofCl h
  | exit e => exact Kont.collapse K e s μ h
  | ops ops l =>
    intro c0 H0 c act g hm Qx hQ
    refine h c0 H0 c act g hm Qx fun c' s' act' μ' g' hm' hk => ?_
    exact hQ c' s' act' μ' g' hm' (Kont.collapse K .normal s' μ' hk)
  | loop b =>
    intro c0 H0 c act g hm bb k cs
    obtain ⟨e, a', w', hq, harr⟩ := h c0 H0 c act g hm bb k cs
    exact ⟨e, a', w', MQ.ofCl e a' w' hq, harr⟩

theorem SemK.glue {P : Program} {nt n0 : Nat} {Q : AExit → St → Mu → Prop} {e : AExit} {K : List Kn} {μ : Mu} {s : St} (h : SemK P nt n0 Q (.exit e) K s μ) : SemK P nt n0 (Kont P nt n0 Q K) (.exit e) [] s μ := Cl.mk h

theorem SemK.done {P : Program} {nt n0 : Nat} {Q : AExit → St → Mu → Prop} {e : AExit} {μ : Mu} {s : St} (h : Q e s μ) : SemK P nt n0 Q (.exit e) [] s μ := Cl.mk h

/-- The bodies of the loops, in the order of the text. -/
def loopsOf : Code → List Code
  | .loop b => b :: loopsOf b
  | .seq a b => loopsOf a ++ loopsOf b
  | .block _ c => loopsOf c
  | .scope c => loopsOf c
  | .cond _ a b => loopsOf a ++ loopsOf b
  | _ => []
def loopB (i : Nat) (c : Code) : Code := ((loopsOf c)[i]?).getD .skip

/-! Beginnings and ends. -/
def argL : Nat → List AV → List (Nat × AV)
  | _, [] => []
  | i, a :: r => (i, a) :: argL (i + 1) r

theorem argL_fr : ∀ (as : List AV) (i t : Nat), fr (argL i as) t = if i ≤ t then (match as[t - i]? with | some a => a | none => .junk) else .junk := by
  intro as
  induction as with
  | nil => intro i t; simp [argL, fr]
  | cons a r ih =>
    intro i t
    simp only [argL, fr]
    by_cases ht : t = i
    · subst ht; simp
    · have hb : Nat.beq t i = false := by rw [← Bool.not_eq_true, Nat.beq_eq]; exact ht
      rw [hb, cond_false, ih]
      by_cases h1 : i + 1 ≤ t
      · rw [if_pos h1, if_pos (by omega), show t - i = (t - (i + 1)) + 1 by omega, List.getElem?_cons_succ]
      · rw [if_neg h1, if_neg (by omega)]

theorem weak_args {n : Nat} {as : List AV} {G : List (Nat × Obj)} (hok : ∀ a ∈ as, a.Ok (· < n)) (hG : ∀ o x, hp G o = some x → o < n ∧ (∀ e ∈ x.es, ∀ a ∈ e.cells, a.Ok (· < n)) ∧ x.solo = true ∧ x.spent = false) :
    Weak n ⟨argA as, hp G, n⟩ ⟨fr (argL 0 as), hp G, n⟩ := by
  refine ⟨fun o => o, fun _ _ => rfl, fun t => ?_, fun o x hx => ⟨x, hx, rfl, ?_⟩, fun o q _ _ h => h, fun t => ?_, fun o x hx => hG o x hx, Nat.le_refl n⟩
  · show fr (argL 0 as) t = .junk ∨ argA as t = AV.ren (fun o => o) (fr (argL 0 as) t)
    rw [argL_fr]
    simp only [Nat.zero_le, if_true, Nat.sub_zero, argA]
    cases hq : as[t]? with
    | none => exact .inl rfl
    | some a => right; simp [ren_id]
  · have : AV.ren (fun o => o) = id := funext ren_id
    simp [this]
  · show (fr (argL 0 as) t).Ok (· < n)
    rw [argL_fr]
    simp only [Nat.zero_le, if_true, Nat.sub_zero]
    cases hq : as[t]? with
    | none => exact .junk
    | some a => exact hok a (List.mem_of_getElem? hq)

def pureM (T : Ty) (fn : Func) (r : AV) : AExit → St → Mu → Prop := fun e s _ => pureQ T fn r e s

/-- A pure function: its body, from its arguments. -/
theorem Pure.sym {P : Program} {T : Ty} (hT : TyOk P T) {f : Nat} {fn : Func} {code : Code} (hfn : FnOk P f fn code) {as : List AV} {nt : Nat} {r : AV} (hnt : fn.ntmps = nt)
    (hle : Nat.ble as.length nt = true) (h : SemK P nt 0 (pureM T fn r) (.code code) [] ⟨fr (argL 0 as), hp [], 0⟩ []) (hok : ∀ a ∈ as, a.Ok (· < 0)) : Pure P f as r := by
  refine Pure.of_body hT hfn hnt (by simpa using hle) (SemM.semC (SemM.ofCl (SemM.weak (n0 := 0) ?_ h)))
  exact weak_args (G := []) hok (fun o x hx => by cases hx)

def resS (T : Ty) (L : List (Nat × AV)) (G : List (Nat × Obj)) : List ResultVar → Option (List AV)
  | [] => some []
  | .tmp t :: l => match fr L t with
    | .cond _ _ => none
    | a => forceA a fun a => match resS T L G l with
      | some r => some (a :: r)
      | none => none
  | .cell p t :: l => match T t with
    | some ti => match fr L p with
      | .ptr o i k => match hp G o with
        | some y => match y.es[i]? with
          | some e => match loadE ti e k with
            | some a => forceA a fun a => match resS T L G l with
              | some r => some (a :: r)
              | none => none
            | none => none
          | none => none
        | none => none
      | _ => none
    | none => none

theorem resS_ok {T : Ty} {L : List (Nat × AV)} {G : List (Nat × Obj)} {n : Nat} : ∀ (l : List ResultVar) (r : List AV), resS T L G l = some r → ResRs T ⟨fr L, hp G, n⟩ l r := by
  intro l
  induction l with
  | nil => intro r h; simp [resS] at h; subst h; exact .nil
  | cons v l ih =>
    intro r h
    cases v with
    | tmp t =>
      simp only [resS] at h
      split at h
      · cases h
      · rename_i a hne
        rw [forceA_eq] at h
        split at h
        · rename_i hr
          cases h
          have : strip (fr L t) = fr L t := by
            cases hq : fr L t with
            | cond g v => exact absurd hq (hne g v)
            | _ => rfl
          have hres : ResR T ⟨fr L, hp G, n⟩ (.tmp t) (strip (fr L t)) := .tmp
          rw [this] at hres
          exact .cons hres (ih _ hr)
        · cases h
    | cell p t =>
      simp only [resS] at h
      split at h
      · rename_i ht
        split at h
        · rename_i hp1
          split at h
          · rename_i hH
            split at h
            · rename_i he
              split at h
              · rename_i hl
                rw [forceA_eq] at h
                split at h
                · rename_i hr
                  cases h
                  refine .cons (.cell ht (e := _) (k := _) ?_ hl) (ih _ hr)
                  show Deref (hp G) (strip (fr L p)) _ _
                  rw [hp1]
                  exact .ptr hH he
                · cases h
              · cases h
            · cases h
          · cases h
        · cases h
      · cases h

theorem Good.argL {nt n0 : Nat} {c0 c : Ctx} {H0 H : Heap} {n : Nat} {as : List AV} {act : Act} (g : Good nt c0 H0 n0 c ⟨argA as, H, n⟩ act) : Good nt c0 H0 n0 c ⟨fr (Av.argL 0 as), H, n⟩ act := by
  refine ⟨g.inv, g.solo, fun t => ?_, fun t => ?_, g.size, g.defers, g.reach, g.le0⟩
  · show VRel c false (fr (Av.argL 0 as) t) _
    rw [argL_fr]
    simp only [Nat.zero_le, if_true, Nat.sub_zero]
    have := g.frame t
    simp only [argA] at this
    cases hq : as[t]? with
    | none => exact .junk
    | some a => rw [hq] at this; exact this
  · show (fr (Av.argL 0 as) t).Ok (· < n)
    rw [argL_fr]
    simp only [Nat.zero_le, if_true, Nat.sub_zero]
    have := g.ok t
    simp only [argA] at this
    cases hq : as[t]? with
    | none => exact .junk
    | some a => rw [hq] at this; exact this

theorem SemC.argL {P : Program} {nt n0 : Nat} {code : Code} {Q : AExit → St → Prop} {as : List AV} {H : Heap} {n : Nat} (h : SemC P nt n0 code Q ⟨fr (Av.argL 0 as), H, n⟩) : SemC P nt n0 code Q ⟨argA as, H, n⟩ :=
  fun c0 H0 c act g => h c0 H0 c act g.argL

def retM (T : Ty) (fn : Func) (K : AV → Heap → Nat → Prop) : AExit → St → Mu → Prop := fun e s _ => retQ T fn K e s

/-- A call, run into its function's body. -/
theorem SemK.inline {P : Program} {T : Ty} {nt n0 nt' f : Nat} {Q : AExit → St → Mu → Prop} {ops : Array Oper} {l : List Oper} {o : Oper} {K : List Kn} {L : List (Nat × AV)} {G : List (Nat × Obj)} {n : Nat} {μ : Mu} {x : Operand} {args : Array Operand} {ts : Array Nat}
    {caps as : List AV} {fn : Func} {code : Code} (hT : TyOk P T) (hfn : FnOk P f fn code) (ho : o.op = .call { callee := .value x, args := args, argTypes := ts }) (hg : o.guard = none) (hd : dstOk nt o.dst = true) {qx qa : List Prop} (hx : rd L x = (.fn f caps, qx)) (ha : rds L args.toList = (as, qa)) (hpx : allP qx) (hpa : allP qa)
    (hnt : fn.ntmps = nt') (hle : Nat.ble (as ++ caps).length nt' = true)
    (h : SemK P nt' n (retM T fn fun r H' n' => SemK P nt n0 Q (.ops ops l) K ⟨updO (fr L) o.dst r, H', n'⟩ μ) (.code code) [] ⟨fr (Av.argL 0 (as ++ caps)), hp G, n⟩ []) : SemK P nt n0 Q (.ops ops (o :: l)) K ⟨fr L, hp G, n⟩ μ := by
  refine SemLM.plain (s := ⟨fr L, hp G, n⟩) hg (dstOk_lt hd) (OpR.call (s := ⟨fr L, hp G, n⟩) ho (rd_ok hx hpx) ?_) (fun a H' n' hr => hr)
  rw [rds_ok ha hpa]
  exact HC.of_body hT hfn hnt (by simpa using hle) (SemC.argL (SemM.semC (SemM.ofCl h)))

/-- The end of a body that was run into. -/
theorem SemK.back {P : Program} {T : Ty} {nt n0 nt' n1 : Nat} {fn : Func} {Q : AExit → St → Mu → Prop} {ops : Array Oper} {l : List Oper} {d : Option Nat} {K : List Kn} {L L1 : List (Nat × AV)} {G : List (Nat × Obj)} {n : Nat} {μ μ1 : Mu} {rs : List AV} {e : AExit} (he : ∀ id, e ≠ .exit id)
    (hr : resS T L1 G fn.results.toList = some rs) (h : SemK P nt n0 Q (.ops ops l) K ⟨fr (putO d (packA rs) L), hp G, n⟩ μ) :
    SemK P nt' n1 (retM T fn fun r H' n' => SemK P nt n0 Q (.ops ops l) K ⟨updO (fr L) d r, H', n'⟩ μ) (.exit e) [] ⟨fr L1, hp G, n⟩ μ1 := by
  refine Cl.mk ?_
  have hk : ∃ rs, ResRs T ⟨fr L1, hp G, n⟩ fn.results.toList rs ∧ SemK P nt n0 Q (.ops ops l) K ⟨updO (fr L) d (packA rs), hp G, n⟩ μ := ⟨rs, resS_ok _ _ hr, by rw [← putO_fr]; exact h⟩
  cases e with
  | exit id => exact absurd rfl (he id)
  | normal => exact hk
  | ret => exact hk

theorem HCall.sym {P : Program} {T : Ty} (hT : TyOk P T) {f : Nat} {fn : Func} {code : Code} (hfn : FnOk P f fn code) {as : List AV} {nt : Nat} {r : AV} {G G' : List (Nat × Obj)} {n n' : Nat} (hnt : fn.ntmps = nt) (hle : Nat.ble as.length nt = true)
    (h : SemK P nt n (retM T fn fun r2 H2 n2 => r2 = r ∧ H2 = hp G' ∧ n2 = n') (.code code) [] ⟨fr (Av.argL 0 as), hp G, n⟩ []) : HCall P f as G n r G' n' :=
  ⟨HC.of_body hT hfn hnt (by simpa using hle) (SemC.argL (SemM.semC (SemM.ofCl h)))⟩

theorem SemK.fin {P : Program} {T : Ty} {nt n0 : Nat} {fn : Func} {r : AV} {L : List (Nat × AV)} {G : List (Nat × Obj)} {n : Nat} {μ : Mu} {rs : List AV} {e : AExit} (he : ∀ id, e ≠ .exit id) (hr : resS T L G fn.results.toList = some rs) (hc : packA rs = r) :
    SemK P nt n0 (retM T fn fun r2 H2 n2 => r2 = r ∧ H2 = hp G ∧ n2 = n) (.exit e) [] ⟨fr L, hp G, n⟩ μ := by
  refine Cl.mk ?_
  have hk : ∃ rs, ResRs T ⟨fr L, hp G, n⟩ fn.results.toList rs ∧ (packA rs = r ∧ hp G = hp G ∧ n = n) := ⟨rs, resS_ok _ _ hr, hc, rfl, rfl⟩
  cases e with
  | exit id => exact absurd rfl (he id)
  | normal => exact hk
  | ret => exact hk

theorem fin_ret {P : Program} {T : Ty} {nt n0 : Nat} {fn : Func} {r : AV} {L : List (Nat × AV)} {G : List (Nat × Obj)} {n : Nat} {μ : Mu} {rs : List AV} (hr : resS T L G fn.results.toList = some rs) (hc : Cv true (hp G) (packA rs) r) :
    SemK P nt n0 (pureM T fn r) (.exit .ret) [] ⟨fr L, hp G, n⟩ μ := Cl.mk ⟨rs, resS_ok _ _ hr, hc⟩
theorem fin_normal {P : Program} {T : Ty} {nt n0 : Nat} {fn : Func} {r : AV} {L : List (Nat × AV)} {G : List (Nat × Obj)} {n : Nat} {μ : Mu} {rs : List AV} (hr : resS T L G fn.results.toList = some rs) (hc : Cv true (hp G) (packA rs) r) :
    SemK P nt n0 (pureM T fn r) (.exit .normal) [] ⟨fr L, hp G, n⟩ μ := Cl.mk ⟨rs, resS_ok _ _ hr, hc⟩
end Go.Av
