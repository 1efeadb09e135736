/- The abstract machine, part 3. -/
import Derived.IntWalk
import Derived.MapKept
import Derived.Test.YtneciiakpbfnjaaGreatAvb
set_option linter.all false
/- Symbolic runs: code. -/
namespace Go.Av

/-- A loop, at the beginning of a round. -/
def LoopWp (P : Program) (c : Code) (Q : Exit → Act → World → Prop) (a : Act) (w : World) : Prop :=
  ∀ b k cs, ∃ e a' w', Q e a' w' ∧ Arrives P (lone (b.at a (.code c :: .inLoop c :: k)) cs w) b k cs e a' w'

theorem LoopWp.start {P : Program} {c : Code} {Q : Exit → Act → World → Prop} {a : Act} {w : World} (h : LoopWp P c Q a w) : (Code.loop c).wp P Q a w := by
  intro b k cs
  obtain ⟨e, a', w', hq, harr⟩ := h b k cs
  exact ⟨e, a', w', hq, .of_steps (.one step_loop) harr⟩

theorem LoopWp.round {P : Program} {c : Code} {Q : Exit → Act → World → Prop} {a : Act} {w : World} (h : c.wp P (Exit.then (LoopWp P c Q) Q) a w) : LoopWp P c Q a w := by
  intro b k cs
  obtain ⟨e, a₁, w₁, hq, harr⟩ := h b (.inLoop c :: k) cs
  cases e with
  | normal =>
    obtain ⟨e₂, a₂, w₂, hq₂, harr₂⟩ := hq b k cs
    exact ⟨e₂, a₂, w₂, hq₂, .of_steps (Steps.trans harr (.one step_inLoop)) harr₂⟩
  | exit id => exact ⟨_, a₁, w₁, hq, .pass (x := .inLoop c) rfl (fun _ _ => .inl (by simp)) harr⟩
  | goto l => exact ⟨_, a₁, w₁, hq, .pass (x := .inLoop c) rfl (fun _ _ => .inl (by simp)) harr⟩
  | ret => exact ⟨_, a₁, w₁, hq, .pass (x := .inLoop c) rfl (fun _ _ => .inl (by simp)) harr⟩
  | panic ch => exact ⟨_, a₁, w₁, hq, .pass (x := .inLoop c) rfl (fun _ _ => .inl (by simp)) harr⟩
  | outgrown => exact ⟨_, a₁, w₁, hq, .pass (x := .inLoop c) rfl (fun _ _ => .inl (by simp)) harr⟩

def SemLoop (P : Program) (nt n0 : Nat) (b : Code) (Q : AExit → St → Mu → Prop) (s : St) (μ : Mu) : Prop :=
  ∀ (c0 : Ctx) (H0 : Heap) (c : Ctx) (act : Act), Good nt c0 H0 n0 c s act → MOk c0 c s.H μ → LoopWp P b (MQ nt c0 H0 n0 Q) act c.w

def rndM (P : Program) (nt n0 : Nat) (b : Code) (Q : AExit → St → Mu → Prop) : AExit → St → Mu → Prop
  | .normal, s, μ => SemLoop P nt n0 b Q s μ
  | e, s, μ => Q e s μ

theorem SemM.loop {P : Program} {nt n0 : Nat} {b : Code} {Q : AExit → St → Mu → Prop} {s : St} {μ : Mu} (h : SemLoop P nt n0 b Q s μ) : SemM P nt n0 (.loop b) Q s μ :=
  fun c0 H0 c act g hm => (h c0 H0 c act g hm).start

theorem SemLoop.round {P : Program} {nt n0 : Nat} {b : Code} {Q : AExit → St → Mu → Prop} {s : St} {μ : Mu} (h : SemM P nt n0 b (rndM P nt n0 b Q) s μ) : SemLoop P nt n0 b Q s μ := by
  intro c0 H0 c act g hm
  refine LoopWp.round (Code.wp_mono ?_ (h c0 H0 c act g hm))
  rintro e a w ⟨c', s', ae, μ', rfl, g', hm', rfl, hq⟩
  cases ae with
  | normal => exact hq c0 H0 c' a g' hm'
  | exit id => exact ⟨c', s', .exit id, μ', rfl, g', hm', rfl, hq⟩
  | ret => exact ⟨c', s', .ret, μ', rfl, g', hm', rfl, hq⟩

section
variable {P : Program} {nt n0 : Nat} {s : St} {μ : Mu} {ops : Array Oper} {l : List Oper} {o : Oper} {K : St → Mu → Prop}

theorem SemLM.nil (h : K s μ) : SemLM P nt n0 ops [] K s μ := fun _ _ c act g hm Qx hQ => hQ c s act μ g hm h

theorem SemLM.step {R : AV → Heap → Nat → Prop} (hw : ∀ (c0 c : Ctx) (H0 : Heap) (act : Act), Good nt c0 H0 n0 c s act → Region.wanted o (yielded ops act.tmps) = true) (hd : ∀ d, o.dst = some d → d < nt) (h : OpR P nt o s R)
    (hn : ∀ a H' n', R a H' n' → SemLM P nt n0 ops l K ⟨updO s.A o.dst a, H', n'⟩ μ) : SemLM P nt n0 ops (o :: l) K s μ := by
  intro c0 H0 c act g hm Qx hQ
  refine wpList_step fun K' hK' => ?_
  rw [if_pos (hw c0 c H0 act g)]
  refine h c s.H n0 c act g.rebase K' Qx fun c' a H' n' v hR hgood => ?_
  have g2 := hgood o.dst hd
  exact hK' _ _ (hn a H' n' hR c0 H0 c' _ (.join g.reach g2) (hm.kept g2.reach) Qx hQ)

theorem SemLM.plain {R : AV → Heap → Nat → Prop} (hg : o.guard = none) (hd : ∀ d, o.dst = some d → d < nt) (h : OpR P nt o s R)
    (hn : ∀ a H' n', R a H' n' → SemLM P nt n0 ops l K ⟨updO s.A o.dst a, H', n'⟩ μ) : SemLM P nt n0 ops (o :: l) K s μ :=
  SemLM.step (fun _ _ _ _ _ => by simp [Region.wanted, hg]) hd h hn

def gdS (want : Bool) : AV → Option Bool
  | .sc (.bool b) => match want with
    | true => some b
    | false => some (!b)
  | .cond g (.sc (.bool b)) => match want with
    | true => some (g && b)
    | false => some (g && !b)
  | _ => none

theorem wanted_gd {j t : Nat} {want g : Bool} (hg : o.guard = some (j, want)) (hj : (ops[j]?).bind (·.dst) = some t) (ht : Nat.blt t nt = true) (hb : gdS want (s.A t) = some g)
    {c0 c : Ctx} {H0 : Heap} {act : Act} (gd : Good nt c0 H0 n0 c s act) : Region.wanted o (yielded ops act.tmps) = g := by
  have hlt : t < act.tmps.size := by rw [gd.size]; simpa using ht
  have hf := gd.frame t
  have hy : ∀ v, act.tmps.getD t undef = v → yielded ops act.tmps j = (match v with | .bool b => some b | _ => none) := by
    intro v hv
    unfold yielded
    rw [hj]
    simp only [Option.bind_some, Array.getElem?_eq_getElem hlt]
    have : act.tmps[t] = v := by simpa [hlt] using hv
    rw [this]
    cases v <;> rfl
  unfold gdS at hb
  split at hb
  · rename_i b hA
    rw [hA] at hf
    have := hy _ hf.sc_inv
    simp only at this
    unfold Region.wanted
    rw [hg]
    simp only [this]
    cases b <;> (split at hb <;> cases hb <;> rfl)
  · rename_i q b hA
    rw [hA] at hf
    cases hf with
    | cond h hn =>
      cases q with
      | true =>
        have := hy _ (h rfl).sc_inv
        simp only at this
        unfold Region.wanted
        rw [hg]
        simp only [this]
        cases b <;> (split at hb <;> cases hb <;> rfl)
      | false =>
        have := hy _ (hn rfl)
        have hu : yielded ops act.tmps j = none := this
        unfold Region.wanted
        rw [hg]
        simp only [hu]
        split at hb <;> cases hb <;> rfl
  · cases hb

theorem SemLM.skip {j t : Nat} {want : Bool} (hg : o.guard = some (j, want)) (hj : (ops[j]?).bind (·.dst) = some t) (ht : Nat.blt t nt = true) (hb : gdS want (s.A t) = some false)
    (hd : ∀ d, o.dst = some d → d < nt) (hn : SemLM P nt n0 ops l K ⟨updO s.A o.dst (.cond false (.sc (.bool false))), s.H, s.n⟩ μ) : SemLM P nt n0 ops (o :: l) K s μ := by
  intro c0 H0 c act g hm Qx hQ
  refine wpList_step fun K' hK' => ?_
  rw [if_neg (by rw [wanted_gd hg hj ht hb g]; simp)]
  have g2 : Good nt c s.H n0 c _ _ := g.rebase.next hd (.refl c) rfl (fun b hb => .inl hb) (.refl c s.H) (fun q x hx => .inr ⟨q, x, hx, rfl⟩) g.inv g.solo (Nat.le_refl _) (v := undef) (a := .cond false (.sc (.bool false))) (.cond (fun h => by cases h) (fun _ => rfl)) (.cond .sc)
  exact hK' _ _ (hn c0 H0 c _ (.join g.reach g2) (hm.kept g2.reach) Qx hQ)

theorem SemLM.quiet {j t : Nat} {want b : Bool} {a : AV} (hg : o.guard = some (j, want)) (hj : (ops[j]?).bind (·.dst) = some t) (ht : Nat.blt t nt = true) (hb : gdS want (s.A t) = some b)
    (hd : ∀ d, o.dst = some d → d < nt) (hok : a.Ok (· < s.n)) (h : b = true → OpR P nt o s (fun a' H' n' => a' = a ∧ H' = s.H ∧ n' = s.n))
    (hn : SemLM P nt n0 ops l K ⟨updO s.A o.dst (.cond b a), s.H, s.n⟩ μ) : SemLM P nt n0 ops (o :: l) K s μ := by
  cases b with
  | true =>
    refine SemLM.step (fun c0 c H0 act g => wanted_gd hg hj ht hb g) hd (R := fun a' H' n' => (a' = .cond true a) ∧ H' = s.H ∧ n' = s.n) ?_ ?_
    · intro c0 H0 n0 c act g K Q hK
      refine h rfl c0 H0 n0 c act g K Q fun c' a' H' n' v hR hgood => ?_
      obtain ⟨rfl, rfl, rfl⟩ := hR
      refine hK c' (.cond true a') _ _ v ⟨rfl, rfl, rfl⟩ fun dst hd => ?_
      have g2 := hgood dst hd
      refine ⟨g2.inv, g2.solo, fun q => ?_, fun q => ?_, g2.size, g2.defers, g2.reach, g2.le0⟩
      · have h1 := g2.frame q
        cases dst with
        | none => exact h1
        | some d =>
          simp only [updO] at h1 ⊢
          by_cases hq : q = d
          · subst hq; rw [upd_same] at h1 ⊢; exact .cond (fun _ => h1) (fun h => by cases h)
          · rw [upd_other _ _ hq] at h1 ⊢; exact h1
      · have h1 := g2.ok q
        cases dst with
        | none => exact h1
        | some d =>
          simp only [updO] at h1 ⊢
          by_cases hq : q = d
          · subst hq; rw [upd_same] at h1 ⊢; exact .cond h1
          · rw [upd_other _ _ hq] at h1 ⊢; exact h1
    · rintro _ _ _ ⟨rfl, rfl, rfl⟩
      exact hn
  | false =>
    intro c0 H0 c act g hm Qx hQ
    refine wpList_step fun K' hK' => ?_
    rw [if_neg (by rw [wanted_gd hg hj ht hb g]; simp)]
    have g2 : Good nt c s.H n0 c _ _ := g.rebase.next hd (.refl c) rfl (fun b hb => .inl hb) (.refl c s.H) (fun q x hx => .inr ⟨q, x, hx, rfl⟩) g.inv g.solo (Nat.le_refl _) (v := undef) (a := .cond false a) (.cond (fun h => by cases h) (fun _ => rfl)) (.cond hok)
    exact hK' _ _ (hn c0 H0 c _ (.join g.reach g2) (hm.kept g2.reach) Qx hQ)

theorem SemM.region {id : Nat} {Q : AExit → St → Mu → Prop} (h : SemLM P nt n0 ops ops.toList (fun s μ => Q .normal s μ) s μ) : SemM P nt n0 (.region id ops false) Q s μ := by
  intro c0 H0 c act g hm
  exact wp_region_list (h c0 H0 c act g hm _ fun c' s' act' μ' g' hm' hq => ⟨c', s', .normal, μ', rfl, g', hm', rfl, hq⟩)
end

mutual
theorem okB_ok (M : Nat → Bool) : ∀ (a : AV), AV.okB M a = true → a.Ok (fun o => M o = true)
  | .junk => fun _ => .junk
  | .sc _ => fun _ => .sc
  | .nils => fun _ => .nils
  | .agg cs => fun h => .agg (oksB_ok M cs h)
  | .tup cs => fun h => .tup (oksB_ok M cs h)
  | .list .. => fun _ => .list
  | .ref .. => fun h => .ref h
  | .ptr .. => fun h => .ptr h
  | .elem .. => fun _ => .elem
  | .fn _ caps => fun h => .fn (oksB_ok M caps h)
  | .mref _ => fun h => .mref h
  | .cond _ v => fun h => .cond (okB_ok M v h)
theorem oksB_ok (M : Nat → Bool) : ∀ (l : List AV), AV.oksB M l = true → ∀ a ∈ l, a.Ok (fun o => M o = true)
  | [] => fun _ _ h => by cases h
  | a :: r => fun h x hx => by
    have h' : (AV.okB M a && AV.oksB M r) = true := h
    simp only [Bool.and_eq_true] at h'
    rcases List.mem_cons.1 hx with he | hx
    · rw [he]; exact okB_ok M a h'.1
    · exact oksB_ok M r h'.2 x hx
end

theorem okLt {n : Nat} {a : AV} (h : AV.okB (fun o => Nat.blt o n) a = true) : a.Ok (· < n) := (okB_ok _ a h).mono fun o ho => by simpa using ho

inductive Kn where
  | seq (c : Code)
  | block (id : Nat)
  | loop (b : Code)

inductive Cf where
  | code (c : Code)
  | exit (e : AExit)
  | ops (ops : Array Oper) (l : List Oper)
  | loop (b : Code)

/-- It holds of the state, or of what is known of it by other names. -/
def Cl (nt n0 : Nat) (Q : AExit → St → Mu → Prop) : AExit → St → Mu → Prop := fun e s μ =>
  ∀ (c0 : Ctx) (H0 : Heap) (c : Ctx) (act : Act), Good nt c0 H0 n0 c s act → MOk c0 c s.H μ → ∃ c' s', c'.w = c.w ∧ Good nt c0 H0 n0 c' s' act ∧ MOk c0 c' s'.H μ ∧ Q e s' μ

theorem Cl.mk {nt n0 : Nat} {Q : AExit → St → Mu → Prop} {e : AExit} {s : St} {μ : Mu} (h : Q e s μ) : Cl nt n0 Q e s μ := fun _ _ c _ g hm => ⟨c, s, rfl, g, hm, h⟩

theorem SemM.ofCl {P : Program} {nt n0 : Nat} {Q : AExit → St → Mu → Prop} {code : Code} {s : St} {μ : Mu} (h : SemM P nt n0 code (Cl nt n0 Q) s μ) : SemM P nt n0 code Q s μ := by
  intro c0 H0 c act g hm
  refine Code.wp_mono ?_ (h c0 H0 c act g hm)
  rintro e a w ⟨c', s', ae, μ', rfl, g', hm', rfl, hq⟩
  obtain ⟨c2, s2, h1, h2, h3, h4⟩ := hq c0 H0 c' a g' hm'
  exact ⟨c2, s2, ae, μ', h1, h2, h3, rfl, h4⟩

/-- What is to be done behind a piece of code. -/
def Kont (P : Program) (nt n0 : Nat) (Q : AExit → St → Mu → Prop) : List Kn → AExit → St → Mu → Prop
  | [] => Cl nt n0 Q
  | .seq c :: K => seqM P nt n0 c (Kont P nt n0 Q K)
  | .block id :: K => blockM id (Kont P nt n0 Q K)
  | .loop b :: K => rndM P nt n0 b (Kont P nt n0 Q K)

def SemK (P : Program) (nt n0 : Nat) (Q : AExit → St → Mu → Prop) (cf : Cf) (K : List Kn) (s : St) (μ : Mu) : Prop :=
  match cf with
  | .code c => SemM P nt n0 c (Kont P nt n0 Q K) s μ
  | .exit e => Kont P nt n0 Q K e s μ
  | .ops ops l => SemLM P nt n0 ops l (fun s μ => Kont P nt n0 Q K .normal s μ) s μ
  | .loop b => SemLoop P nt n0 b (Kont P nt n0 Q K) s μ

def SSt (L : List (Nat × AV)) (G : List (Nat × Obj)) (n : Nat) : St := ⟨fr L, hp G, n⟩

def putK {β : Type} (d : Option Nat) (a : AV) (L : List (Nat × AV)) (k : List (Nat × AV) → Option β) : Option β :=
  match d with
  | some d => k ((d, a) :: L)
  | none => k L
def putO (d : Option Nat) (a : AV) (L : List (Nat × AV)) : List (Nat × AV) :=
  match d with
  | some d => (d, a) :: L
  | none => L
theorem putK_eq {β : Type} (d : Option Nat) (a : AV) (L : List (Nat × AV)) (k : List (Nat × AV) → Option β) : putK d a L k = k (putO d a L) := by cases d <;> rfl
theorem putO_fr (d : Option Nat) (a : AV) (L : List (Nat × AV)) : fr (putO d a L) = updO (fr L) d a := by
  cases d <;> rfl

def forceG {β : Type} : List (Nat × Obj) → (List (Nat × Obj) → Option β) → Option β
  | [], k => k []
  | p :: r, k => forceG r fun r => k (p :: r)
theorem forceG_eq {β : Type} : ∀ (G : List (Nat × Obj)) (k : List (Nat × Obj) → Option β), forceG G k = k G := by
  intro G
  induction G with
  | nil => intro k; rfl
  | cons p r ih => intro k; simp [forceG, ih]

/-- What is owed, one fact after the other. -/
def oweK {β : Type} : List Prop → List Prop → (List Prop → Option β) → Option β
  | [], ps, k => k ps
  | q :: r, ps, k => oweK r (q :: ps) k
def oweL : List Prop → List Prop → List Prop
  | [], ps => ps
  | q :: r, ps => oweL r (q :: ps)
theorem oweK_eq {β : Type} : ∀ (qs ps : List Prop) (k : List Prop → Option β), oweK qs ps k = k (oweL qs ps) := by
  intro qs
  induction qs with
  | nil => intro ps k; rfl
  | cons q r ih => intro ps k; simp [oweK, oweL, ih]
theorem oweL_iff : ∀ {qs ps : List Prop}, allP (oweL qs ps) → allP qs ∧ allP ps := by
  intro qs
  induction qs with
  | nil => intro ps h; exact ⟨trivial, h⟩
  | cons q r ih => intro ps h; obtain ⟨h1, h2⟩ := ih h; exact ⟨⟨h2.1, h1⟩, h2.2⟩

/-! Regions whose order is drawn. -/
def filL (bad : List Nat) : List (Nat × AV) → List (Nat × AV)
  | [] => []
  | (d, a) :: l => bif memB d bad then filL bad l else (d, a) :: filL bad l
theorem filL_fr (bad : List Nat) : ∀ L, fr (filL bad L) = frD bad (fr L) := by
  intro L
  funext t
  induction L with
  | nil => simp [filL, fr, frD]
  | cons p l ih =>
    obtain ⟨d, a⟩ := p
    simp only [filL]
    cases hb : memB d bad with
    | true =>
      simp only [cond_true, ih, frD, fr]
      cases ht : memB t bad with
      | true => rfl
      | false =>
        have : Nat.beq t d = false := by
          rw [← Bool.not_eq_true, Nat.beq_eq]
          intro e; subst e; rw [hb] at ht; cases ht
        simp [this]
    | false =>
      simp only [cond_false, frD, fr]
      cases hq : Nat.beq t d with
      | true =>
        have : t = d := Nat.eq_of_beq_eq_true hq
        subst this
        simp [hb]
      | false =>
        simp only [cond_false, ih, frD]

def filG (base mi : Nat) (hf : Bool) (es : List WEff) : List (Nat × Obj) → List (Nat × Obj)
  | [] => []
  | (o, x) :: l => bif hidden base mi hf es o then filG base mi hf es l else (o, x) :: filG base mi hf es l
theorem filG_hp (base mi : Nat) (hf : Bool) (es : List WEff) : ∀ G, hp (filG base mi hf es G) = hpD base mi hf es (hp G) := by
  intro G
  funext q
  induction G with
  | nil => simp [filG, hp, hpD]
  | cons p l ih =>
    obtain ⟨o, x⟩ := p
    simp only [filG]
    cases hb : hidden base mi hf es o with
    | true =>
      simp only [cond_true, ih, hpD, hp]
      cases ht : hidden base mi hf es q with
      | true => rfl
      | false =>
        have : Nat.beq q o = false := by
          rw [← Bool.not_eq_true, Nat.beq_eq]
          intro e; subst e; rw [hb] at ht; cases ht
        simp [this]
    | false =>
      simp only [cond_false, hpD, hp]
      cases hq : Nat.beq q o with
      | true =>
        have : q = o := Nat.eq_of_beq_eq_true hq
        subst this
        simp [hb]
      | false =>
        simp only [cond_false, ih, hpD]

def weffS (id : Nat) (G : List (Nat × Obj)) : WEff → List (Nat × Obj)
  | .none => G
  | .new x => (id, x) :: G
  | .app old x => (id, x) :: delG old G
  | .set o x => (o, x) :: delG o G
theorem weffS_ok (id : Nat) (G : List (Nat × Obj)) (e : WEff) : hp (weffS id G e) = e.go id (hp G) := by
  cases e with
  | none => rfl
  | new x => rw [WEff.go_new]; rfl
  | app old x => rw [WEff.go_app]; simp only [weffS, hp_cons, delG_hp]
  | set o x => rw [WEff.go_set]; exact hp_setG o x G

abbrev DR := Option (AV × WEff × List Hint × List Prop)

def dopS (P : Program) (T : Ty) (L : List (Nat × AV)) (G : List (Nat × Obj)) (id : Nat) (o : Oper) (hs : List Hint) : DR :=
  match o.op with
  | .store t p x => match o.dst with
    | none => match stO T L G t p x hs with
      | some (q, z, hs, ps) => some (.sc undef, .set q z, hs, ps)
      | none => none
    | some _ => none
  | .call { callee := .value x, args := args, argTypes := _ } => match hs with
    | .pure bs r :: hs => match rd L x with
      | (.fn f [], p) => match rds L args.toList with
        | (as, q) => match AV.okB (fun _ => false) r with
          | true => some (r, .none, hs, PureCall P f (hp G) as bs r :: (p ++ q))
          | false => none
      | _ => none
    | _ => none
  | op => match puS T L (hp G) op hs with
    | some (a, hs, ps) => some (a, .none, hs, ps)
    | none => match mkS T L (hp G) id op hs with
      | some (a, .none, hs, ps) => some (a, .none, hs, ps)
      | some (a, .new x, hs, ps) => some (a, .new x, hs, ps)
      | some (a, .app old x, hs, ps) => some (a, .app old x, hs, ps)
      | none => none

theorem dopS_ok {P : Program} {T : Ty} {L : List (Nat × AV)} {G : List (Nat × Obj)} {id : Nat} {o : Oper} {hs hs' : List Hint} {ps : List Prop} {a : AV} {e : WEff} (h : dopS P T L G id o hs = some (a, e, hs', ps)) (hp' : allP ps) :
    DOp P T (fr L) (hp G) id o a e := by
  unfold dopS at h
  split at h
  · rename_i ho
    split at h
    · rename_i hd
      split at h
      · rename_i hst
        cases h
        obtain ⟨i, k, y, e, ti, h1, h2, h3, h4, h5, h6, h7, h8, h9, rfl⟩ := stO_ok hst hp'
        exact .store ho hd h1 h2 h4 h5 h6 h7 h8 h9
      · cases h
    · cases h
  · rename_i ho
    split at h
    · split at h
      · rename_i hx
        split at h
        rename_i hargs
        split at h
        · rename_i hok
          cases h
          obtain ⟨⟨p1, Hr, p2, p3, p4⟩, q⟩ := hp'
          obtain ⟨q1, q2⟩ := allP_app.1 q
          rw [← rds_ok hargs q2] at p2
          refine .pure ho (rd_ok hx q1) p2 p1 p3 (p4.imp (fun h => h) fun hn => ⟨hn, fun M => ?_⟩)
          exact (okB_ok _ _ hok).mono fun o ho => by cases ho
        · cases h
      · cases h
    · cases h
  · split at h
    · rename_i hpu
      cases h
      exact .pu (puS_ok hpu hp')
    · split at h
      · rename_i hm; cases h; exact .zero (mkS_ok hm hp').1
      · rename_i hm; cases h
        obtain ⟨h1, h2⟩ := mkS_ok hm hp'
        have := h2 0 _ (.inr rfl)
        exact .new h1 this.1 this.2
      · rename_i hm; cases h
        obtain ⟨h1, h2⟩ := mkS_ok hm hp'
        have := h2 _ _ (.inl rfl)
        exact .app h1 this.1 this.2
      · cases h

/-- What a guard reads, as it is. -/
def rawB (want : Bool) (a : AV) : Option (Bool × List Prop) :=
  match a with
  | .sc (.bool b) => match want with
    | true => some (b, [])
    | false => some (!b, [])
  | .cond g (.sc (.bool b)) => match want with
    | true => some (b, [g = true])
    | false => some (!b, [g = true])
  | _ => none

theorem rawB_ok {want g : Bool} {a : AV} {qs : List Prop} (h : rawB want a = some (g, qs)) (hq : allP qs) : ∃ b, strip a = .sc (.bool b) ∧ g = (b == want) := by
  unfold rawB at h
  split at h
  · rename_i b
    refine ⟨b, rfl, ?_⟩
    cases b <;> (split at h <;> (cases h; rfl))
  · rename_i q b
    split at h
    · cases h; obtain ⟨rfl, _⟩ := hq; exact ⟨g, rfl, by cases g <;> rfl⟩
    · cases h; obtain ⟨rfl, _⟩ := hq; exact ⟨b, rfl, by cases b <;> rfl⟩
  · cases h

def drawS (P : Program) (T : Ty) (nt base : Nat) (ops : Array Oper) (ms : List Nat) (zs : List (Nat × Bool)) : Nat → List Oper → List (Nat × AV) → List (Nat × Obj) → List WEff → List Hint → List Prop → Option (List (Nat × AV) × List (Nat × Obj) × List Hint × List Prop)
  | _, [], L, G, _, hs, ps => some (L, G, hs, ps)
  | i, o :: l, L, G, es, hs, ps =>
    if dstOkD nt (badGo i (ms.getD i 0) 0 ops.toList ms) o.dst = true then (match o.guard with
      | none => match dopS P T (filL (badGo i (ms.getD i 0) 0 ops.toList ms) L) (filG base (ms.getD i 0) (heapFree o.op) es G) (base + i) o hs with
        | some (a, e, hs', qs) => if writeOk base (ms.getD i 0) (e.objs (base + i)) 0 (zs.take i) [] es = true then
            forceA a fun a => putK o.dst a L fun L => forceG (weffS (base + i) G e) fun G => oweK qs ps fun ps => drawS P T nt base ops ms zs (i + 1) l L G (es ++ [e]) hs' ps else none
        | none => none
      | some (j, want) => match (ops[j]?).bind (·.dst) with
        | some t => if Nat.blt t nt = true then (match hs with
          | .go true :: hs => match rawB want (fr (filL (badGo i (ms.getD i 0) 0 ops.toList ms) L) t) with
            | some (g, rs) => match dopS P T (filL (badGo i (ms.getD i 0) 0 ops.toList ms) L) (filG base (ms.getD i 0) (heapFree o.op) es G) (base + i) o hs with
              | some (a, e, hs', qs) => if writeOk base (ms.getD i 0) (e.objs (base + i)) 0 (zs.take i) [] es = true then
                  forceA a fun a => putK o.dst a L fun L => forceG (weffS (base + i) G e) fun G => oweK rs ps fun ps => oweK qs ((g = true) :: ps) fun ps => drawS P T nt base ops ms zs (i + 1) l L G (es ++ [e]) hs' ps else none
              | none => none
            | none => none
          | .go false :: hs => match rawB want (fr (filL (badGo i (ms.getD i 0) 0 ops.toList ms) L) t) with
            | some (g, rs) => putK o.dst (.sc undef) L fun L => oweK rs ps fun ps => drawS P T nt base ops ms zs (i + 1) l L G (es ++ [.none]) hs ((g = false) :: ps)
            | none => none
          | .no :: hs => match fr (filL (badGo i (ms.getD i 0) 0 ops.toList ms) L) t with
            | .sc v => match boolIs want v with
              | false => putK o.dst (.sc undef) L fun L => drawS P T nt base ops ms zs (i + 1) l L G (es ++ [.none]) hs ps
              | true => none
            | _ => none
          | _ => none) else none
        | none => none) else none

theorem drawS_ok {P : Program} {T : Ty} {nt base : Nat} {ops : Array Oper} {ms : List Nat} : ∀ (l : List Oper) (i : Nat) (L : List (Nat × AV)) (G : List (Nat × Obj)) (es : List WEff) (hs : List Hint) (ps : List Prop) (L' : List (Nat × AV)) (G' : List (Nat × Obj)) (hs' : List Hint) (ps' : List Prop),
    drawS P T nt base ops ms (ms.zip (ops.toList.map fun o => heapFree o.op)) i l L G es hs ps = some (L', G', hs', ps') → allP ps' → allP ps ∧ DRun P T nt base ops ms i l (fr L) (hp G) es (fr L') (hp G') := by
  intro l
  induction l with
  | nil => intro i L G es hs ps L' G' hs' ps' h hp'; simp only [drawS] at h; cases h; exact ⟨hp', .nil⟩
  | cons o l ih =>
    intro i L G es hs ps L' G' hs' ps' h hp'
    simp only [drawS] at h
    split at h
    · rename_i hd
      split at h
      · rename_i hg
        split at h
        · rename_i a e _ qs hop
          split at h
          · rename_i hw
            rw [forceA_eq, putK_eq, forceG_eq, oweK_eq] at h
            obtain ⟨h1, h2⟩ := ih _ _ _ _ _ _ _ _ _ _ h hp'
            obtain ⟨p1, p2⟩ := oweL_iff h1
            have hop' := dopS_ok hop p1
            rw [filL_fr, filG_hp] at hop'
            rw [putO_fr, weffS_ok] at h2
            exact ⟨p2, .op hg hd hop' hw h2⟩
          · cases h
        · cases h
      · rename_i j want hg
        split at h
        · rename_i hj
          split at h
          · rename_i ht
            split at h
            · split at h
              · rename_i hr
                split at h
                · rename_i hop
                  split at h
                  · rename_i hw
                    rw [forceA_eq, putK_eq, forceG_eq, oweK_eq, oweK_eq] at h
                    obtain ⟨h1, h2⟩ := ih _ _ _ _ _ _ _ _ _ _ h hp'
                    obtain ⟨p1, p0, p2⟩ := oweL_iff h1
                    obtain ⟨p3, p4⟩ := oweL_iff p2
                    have hop' := dopS_ok hop p1
                    rw [filL_fr, filG_hp] at hop'
                    rw [putO_fr, weffS_ok] at h2
                    obtain ⟨b, hb1, hb2⟩ := rawB_ok hr p3
                    rw [filL_fr] at hb1
                    have : b = want := by rw [p0] at hb2; simpa using hb2.symm
                    subst this
                    exact ⟨p4, .run hg hd hj ht hb1 hop' hw h2⟩
                  · cases h
                · cases h
              · cases h
            · split at h
              · rename_i hr
                rw [putK_eq, oweK_eq] at h
                obtain ⟨h1, h2⟩ := ih _ _ _ _ _ _ _ _ _ _ h hp'
                obtain ⟨p0, p2⟩ := h1
                obtain ⟨p3, p4⟩ := oweL_iff p2
                rw [putO_fr] at h2
                obtain ⟨b, hb1, hb2⟩ := rawB_ok hr p3
                rw [filL_fr] at hb1
                exact ⟨p4, .skip hg hd hj ht hb1 (by rw [p0] at hb2; exact hb2.symm) h2⟩
              · cases h
            · split at h
              · rename_i hr
                split at h
                · rename_i hb
                  rw [putK_eq] at h
                  obtain ⟨h1, h2⟩ := ih _ _ _ _ _ _ _ _ _ _ h hp'
                  rw [putO_fr] at h2
                  rw [filL_fr] at hr
                  exact ⟨h1, .skip hg hd hj ht (by rw [hr]; rfl) hb h2⟩
                · cases h
              · cases h
            · cases h
          · cases h
        · cases h
    · cases h

def forceN {β : Type} (n : Nat) (k : Nat → Option β) : Option β :=
  match n with
  | 0 => k 0
  | m + 1 => k (m + 1)
theorem forceN_eq {β : Type} (n : Nat) (k : Nat → Option β) : forceN n k = k n := by cases n <;> rfl
def cntN {β : Type} : List Oper → Nat → (Nat → Option β) → Option β
  | [], n, k => k n
  | _ :: r, n, k => forceN (n + 1) fun n => cntN r n k
theorem cntN_eq {β : Type} : ∀ (l : List Oper) (n : Nat) (k : Nat → Option β), cntN l n k = k (n + l.length) := by
  intro l
  induction l with
  | nil => intro n k; rfl
  | cons a r ih => intro n k; simp only [cntN, forceN_eq, ih, List.length_cons]; congr 1; omega

abbrev RR := Option (Cf × List Kn × List (Nat × AV) × List (Nat × Obj) × Nat × List Hint × List Prop)

/-- What stands in a state stands in another one, too. -/
def SubSt (nt n0 : Nat) (s s' : St) : Prop := ∀ (c0 : Ctx) (H0 : Heap) (c : Ctx) (act : Act) (μ : Mu), Good nt c0 H0 n0 c s act → MOk c0 c s.H μ → Good nt c0 H0 n0 c s' act ∧ MOk c0 c s'.H μ

theorem SubSt.loop {P : Program} {nt n0 : Nat} {s s' : St} (hw : SubSt nt n0 s s') {b : Code} {Q : AExit → St → Mu → Prop} {μ : Mu} (h : SemLoop P nt n0 b Q s' μ) : SemLoop P nt n0 b Q s μ := by
  intro c0 H0 c act g hm
  obtain ⟨g', hm'⟩ := hw c0 H0 c act μ g hm
  exact h c0 H0 c act g' hm'
theorem SubSt.semM {P : Program} {nt n0 : Nat} {s s' : St} (hw : SubSt nt n0 s s') {c : Code} {Q : AExit → St → Mu → Prop} {μ : Mu} (h : SemM P nt n0 c Q s' μ) : SemM P nt n0 c Q s μ := by
  intro c0 H0 c act g hm
  obtain ⟨g', hm'⟩ := hw c0 H0 c act μ g hm
  exact h c0 H0 c act g' hm'
theorem Kont.sub {P : Program} {nt n0 : Nat} {Q : AExit → St → Mu → Prop} {μ : Mu} {s s' : St} (hw : SubSt nt n0 s s') : ∀ (K : List Kn) (e : AExit), Kont P nt n0 Q K e s' μ → Kont P nt n0 Q K e s μ := by
  intro K
  induction K with
  | nil =>
    intro e h c0 H0 c act g hm
    obtain ⟨g', hm'⟩ := hw c0 H0 c act μ g hm
    exact h c0 H0 c act g' hm'
  | cons k K ih =>
    intro e h
    cases k with
    | seq c =>
      cases e with
      | normal => exact hw.semM h
      | exit i => exact ih _ h
      | ret => exact ih _ h
    | block id =>
      cases e with
      | normal => exact ih _ h
      | ret => exact ih _ h
      | exit i =>
        have h' : blockM id (Kont P nt n0 Q K) (.exit i) s' μ := h
        show blockM id (Kont P nt n0 Q K) (.exit i) s μ
        simp only [blockM] at h' ⊢
        cases hb : Nat.beq i id with
        | true => rw [hb, cond_true] at h'; exact ih _ h'
        | false => rw [hb, cond_false] at h'; exact ih _ h'
    | loop b =>
      cases e with
      | normal => exact hw.loop h
      | exit i => exact ih _ h
      | ret => exact ih _ h
theorem SemK.sub {P : Program} {nt n0 : Nat} {Q : AExit → St → Mu → Prop} {cf : Cf} {K : List Kn} {μ : Mu} {s s' : St} (hw : SubSt nt n0 s s') (h : SemK P nt n0 Q cf K s' μ) : SemK P nt n0 Q cf K s μ := by
  cases cf with
  | code c => exact hw.semM h
  | exit e => exact Kont.sub hw K e h
  | ops ops l =>
    intro c0 H0 c act g hm
    obtain ⟨g', hm'⟩ := hw c0 H0 c act μ g hm
    exact h c0 H0 c act g' hm'
  | loop b => exact hw.loop h

/-- What stands at an object's end may be forgotten. -/
theorem Good.trunc {nt n0 n : Nat} {c0 c : Ctx} {H0 H : Heap} {A : Nat → AV} {act : Act} (g : Good nt c0 H0 n0 c ⟨A, H, n⟩ act) {o : Nat} {y : Obj} (hy : H o = some y) (m : Nat) :
    Good nt c0 H0 n0 c ⟨A, upd H o (some { y with es := y.es.take m }), n⟩ act := by
  have hM : ∀ q z, upd H o (some { y with es := y.es.take m }) q = some z → ∃ z', H q = some z' ∧ (∃ m, z.es = z'.es.take m) ∧ z.esz = z'.esz ∧ z.solo = z'.solo ∧ z.spent = z'.spent := by
    intro q z hz
    by_cases hq : q = o
    · subst hq; rw [upd_same] at hz; cases hz; exact ⟨y, hy, ⟨m, rfl⟩, rfl, rfl, rfl⟩
    · rw [upd_other _ _ hq] at hz; exact ⟨z, hz, ⟨z.es.length, by simp⟩, rfl, rfl, rfl⟩
  have hsolo : ∀ q z, upd H o (some { y with es := y.es.take m }) q = some z → z.solo = true ∧ z.spent = false := by
    intro q z hz
    obtain ⟨z', hz', _, _, h1, h2⟩ := hM q z hz
    rw [h1, h2]; exact g.solo q z' hz'
  refine ⟨⟨?_, ?_, ?_, g.inv.lt, g.inv.base, g.inv.own, ?_⟩, hsolo, g.frame, g.ok, g.size, g.defers, ⟨g.reach.rho, g.reach.os, g.reach.tape, g.reach.output, g.reach.size, g.reach.block, g.reach.stable, g.reach.sa, g.reach.so1, g.reach.so2, g.reach.B, ?_⟩, g.le0⟩
  · intro q z hz
    obtain ⟨z', hz', ⟨k, hk⟩, h1, _⟩ := hM q z hz
    obtain ⟨g1, ⟨⟨cur, hb, hs, hc⟩, hf, hp, hse⟩, g3⟩ := g.inv.obj q z' hz'
    refine ⟨g1, ⟨⟨cur, hb, hs, fun i e he => ?_⟩, ?_, hp, by rw [h1]; exact hse⟩, fun e he => ?_⟩
    · rw [hk, List.getElem?_take] at he
      split at he
      · exact hc i e he
      · cases he
    · rw [hk, List.length_take]; omega
    · rw [hk] at he; exact g3 e (List.mem_of_mem_take he)
  · intro q q' z z' hz hz' hne hb
    obtain ⟨x, hx, _, _, h1, _⟩ := hM q z hz
    obtain ⟨x', hx', _⟩ := hM q' z' hz'
    have := (g.inv.sep q q' x x' hx hx' hne hb).1
    rw [(g.solo q x hx).1] at this; cases this
  · intro q z hz
    obtain ⟨z', hz', _⟩ := hM q z hz
    exact g.inv.stab q z' hz'
  · intro q z hz
    obtain ⟨z', hz', _⟩ := hM q z hz
    exact g.inv.low q z' hz'
  · intro q z hz
    obtain ⟨z', hz', _⟩ := hM q z hz
    exact g.reach.own q z' hz'

theorem SubSt.trunc {nt n0 n : Nat} {H : Heap} {A : Nat → AV} {o : Nat} {y : Obj} (hy : H o = some y) (m : Nat) : SubSt nt n0 ⟨A, H, n⟩ ⟨A, upd H o (some { y with es := y.es.take m }), n⟩ := by
  intro c0 H0 c act μ g hm
  refine ⟨g.trunc hy m, hm.is, fun p hp => ?_, hm.nodup⟩
  obtain ⟨a1, a2, a3, a4⟩ := hm.away p hp
  refine ⟨a1, a2, fun q z hz => ?_, a4⟩
  have hz' : upd H o (some { y with es := y.es.take m }) q = some z := hz
  by_cases hq : q = o
  · subst hq; exact a3 q y hy
  · rw [upd_other _ _ hq] at hz'; exact a3 q z hz'

/-- Is the next hint a stop at this region? -/
def stopAt (id : Nat) : List Hint → Bool
  | .stop j :: _ => Nat.beq j id
  | _ => false

def runS (P : Program) (T : Ty) (nt : Nat) : Nat → Cf → List Kn → List (Nat × AV) → List (Nat × Obj) → Nat → List Hint → List Prop → RR
  | 0, cf, K, L, G, n, hs, ps => some (cf, K, L, G, n, hs, ps)
  | f + 1, cf, K, L, G, n, hs, ps => match cf with
    | .code c => match c with
      | .skip => runS P T nt f (.exit .normal) K L G n hs ps
      | .label _ => runS P T nt f (.exit .normal) K L G n hs ps
      | .exit id => runS P T nt f (.exit (.exit id)) K L G n hs ps
      | .ret => runS P T nt f (.exit .ret) K L G n hs ps
      | .seq a b => runS P T nt f (.code a) (.seq b :: K) L G n hs ps
      | .block id c => runS P T nt f (.code c) (.block id :: K) L G n hs ps
      | .scope c => runS P T nt f (.code c) K L G n hs ps
      | .region id ops false => match hs with
        | .stop j :: hs => match Nat.beq j id with
          | true => some (.code (.region id ops false), K, L, G, n, hs, ps)
          | false => runS P T nt f (.ops ops ops.toList) K L G n (.stop j :: hs) ps
        | hs => runS P T nt f (.ops ops ops.toList) K L G n hs ps
      | .region id ops true => match stopAt id hs with
       | true => some (.code (.region id ops true), K, L, G, n, hs.tail, ps)
       | false => match preLt 0 ops.toList with
        | true => match drawS P T nt n ops (masks ops.toList) ((masks ops.toList).zip (ops.toList.map fun o => heapFree o.op)) 0 ops.toList L G [] hs ps with
          | some (L, G, hs, ps) => forceG G fun G => cntN ops.toList n fun n => runS P T nt f (.exit .normal) K L G n hs ps
          | none => none
        | false => none
      | .loop b => some (.loop b, K, L, G, n, hs, ps)
      | .cond x a b => match hs with
        | .br true :: hs => match rd L x with
          | (.sc (.bool t), qs) => oweK qs ((t = true) :: ps) fun ps => runS P T nt f (.code a) K L G n hs ps
          | _ => none
        | .br false :: hs => match rd L x with
          | (.sc (.bool t), qs) => oweK qs ((t = false) :: ps) fun ps => runS P T nt f (.code b) K L G n hs ps
          | _ => none
        | hs => some (.code (.cond x a b), K, L, G, n, hs, ps)
      | c => some (.code c, K, L, G, n, hs, ps)
    | .exit e => match K with
      | [] => some (.exit e, [], L, G, n, hs, ps)
      | .seq c :: K => match e with
        | .normal => runS P T nt f (.code c) K L G n hs ps
        | e => runS P T nt f (.exit e) K L G n hs ps
      | .block id :: K => match e with
        | .exit i => match Nat.beq i id with
          | true => runS P T nt f (.exit .normal) K L G n hs ps
          | false => runS P T nt f (.exit (.exit i)) K L G n hs ps
        | e => runS P T nt f (.exit e) K L G n hs ps
      | .loop b :: K => match e with
        | .normal => some (.loop b, K, L, G, n, hs, ps)
        | e => runS P T nt f (.exit e) K L G n hs ps
    | .loop b => some (.loop b, K, L, G, n, hs, ps)
    | .ops ops l => match l with
      | [] => runS P T nt f (.exit .normal) K L G n hs ps
      | o :: l => match hs with
       | .trunc q es :: hs => match hp G q with
        | some y => runS P T nt f (.ops ops (o :: l)) K L ((q, { y with es := es }) :: delG q G) n hs ((∃ m, es = y.es.take m) :: ps)
        | none => none
       | hs => if dstOk nt o.dst = true then (match o.guard with
        | none => match opS P T L G n o.op hs with
          | some (a, G', n', hs', qs) => forceA a fun a => putK o.dst a L fun L => forceG G' fun G => oweK qs ps fun ps => runS P T nt f (.ops ops l) K L G n' hs' ps
          | none => some (.ops ops (o :: l), K, L, G, n, hs, ps)
        | some (j, want) => match (ops[j]?).bind (·.dst) with
          | some t => if Nat.blt t nt = true then (match gdS want (fr L t) with
            | some g => match stopAt 999999 hs with
             | true => some (.ops ops (o :: l), K, L, G, n, hs.tail, ps)
             | false => match hs with
              | .go true :: hs => match opS P T L G n o.op hs with
                | some (a, G', n', hs', qs) => forceA a fun a => putK o.dst a L fun L => forceG G' fun G => oweK qs ((g = true) :: ps) fun ps => runS P T nt f (.ops ops l) K L G n' hs' ps
                | none => none
              | .go false :: hs => putK o.dst (.cond false (.sc (.bool false))) L fun L => runS P T nt f (.ops ops l) K L G n hs ((g = false) :: ps)
              | hs => match quS P T L G o.op hs with
                | some (a, hs', qs) => match AV.okB (fun o => Nat.blt o n) a with
                  | true => forceA a fun a => putK o.dst (.cond g a) L fun L => oweK (underP g qs) ps fun ps => runS P T nt f (.ops ops l) K L G n hs' ps
                  | false => none
                | none => some (.ops ops (o :: l), K, L, G, n, hs, ps)
            | none => none) else none
          | none => none) else none

theorem runS_ok {P : Program} {T : Ty} {nt n0 : Nat} {μ : Mu} {Q : AExit → St → Mu → Prop} (hT : TyOk P T) (hm : P.follows .mixedOrders = true) : ∀ (f : Nat) (cf : Cf) (K : List Kn) (L : List (Nat × AV)) (G : List (Nat × Obj)) (n : Nat) (hs : List Hint) (ps : List Prop) (cf' : Cf) (K' : List Kn) (L' : List (Nat × AV)) (G' : List (Nat × Obj)) (n' : Nat) (hs' : List Hint) (ps' : List Prop),
    runS P T nt f cf K L G n hs ps = some (cf', K', L', G', n', hs', ps') → allP ps' → allP ps ∧ (SemK P nt n0 Q cf' K' (SSt L' G' n') μ → SemK P nt n0 Q cf K (SSt L G n) μ) := by
  intro f
  induction f with
  | zero => intro cf K L G n hs ps cf' K' L' G' n' hs' ps' h hp; simp only [runS] at h; cases h; exact ⟨hp, fun h => h⟩
  | succ f ih =>
    intro cf K L G n hs ps cf' K' L' G' n' hs' ps' h hp
    have stop : some (cf, K, L, G, n, hs, ps) = some (cf', K', L', G', n', hs', ps') → allP ps ∧ (SemK P nt n0 Q cf' K' (SSt L' G' n') μ → SemK P nt n0 Q cf K (SSt L G n) μ) := by
      intro h; cases h; exact ⟨hp, fun h => h⟩
    cases cf with
    | code c =>
      cases c with
      | skip => obtain ⟨h1, h2⟩ := ih _ _ _ _ _ _ _ _ _ _ _ _ _ _ h hp; exact ⟨h1, fun k => SemM.skip (h2 k)⟩
      | label => obtain ⟨h1, h2⟩ := ih _ _ _ _ _ _ _ _ _ _ _ _ _ _ h hp; exact ⟨h1, fun k => SemM.label (h2 k)⟩
      | exit => obtain ⟨h1, h2⟩ := ih _ _ _ _ _ _ _ _ _ _ _ _ _ _ h hp; exact ⟨h1, fun k => SemM.exit (h2 k)⟩
      | ret => obtain ⟨h1, h2⟩ := ih _ _ _ _ _ _ _ _ _ _ _ _ _ _ h hp; exact ⟨h1, fun k => SemM.ret (h2 k)⟩
      | seq => obtain ⟨h1, h2⟩ := ih _ _ _ _ _ _ _ _ _ _ _ _ _ _ h hp; exact ⟨h1, fun k => SemM.seq (h2 k)⟩
      | block => obtain ⟨h1, h2⟩ := ih _ _ _ _ _ _ _ _ _ _ _ _ _ _ h hp; exact ⟨h1, fun k => SemM.block (h2 k)⟩
      | scope => obtain ⟨h1, h2⟩ := ih _ _ _ _ _ _ _ _ _ _ _ _ _ _ h hp; exact ⟨h1, fun k => SemM.scope (h2 k)⟩
      | region id ops d =>
        cases d with
        | false =>
          simp only [runS] at h
          split at h
          · split at h
            · cases h; exact ⟨hp, fun k => k⟩
            · obtain ⟨h1, h2⟩ := ih _ _ _ _ _ _ _ _ _ _ _ _ _ _ h hp; exact ⟨h1, fun k => SemM.region (h2 k)⟩
          · obtain ⟨h1, h2⟩ := ih _ _ _ _ _ _ _ _ _ _ _ _ _ _ h hp; exact ⟨h1, fun k => SemM.region (h2 k)⟩
        | true =>
          simp only [runS] at h
          split at h
          · cases h; exact ⟨hp, fun k => k⟩
          split at h
          · rename_i hpre
            split at h
            · rename_i hd
              rw [forceG_eq, cntN_eq] at h
              obtain ⟨h1, h2⟩ := ih _ _ _ _ _ _ _ _ _ _ _ _ _ _ h hp
              obtain ⟨h3, h4⟩ := drawS_ok _ _ _ _ _ _ _ _ _ _ _ hd h1
              exact ⟨h3, fun k => SemM.of (SemC.drawn (s := SSt L G n) hm hT hpre h4 (h2 k))⟩
            · cases h
          · cases h
      | loop b => cases h; exact ⟨hp, fun k => SemM.loop k⟩
      | cond x a b =>
        simp only [runS] at h
        split at h
        · split at h
          · rename_i hr
            rw [oweK_eq] at h
            obtain ⟨h1, h2⟩ := ih _ _ _ _ _ _ _ _ _ _ _ _ _ _ h hp
            obtain ⟨p3, p1, p4⟩ := oweL_iff h1
            exact ⟨p4, fun k => SemM.cond (s := (SSt L G n)) (rd_ok hr p3) (fun _ => h2 k) (fun hf => by rw [p1] at hf; cases hf)⟩
          · cases h
        · split at h
          · rename_i hr
            rw [oweK_eq] at h
            obtain ⟨h1, h2⟩ := ih _ _ _ _ _ _ _ _ _ _ _ _ _ _ h hp
            obtain ⟨p3, p1, p4⟩ := oweL_iff h1
            exact ⟨p4, fun k => SemM.cond (s := (SSt L G n)) (rd_ok hr p3) (fun hf => by rw [p1] at hf; cases hf) (fun _ => h2 k)⟩
          · cases h
        · exact stop h
      | _ => exact stop h
    | exit e =>
      cases K with
      | nil => exact stop h
      | cons kn K =>
        cases kn with
        | seq c => cases e <;> (simp only [runS] at h; obtain ⟨h1, h2⟩ := ih _ _ _ _ _ _ _ _ _ _ _ _ _ _ h hp; exact ⟨h1, fun k => h2 k⟩)
        | loop b =>
          cases e with
          | normal => cases h; exact ⟨hp, fun k => k⟩
          | exit i => simp only [runS] at h; obtain ⟨h1, h2⟩ := ih _ _ _ _ _ _ _ _ _ _ _ _ _ _ h hp; exact ⟨h1, fun k => h2 k⟩
          | ret => simp only [runS] at h; obtain ⟨h1, h2⟩ := ih _ _ _ _ _ _ _ _ _ _ _ _ _ _ h hp; exact ⟨h1, fun k => h2 k⟩
        | block id =>
          cases e with
          | normal => simp only [runS] at h; obtain ⟨h1, h2⟩ := ih _ _ _ _ _ _ _ _ _ _ _ _ _ _ h hp; exact ⟨h1, fun k => h2 k⟩
          | ret => simp only [runS] at h; obtain ⟨h1, h2⟩ := ih _ _ _ _ _ _ _ _ _ _ _ _ _ _ h hp; exact ⟨h1, fun k => h2 k⟩
          | exit i =>
            simp only [runS] at h
            split at h
            · rename_i hb
              obtain ⟨h1, h2⟩ := ih _ _ _ _ _ _ _ _ _ _ _ _ _ _ h hp
              refine ⟨h1, fun k => ?_⟩
              show blockM id (Kont P nt n0 Q K) (.exit i) (SSt L G n) μ
              simp only [blockM, hb, cond_true]
              exact h2 k
            · rename_i hb
              obtain ⟨h1, h2⟩ := ih _ _ _ _ _ _ _ _ _ _ _ _ _ _ h hp
              refine ⟨h1, fun k => ?_⟩
              show blockM id (Kont P nt n0 Q K) (.exit i) (SSt L G n) μ
              simp only [blockM, hb, cond_false]
              exact h2 k
    | loop b => exact stop h
    | ops ops l =>
      simp only [runS] at h
      split at h
      · obtain ⟨h1, h2⟩ := ih _ _ _ _ _ _ _ _ _ _ _ _ _ _ h hp; exact ⟨h1, fun k => SemLM.nil (h2 k)⟩
      · split at h
        · split at h
          · rename_i hy
            obtain ⟨⟨⟨m, rfl⟩, h1⟩, h2⟩ := ih _ _ _ _ _ _ _ _ _ _ _ _ _ _ h hp
            refine ⟨h1, fun k => SemK.sub (SubSt.trunc (A := fr L) (H := Go.Av.hp G) (n := n) hy m) ?_⟩
            have := h2 k
            simp only [SSt, hp_setG] at this
            exact this
          · cases h
        split at h
        · rename_i hd
          have hdl := dstOk_lt hd
          split at h
          · rename_i hg
            split at h
            · rename_i hop
              rw [forceA_eq, putK_eq, forceG_eq, oweK_eq] at h
              obtain ⟨h1, h2⟩ := ih _ _ _ _ _ _ _ _ _ _ _ _ _ _ h hp
              obtain ⟨p1, p2⟩ := oweL_iff h1
              refine ⟨p2, fun k => SemLM.plain hg hdl (opS_ok hT hop p1) ?_⟩
              rintro _ _ _ ⟨rfl, rfl, rfl⟩
              have := h2 k
              simp only [SemK, SSt, putO_fr] at this
              exact this
            · exact stop h
          · rename_i j want hg
            split at h
            · rename_i hj
              split at h
              · rename_i ht
                split at h
                · rename_i g hgd
                  split at h
                  · cases h; exact ⟨hp, fun k => k⟩
                  split at h
                  · split at h
                    · rename_i hop
                      rw [forceA_eq, putK_eq, forceG_eq, oweK_eq] at h
                      obtain ⟨h1, h2⟩ := ih _ _ _ _ _ _ _ _ _ _ _ _ _ _ h hp
                      obtain ⟨p1, p0, p2⟩ := oweL_iff h1
                      subst p0
                      refine ⟨p2, fun k => SemLM.step (fun c0 c H0 act gd => wanted_gd (s := SSt L G n) hg hj ht hgd gd) hdl (opS_ok hT hop p1) ?_⟩
                      rintro _ _ _ ⟨rfl, rfl, rfl⟩
                      have := h2 k
                      simp only [SemK, SSt, putO_fr] at this
                      exact this
                    · cases h
                  · rw [putK_eq] at h
                    obtain ⟨h1, h2⟩ := ih _ _ _ _ _ _ _ _ _ _ _ _ _ _ h hp
                    obtain ⟨p0, p1⟩ := h1
                    subst p0
                    refine ⟨p1, fun k => SemLM.skip (s := SSt L G n) hg hj ht hgd hdl ?_⟩
                    have := h2 k
                    simp only [SemK, SSt, putO_fr] at this
                    exact this
                  · split at h
                    · rename_i hpu
                      split at h
                      · rename_i hok
                        rw [forceA_eq, putK_eq, oweK_eq] at h
                        obtain ⟨h1, h2⟩ := ih _ _ _ _ _ _ _ _ _ _ _ _ _ _ h hp
                        obtain ⟨p1, p2⟩ := oweL_iff h1
                        refine ⟨p2, fun k => SemLM.quiet (s := SSt L G n) hg hj ht hgd hdl (okLt hok) (fun hb => quS_ok hT hpu (underP_ok p1 hb)) ?_⟩
                        have := h2 k
                        simp only [SemK, SSt, putO_fr] at this
                        exact this
                      · cases h
                    · exact stop h
                · cases h
              · cases h
            · cases h
        · cases h

theorem SemK.round {P : Program} {nt n0 : Nat} {μ : Mu} {Q : AExit → St → Mu → Prop} {b : Code} {K : List Kn} {s : St} (h : SemK P nt n0 Q (.code b) (.loop b :: K) s μ) : SemK P nt n0 Q (.loop b) K s μ := SemLoop.round h

/-- A run to where it stops. -/
theorem run_to {P : Program} {T : Ty} {nt n0 : Nat} {μ : Mu} {Q : AExit → St → Mu → Prop} {cf cf' : Cf} {K K' : List Kn} {L L' : List (Nat × AV)} {G G' : List (Nat × Obj)} {n n' : Nat} {hs' : List Hint} {ps' : List Prop} (hT : TyOk P T ∧ P.follows .mixedOrders = true) (f : Nat) (hs : List Hint)
    (h : runS P T nt f cf K L G n hs [] = some (cf', K', L', G', n', hs', ps')) (hp' : allP ps') (k : SemK P nt n0 Q cf' K' ⟨fr L', hp G', n'⟩ μ) : SemK P nt n0 Q cf K ⟨fr L, hp G, n⟩ μ :=
  (runS_ok hT.1 hT.2 f cf K L G n hs [] cf' K' L' G' n' hs' ps' h hp').2 k
end Go.Av

/- Symbolic runs: loops one round after the other, states that are forgotten in part, ends. -/
namespace Go.Av

section
variable {P : Program} {nt n0 : Nat} {s : St} {μ : Mu}

theorem SemM.semC {code : Code} {Q : AExit → St → Prop} (h : SemM P nt n0 code (fun e s _ => Q e s) s []) : SemC P nt n0 code Q s := by
  intro c0 H0 c act g
  refine Code.wp_mono ?_ (h c0 H0 c act g .nil)
  rintro e a w ⟨c', s', ae, μ', rfl, g', _, rfl, hq⟩
  exact ⟨c', s', ae, rfl, g', rfl, hq⟩

theorem Good.weak' {c0 c : Ctx} {H0 : Heap} {s s' : St} {act : Act} {θ : Nat → Nat} (g : Good nt c0 H0 n0 c s act) (hw : WeakBy θ n0 s s') :
    ∃ c', c' = { c with ρ := fun o => c.ρ (θ o) } ∧ Good nt c0 H0 n0 c' s' act := ⟨{ c with ρ := fun o => c.ρ (θ o) }, rfl, g.weakBy hw⟩

theorem Good.weakM {c0 c : Ctx} {H0 : Heap} {s s' : St} {act : Act} (g : Good nt c0 H0 n0 c s act) (hm : MOk c0 c s.H μ) (hw : Weak n0 s s') :
    ∃ c', c'.w = c.w ∧ Good nt c0 H0 n0 c' s' act ∧ MOk c0 c' s'.H μ := by
  obtain ⟨θ, hw⟩ := hw
  obtain ⟨c', h2, h3⟩ := g.weak' hw
  exact ⟨c', by rw [h2], h3, hm.weak hw h2⟩

theorem SemM.weak {code : Code} {Q : AExit → St → Mu → Prop} {s' : St} (hw : Weak n0 s s') (h : SemM P nt n0 code Q s' μ) : SemM P nt n0 code Q s μ := by
  intro c0 H0 c act g hm
  obtain ⟨c', hc, g', hm'⟩ := g.weakM hm hw
  have := h c0 H0 c' act g' hm'
  rwa [hc] at this

theorem SemLM.weak {ops : Array Oper} {l : List Oper} {K : St → Mu → Prop} {s' : St} (hw : Weak n0 s s') (h : SemLM P nt n0 ops l K s' μ) : SemLM P nt n0 ops l K s μ := by
  intro c0 H0 c act g hm Qx hQ
  obtain ⟨c', hc, g', hm'⟩ := g.weakM hm hw
  have := h c0 H0 c' act g' hm' Qx hQ
  rwa [hc] at this
end

mutual
theorem ren_id : ∀ a : AV, AV.ren (fun o => o) a = a
  | .junk => rfl
  | .sc _ => rfl
  | .nils => rfl
  | .agg cs => by simp only [AV.ren, rens_id cs]
  | .tup cs => by simp only [AV.ren, rens_id cs]
  | .list .. => rfl
  | .ref .. => rfl
  | .ptr .. => rfl
  | .elem .. => rfl
  | .fn _ caps => by simp only [AV.ren, rens_id caps]
  | .mref _ => rfl
  | .cond _ v => by simp only [AV.ren, ren_id v]
theorem rens_id : ∀ l : List AV, AV.rens (fun o => o) l = l
  | [] => rfl
  | a :: r => by simp only [AV.rens, ren_id a, rens_id r]
end

/-- New names for objects: those that are not told keep theirs. -/
def thL : List (Nat × Nat) → Nat → Nat
  | [], o => o
  | (a, b) :: r, o => bif Nat.beq o a then b else thL r o

theorem thL_nil : thL [] = fun o => o := rfl

def wkL (L : List (Nat × AV)) (θ : List (Nat × Nat)) (n : Nat) : List (Nat × AV) → Prop
  | [] => True
  | (t, a) :: r => fr L t = a.ren (thL θ) ∧ a.Ok (· < n) ∧ wkL L θ n r

def wkG (G : List (Nat × Obj)) (θ : List (Nat × Nat)) (n : Nat) : List (Nat × Obj) → Prop
  | [] => True
  | (o, x) :: r => (∃ y, hp G (thL θ o) = some y ∧ y.esz = x.esz ∧ y.es = x.es.map (AV.ren (thL θ))) ∧ o < n ∧ (∀ e ∈ x.es, ∀ a ∈ e.cells, a.Ok (· < n)) ∧ x.solo = true ∧ x.spent = false ∧ wkG G θ n r

theorem wkL_get {L : List (Nat × AV)} {θ : List (Nat × Nat)} {n : Nat} : ∀ {L' : List (Nat × AV)}, wkL L θ n L' → ∀ t, (fr L' t = .junk ∨ fr L t = (fr L' t).ren (thL θ)) ∧ (fr L' t).Ok (· < n) := by
  intro L'
  induction L' with
  | nil => intro _ t; exact ⟨.inl rfl, .junk⟩
  | cons p r ih =>
    obtain ⟨d, a⟩ := p
    rintro ⟨h1, h2, h3⟩ t
    by_cases ht : t = d
    · subst ht
      have : fr ((t, a) :: r) t = a := by simp [fr]
      rw [this]; exact ⟨.inr h1, h2⟩
    · have : fr ((d, a) :: r) t = fr r t := by
        have hb : Nat.beq t d = false := by rw [← Bool.not_eq_true, Nat.beq_eq]; exact ht
        simp [fr, hb]
      rw [this]; exact ih h3 t

theorem wkG_get {G : List (Nat × Obj)} {θ : List (Nat × Nat)} {n : Nat} : ∀ {G' : List (Nat × Obj)}, wkG G θ n G' → ∀ o x, hp G' o = some x →
    (∃ y, hp G (thL θ o) = some y ∧ y.esz = x.esz ∧ y.es = x.es.map (AV.ren (thL θ))) ∧ o < n ∧ (∀ e ∈ x.es, ∀ a ∈ e.cells, a.Ok (· < n)) ∧ x.solo = true ∧ x.spent = false := by
  intro G'
  induction G' with
  | nil => intro _ o x h; cases h
  | cons p r ih =>
    obtain ⟨d, y⟩ := p
    rintro ⟨h1, h2, h3, h4, h5, h6⟩ o x hx
    by_cases ho : o = d
    · subst ho
      have : hp ((o, y) :: r) o = some y := by simp [hp]
      rw [this] at hx; cases hx
      exact ⟨h1, h2, h3, h4, h5⟩
    · have : hp ((d, y) :: r) o = hp r o := by
        have hb : Nat.beq o d = false := by rw [← Bool.not_eq_true, Nat.beq_eq]; exact ho
        simp [hp, hb]
      rw [this] at hx
      exact ih h6 o x hx

theorem hp_mem {G : List (Nat × Obj)} {o : Nat} (h : hp G o ≠ none) : o ∈ G.map (·.1) := by
  induction G with
  | nil => exact absurd rfl h
  | cons p r ih =>
    obtain ⟨d, y⟩ := p
    by_cases ho : o = d
    · subst ho; simp
    · have : hp ((d, y) :: r) o = hp r o := by
        have hb : Nat.beq o d = false := by rw [← Bool.not_eq_true, Nat.beq_eq]; exact ho
        simp [hp, hb]
      rw [this] at h
      exact List.mem_cons_of_mem _ (ih h)

def injB (θ : List (Nat × Nat)) : List Nat → Bool
  | [] => true
  | o :: r => r.all (fun q => Nat.beq o q || !Nat.beq (thL θ o) (thL θ q)) && injB θ r

theorem injB_ok {θ : List (Nat × Nat)} : ∀ {l : List Nat}, injB θ l = true → ∀ o ∈ l, ∀ q ∈ l, thL θ o = thL θ q → o = q := by
  intro l
  induction l with
  | nil => intro _ o h; cases h
  | cons a r ih =>
    intro h o ho q hq he
    simp only [injB, Bool.and_eq_true, List.all_eq_true, Bool.or_eq_true, Nat.beq_eq, Bool.not_eq_true'] at h
    have key : ∀ x ∈ r, thL θ a = thL θ x → a = x := by
      intro x hx hax
      rcases h.1 x hx with h1 | h1
      · exact h1
      · rw [hax, Nat.beq_refl] at h1; cases h1
    rcases List.mem_cons.1 ho with h1 | h1
    · rcases List.mem_cons.1 hq with h2 | h2
      · rw [h1, h2]
      · rw [h1] at he ⊢; exact key q h2 he
    · rcases List.mem_cons.1 hq with h2 | h2
      · rw [h2] at he ⊢; exact (key o h1 he.symm).symm
      · exact ih h.2 o h1 q h2 he

def fixB (θ : List (Nat × Nat)) (n0 : Nat) : Bool := θ.all fun p => Nat.ble n0 p.1 || Nat.beq p.1 p.2
theorem fixB_ok {n0 : Nat} : ∀ {θ : List (Nat × Nat)}, fixB θ n0 = true → ∀ o, o < n0 → thL θ o = o := by
  intro θ
  induction θ with
  | nil => intro _ o _; rfl
  | cons p r ih =>
    obtain ⟨a, b⟩ := p
    intro h o ho
    simp only [fixB, List.all_cons, Bool.and_eq_true, Bool.or_eq_true, Nat.ble_eq, Nat.beq_eq] at h
    simp only [thL]
    cases hb : Nat.beq o a with
    | true =>
      have : o = a := Nat.eq_of_beq_eq_true hb
      subst this
      rcases h.1 with h1 | h1
      · omega
      · simp only [cond_true]; exact h1.symm
    | false => simp only [cond_false]; exact ih h.2 o ho

/-- What is told of a state behind it: some slots, some objects, by other names. -/
theorem weak_of {L L' : List (Nat × AV)} {G G' : List (Nat × Obj)} {n n' n0 : Nat} (θ : List (Nat × Nat)) (hb : (fixB θ n0 && injB θ (G'.map (·.1)) && Nat.ble n0 n') = true) (hL : wkL L θ n' L') (hG : wkG G θ n' G') :
    Weak n0 ⟨fr L, hp G, n⟩ ⟨fr L', hp G', n'⟩ := by
  simp only [Bool.and_eq_true, Nat.ble_eq] at hb
  obtain ⟨⟨h1, h2⟩, h3⟩ := hb
  refine ⟨thL θ, fixB_ok h1, fun t => (wkL_get hL t).1, fun o x hx => ?_, fun o q ho hq he => injB_ok h2 o (hp_mem ho) q (hp_mem hq) he, fun t => (wkL_get hL t).2, fun o x hx => ?_, h3⟩
  · obtain ⟨⟨y, g1, g2, g3⟩, _⟩ := wkG_get hG o x hx
    exact ⟨y, g1, g2, g3⟩
  · obtain ⟨_, g1, g2, g3, g4⟩ := wkG_get hG o x hx
    exact ⟨g1, g2, g3, g4⟩

theorem Kont.weak {P : Program} {nt n0 : Nat} {Q : AExit → St → Mu → Prop} {μ : Mu} {s s' : St} (hw : Weak n0 s s') : ∀ (K : List Kn) (e : AExit), Kont P nt n0 Q K e s' μ → Kont P nt n0 Q K e s μ := by
  have hloop : ∀ {b : Code} {Q' : AExit → St → Mu → Prop}, SemLoop P nt n0 b Q' s' μ → SemLoop P nt n0 b Q' s μ := by
    intro b Q' h c0 H0 c act g hm
    obtain ⟨c', hc, g', hm'⟩ := g.weakM hm hw
    have := h c0 H0 c' act g' hm'
    rwa [hc] at this
  intro K
  induction K with
  | nil =>
    intro e h c0 H0 c act g hm
    obtain ⟨c', hc, g', hm'⟩ := g.weakM hm hw
    obtain ⟨c2, s2, h1, h2, h3, h4⟩ := h c0 H0 c' act g' hm'
    exact ⟨c2, s2, h1.trans hc, h2, h3, h4⟩
  | cons k K ih =>
    intro e h
    cases k with
    | seq c =>
      cases e with
      | normal => exact SemM.weak hw h
      | exit i => exact ih _ h
      | ret => exact ih _ h
    | block id =>
      cases e with
      | normal => exact ih _ h
      | ret => exact ih _ h
      | exit i =>
        have h' : blockM id (Kont P nt n0 Q K) (.exit i) s' μ := h
        show blockM id (Kont P nt n0 Q K) (.exit i) s μ
        simp only [blockM] at h' ⊢
        cases hb : Nat.beq i id with
        | true => rw [hb, cond_true] at h'; exact ih _ h'
        | false => rw [hb, cond_false] at h'; exact ih _ h'
    | loop b =>
      cases e with
      | normal => exact hloop h
      | exit i => exact ih _ h
      | ret => exact ih _ h

/-- A state may be forgotten in part, wherever a run stands. -/
theorem SemK.weak {P : Program} {nt n0 : Nat} {Q : AExit → St → Mu → Prop} {cf : Cf} {K : List Kn} {μ : Mu} {s s' : St} (hw : Weak n0 s s') (h : SemK P nt n0 Q cf K s' μ) : SemK P nt n0 Q cf K s μ := by
  cases cf with
  | code c => exact SemM.weak hw h
  | exit e => exact Kont.weak hw K e h
  | ops ops l => exact SemLM.weak hw h
  | loop b =>
    intro c0 H0 c act g hm
    obtain ⟨c', hc, g', hm'⟩ := g.weakM hm hw
    have := h c0 H0 c' act g' hm'
    rwa [hc] at this

theorem Kont.collapse {P : Program} {nt n0 : Nat} {Q : AExit → St → Mu → Prop} : ∀ (K : List Kn) (e : AExit) (s : St) (μ : Mu), Cl nt n0 (Kont P nt n0 Q K) e s μ → Kont P nt n0 Q K e s μ := by
  intro K
  induction K with
  | nil =>
    intro e s μ h c0 H0 c act g hm
    obtain ⟨c1, s1, h1, h2, h3, h4⟩ := h c0 H0 c act g hm
    obtain ⟨c2, s2, k1, k2, k3, k4⟩ := h4 c0 H0 c1 act h2 h3
    exact ⟨c2, s2, k1.trans h1, k2, k3, k4⟩
  | cons k K ih =>
    intro e s μ h
    cases k with
    | seq c =>
      cases e with
      | normal =>
        intro c0 H0 cx act g hm
        obtain ⟨c1, s1, h1, h2, h3, h4⟩ := h c0 H0 cx act g hm
        rw [← h1]
        exact h4 c0 H0 c1 act h2 h3
      | exit i => exact ih (.exit i) s μ h
      | ret => exact ih .ret s μ h
    | block id =>
      cases e with
      | normal => exact ih .normal s μ h
      | ret => exact ih .ret s μ h
      | exit i =>
        show blockM id (Kont P nt n0 Q K) (.exit i) s μ
        have h' : ∀ (c0 : Ctx) (H0 : Heap) (c : Ctx) (act : Act), Good nt c0 H0 n0 c s act → MOk c0 c s.H μ → ∃ c' s', c'.w = c.w ∧ Good nt c0 H0 n0 c' s' act ∧ MOk c0 c' s'.H μ ∧ blockM id (Kont P nt n0 Q K) (.exit i) s' μ := h
        simp only [blockM] at h' ⊢
        cases hb : Nat.beq i id with
        | true => simp only [hb, cond_true] at h' ⊢; exact ih .normal s μ h'
        | false => simp only [hb, cond_false] at h' ⊢; exact ih (.exit i) s μ h'
    | loop b =>
      cases e with
      | normal =>
        intro c0 H0 cx act g hm
        obtain ⟨c1, s1, h1, h2, h3, h4⟩ := h c0 H0 cx act g hm
        rw [← h1]
        exact h4 c0 H0 c1 act h2 h3
      | exit i => exact ih (.exit i) s μ h
      | ret => exact ih .ret s μ h

theorem MQ.ofCl {nt n0 : Nat} {Q : AExit → St → Mu → Prop} {c0 : Ctx} {H0 : Heap} : ∀ e a w, MQ nt c0 H0 n0 (Cl nt n0 Q) e a w → MQ nt c0 H0 n0 Q e a w := by
  rintro e a w ⟨c', s', ae, μ', rfl, g', hm', rfl, hq⟩
  obtain ⟨c2, s2, h1, h2, h3, h4⟩ := hq c0 H0 c' a g' hm'
  exact ⟨c2, s2, ae, μ', h1, h2, h3, rfl, h4⟩

/-- Forgetting, what is left first. -/
theorem SemK.weakTo {P : Program} {nt n0 : Nat} {Q : AExit → St → Mu → Prop} {cf : Cf} {K : List Kn} {μ : Mu} {L L' : List (Nat × AV)} {G G' : List (Nat × Obj)} {n n' : Nat} (θ : List (Nat × Nat)) (h : SemK P nt n0 Q cf K ⟨fr L', hp G', n'⟩ μ)
    (hb : (fixB θ n0 && injB θ (G'.map (·.1)) && Nat.ble n0 n') = true) (hL : wkL L θ n' L') (hG : wkG G θ n' G') : SemK P nt n0 Q cf K ⟨fr L, hp G, n⟩ μ := SemK.weak (weak_of θ hb hL hG) h

/-- What is behind a piece of code may be set apart. -/
theorem SemK.cut {P : Program} {nt n0 : Nat} {Q : AExit → St → Mu → Prop} {cf : Cf} {K : List Kn} {μ : Mu} {s : St} (h : SemK P nt n0 (Kont P nt n0 Q K) cf [] s μ) : SemK P nt n0 Q cf K s μ := by
  cases cf with
  | code c => exact SemM.ofCl h
  | exit e => exact Kont.collapse K e s μ h
  | ops ops l =>
    intro c0 H0 c act g hm Qx hQ
    refine h c0 H0 c act g hm Qx fun c' s' act' μ' g' hm' hk => ?_
    exact hQ c' s' act' μ' g' hm' (Kont.collapse K .normal s' μ' hk)
  | loop b =>
    intro c0 H0 c act g hm bb k cs
    obtain ⟨e, a', w', hq, harr⟩ := h c0 H0 c act g hm bb k cs
    exact ⟨e, a', w', MQ.ofCl e a' w' hq, harr⟩

theorem SemK.glue {P : Program} {nt n0 : Nat} {Q : AExit → St → Mu → Prop} {e : AExit} {K : List Kn} {μ : Mu} {s : St} (h : SemK P nt n0 Q (.exit e) K s μ) : SemK P nt n0 (Kont P nt n0 Q K) (.exit e) [] s μ := Cl.mk h

theorem SemK.done {P : Program} {nt n0 : Nat} {Q : AExit → St → Mu → Prop} {e : AExit} {μ : Mu} {s : St} (h : Q e s μ) : SemK P nt n0 Q (.exit e) [] s μ := Cl.mk h

/-- The bodies of the loops, in the order of the text. -/
def loopsOf : Code → List Code
  | .loop b => b :: loopsOf b
  | .seq a b => loopsOf a ++ loopsOf b
  | .block _ c => loopsOf c
  | .scope c => loopsOf c
  | .cond _ a b => loopsOf a ++ loopsOf b
  | _ => []
def loopB (i : Nat) (c : Code) : Code := ((loopsOf c)[i]?).getD .skip

/-! Beginnings and ends. -/
def argL : Nat → List AV → List (Nat × AV)
  | _, [] => []
  | i, a :: r => (i, a) :: argL (i + 1) r

theorem argL_fr : ∀ (as : List AV) (i t : Nat), fr (argL i as) t = if i ≤ t then (match as[t - i]? with | some a => a | none => .junk) else .junk := by
  intro as
  induction as with
  | nil => intro i t; simp [argL, fr]
  | cons a r ih =>
    intro i t
    simp only [argL, fr]
    by_cases ht : t = i
    · subst ht; simp
    · have hb : Nat.beq t i = false := by rw [← Bool.not_eq_true, Nat.beq_eq]; exact ht
      rw [hb, cond_false, ih]
      by_cases h1 : i + 1 ≤ t
      · rw [if_pos h1, if_pos (by omega), show t - i = (t - (i + 1)) + 1 by omega, List.getElem?_cons_succ]
      · rw [if_neg h1, if_neg (by omega)]

theorem weak_args {n : Nat} {as : List AV} {G : List (Nat × Obj)} (hok : ∀ a ∈ as, a.Ok (· < n)) (hG : ∀ o x, hp G o = some x → o < n ∧ (∀ e ∈ x.es, ∀ a ∈ e.cells, a.Ok (· < n)) ∧ x.solo = true ∧ x.spent = false) :
    Weak n ⟨argA as, hp G, n⟩ ⟨fr (argL 0 as), hp G, n⟩ := by
  refine ⟨fun o => o, fun _ _ => rfl, fun t => ?_, fun o x hx => ⟨x, hx, rfl, ?_⟩, fun o q _ _ h => h, fun t => ?_, fun o x hx => hG o x hx, Nat.le_refl n⟩
  · show fr (argL 0 as) t = .junk ∨ argA as t = AV.ren (fun o => o) (fr (argL 0 as) t)
    rw [argL_fr]
    simp only [Nat.zero_le, if_true, Nat.sub_zero, argA]
    cases hq : as[t]? with
    | none => exact .inl rfl
    | some a => right; simp [ren_id]
  · have : AV.ren (fun o => o) = id := funext ren_id
    simp [this]
  · show (fr (argL 0 as) t).Ok (· < n)
    rw [argL_fr]
    simp only [Nat.zero_le, if_true, Nat.sub_zero]
    cases hq : as[t]? with
    | none => exact .junk
    | some a => exact hok a (List.mem_of_getElem? hq)

def pureM (T : Ty) (fn : Func) (r : AV) : AExit → St → Mu → Prop := fun e s _ => pureQ T fn r e s

/-- A pure function: its body, from its arguments. -/
theorem Pure.sym {P : Program} {T : Ty} (hT : TyOk P T) {f : Nat} {fn : Func} {code : Code} (hfn : FnOk P f fn code) {as : List AV} {nt : Nat} {r : AV} (hnt : fn.ntmps = nt)
    (hle : Nat.ble as.length nt = true) (h : SemK P nt 0 (pureM T fn r) (.code code) [] ⟨fr (argL 0 as), hp [], 0⟩ []) (hok : ∀ a ∈ as, a.Ok (· < 0)) : Pure P f as r := by
  refine Pure.of_body hT hfn hnt (by simpa using hle) (SemM.semC (SemM.ofCl (SemM.weak (n0 := 0) ?_ h)))
  exact weak_args (G := []) hok (fun o x hx => by cases hx)

def resS (T : Ty) (L : List (Nat × AV)) (G : List (Nat × Obj)) : List ResultVar → Option (List AV)
  | [] => some []
  | .tmp t :: l => match fr L t with
    | .cond _ _ => none
    | a => forceA a fun a => match resS T L G l with
      | some r => some (a :: r)
      | none => none
  | .cell p t :: l => match T t with
    | some ti => match fr L p with
      | .ptr o i k => match hp G o with
        | some y => match y.es[i]? with
          | some e => match loadE ti e k with
            | some a => forceA a fun a => match resS T L G l with
              | some r => some (a :: r)
              | none => none
            | none => none
          | none => none
        | none => none
      | _ => none
    | none => none

theorem resS_ok {T : Ty} {L : List (Nat × AV)} {G : List (Nat × Obj)} {n : Nat} : ∀ (l : List ResultVar) (r : List AV), resS T L G l = some r → ResRs T ⟨fr L, hp G, n⟩ l r := by
  intro l
  induction l with
  | nil => intro r h; simp [resS] at h; subst h; exact .nil
  | cons v l ih =>
    intro r h
    cases v with
    | tmp t =>
      simp only [resS] at h
      split at h
      · cases h
      · rename_i a hne
        rw [forceA_eq] at h
        split at h
        · rename_i hr
          cases h
          have : strip (fr L t) = fr L t := by
            cases hq : fr L t with
            | cond g v => exact absurd hq (hne g v)
            | _ => rfl
          have hres : ResR T ⟨fr L, hp G, n⟩ (.tmp t) (strip (fr L t)) := .tmp
          rw [this] at hres
          exact .cons hres (ih _ hr)
        · cases h
    | cell p t =>
      simp only [resS] at h
      split at h
      · rename_i ht
        split at h
        · rename_i hp1
          split at h
          · rename_i hH
            split at h
            · rename_i he
              split at h
              · rename_i hl
                rw [forceA_eq] at h
                split at h
                · rename_i hr
                  cases h
                  refine .cons (.cell ht (e := _) (k := _) ?_ hl) (ih _ hr)
                  show Deref (hp G) (strip (fr L p)) _ _
                  rw [hp1]
                  exact .ptr hH he
                · cases h
              · cases h
            · cases h
          · cases h
        · cases h
      · cases h

theorem Good.argL {nt n0 : Nat} {c0 c : Ctx} {H0 H : Heap} {n : Nat} {as : List AV} {act : Act} (g : Good nt c0 H0 n0 c ⟨argA as, H, n⟩ act) : Good nt c0 H0 n0 c ⟨fr (Av.argL 0 as), H, n⟩ act := by
  refine ⟨g.inv, g.solo, fun t => ?_, fun t => ?_, g.size, g.defers, g.reach, g.le0⟩
  · show VRel c false (fr (Av.argL 0 as) t) _
    rw [argL_fr]
    simp only [Nat.zero_le, if_true, Nat.sub_zero]
    have := g.frame t
    simp only [argA] at this
    cases hq : as[t]? with
    | none => exact .junk
    | some a => rw [hq] at this; exact this
  · show (fr (Av.argL 0 as) t).Ok (· < n)
    rw [argL_fr]
    simp only [Nat.zero_le, if_true, Nat.sub_zero]
    have := g.ok t
    simp only [argA] at this
    cases hq : as[t]? with
    | none => exact .junk
    | some a => rw [hq] at this; exact this

theorem SemC.argL {P : Program} {nt n0 : Nat} {code : Code} {Q : AExit → St → Prop} {as : List AV} {H : Heap} {n : Nat} (h : SemC P nt n0 code Q ⟨fr (Av.argL 0 as), H, n⟩) : SemC P nt n0 code Q ⟨argA as, H, n⟩ :=
  fun c0 H0 c act g => h c0 H0 c act g.argL

def retM (T : Ty) (fn : Func) (K : AV → Heap → Nat → Prop) : AExit → St → Mu → Prop := fun e s _ => retQ T fn K e s

/-- A call, run into its function's body. -/
theorem SemK.inline {P : Program} {T : Ty} {nt n0 nt' f : Nat} {Q : AExit → St → Mu → Prop} {ops : Array Oper} {l : List Oper} {o : Oper} {K : List Kn} {L : List (Nat × AV)} {G : List (Nat × Obj)} {n : Nat} {μ : Mu} {x : Operand} {args : Array Operand} {ts : Array Nat}
    {caps as : List AV} {fn : Func} {code : Code} (hT : TyOk P T) (hfn : FnOk P f fn code) (ho : o.op = .call { callee := .value x, args := args, argTypes := ts }) (hg : o.guard = none) (hd : dstOk nt o.dst = true) {qx qa : List Prop} (hx : rd L x = (.fn f caps, qx)) (ha : rds L args.toList = (as, qa)) (hpx : allP qx) (hpa : allP qa)
    (hnt : fn.ntmps = nt') (hle : Nat.ble (as ++ caps).length nt' = true)
    (h : SemK P nt' n (retM T fn fun r H' n' => SemK P nt n0 Q (.ops ops l) K ⟨updO (fr L) o.dst r, H', n'⟩ μ) (.code code) [] ⟨fr (Av.argL 0 (as ++ caps)), hp G, n⟩ []) : SemK P nt n0 Q (.ops ops (o :: l)) K ⟨fr L, hp G, n⟩ μ := by
  refine SemLM.plain (s := ⟨fr L, hp G, n⟩) hg (dstOk_lt hd) (OpR.call (s := ⟨fr L, hp G, n⟩) ho (rd_ok hx hpx) ?_) (fun a H' n' hr => hr)
  rw [rds_ok ha hpa]
  exact HC.of_body hT hfn hnt (by simpa using hle) (SemC.argL (SemM.semC (SemM.ofCl h)))

/-- The end of a body that was run into. -/
theorem SemK.back {P : Program} {T : Ty} {nt n0 nt' n1 : Nat} {fn : Func} {Q : AExit → St → Mu → Prop} {ops : Array Oper} {l : List Oper} {d : Option Nat} {K : List Kn} {L L1 : List (Nat × AV)} {G : List (Nat × Obj)} {n : Nat} {μ μ1 : Mu} {rs : List AV} {e : AExit} (he : ∀ id, e ≠ .exit id)
    (hr : resS T L1 G fn.results.toList = some rs) (h : SemK P nt n0 Q (.ops ops l) K ⟨fr (putO d (packA rs) L), hp G, n⟩ μ) :
    SemK P nt' n1 (retM T fn fun r H' n' => SemK P nt n0 Q (.ops ops l) K ⟨updO (fr L) d r, H', n'⟩ μ) (.exit e) [] ⟨fr L1, hp G, n⟩ μ1 := by
  refine Cl.mk ?_
  have hk : ∃ rs, ResRs T ⟨fr L1, hp G, n⟩ fn.results.toList rs ∧ SemK P nt n0 Q (.ops ops l) K ⟨updO (fr L) d (packA rs), hp G, n⟩ μ := ⟨rs, resS_ok _ _ hr, by rw [← putO_fr]; exact h⟩
  cases e with
  | exit id => exact absurd rfl (he id)
  | normal => exact hk
  | ret => exact hk

theorem HCall.sym {P : Program} {T : Ty} (hT : TyOk P T) {f : Nat} {fn : Func} {code : Code} (hfn : FnOk P f fn code) {as : List AV} {nt : Nat} {r : AV} {G G' : List (Nat × Obj)} {n n' : Nat} (hnt : fn.ntmps = nt) (hle : Nat.ble as.length nt = true)
    (h : SemK P nt n (retM T fn fun r2 H2 n2 => r2 = r ∧ H2 = hp G' ∧ n2 = n') (.code code) [] ⟨fr (Av.argL 0 as), hp G, n⟩ []) : HCall P f as G n r G' n' :=
  ⟨HC.of_body hT hfn hnt (by simpa using hle) (SemC.argL (SemM.semC (SemM.ofCl h)))⟩

theorem SemK.fin {P : Program} {T : Ty} {nt n0 : Nat} {fn : Func} {r : AV} {L : List (Nat × AV)} {G : List (Nat × Obj)} {n : Nat} {μ : Mu} {rs : List AV} {e : AExit} (he : ∀ id, e ≠ .exit id) (hr : resS T L G fn.results.toList = some rs) (hc : packA rs = r) :
    SemK P nt n0 (retM T fn fun r2 H2 n2 => r2 = r ∧ H2 = hp G ∧ n2 = n) (.exit e) [] ⟨fr L, hp G, n⟩ μ := by
  refine Cl.mk ?_
  have hk : ∃ rs, ResRs T ⟨fr L, hp G, n⟩ fn.results.toList rs ∧ (packA rs = r ∧ hp G = hp G ∧ n = n) := ⟨rs, resS_ok _ _ hr, hc, rfl, rfl⟩
  cases e with
  | exit id => exact absurd rfl (he id)
  | normal => exact hk
  | ret => exact hk

theorem fin_ret {P : Program} {T : Ty} {nt n0 : Nat} {fn : Func} {r : AV} {L : List (Nat × AV)} {G : List (Nat × Obj)} {n : Nat} {μ : Mu} {rs : List AV} (hr : resS T L G fn.results.toList = some rs) (hc : Cv true (hp G) (packA rs) r) :
    SemK P nt n0 (pureM T fn r) (.exit .ret) [] ⟨fr L, hp G, n⟩ μ := Cl.mk ⟨rs, resS_ok _ _ hr, hc⟩
theorem fin_normal {P : Program} {T : Ty} {nt n0 : Nat} {fn : Func} {r : AV} {L : List (Nat × AV)} {G : List (Nat × Obj)} {n : Nat} {μ : Mu} {rs : List AV} (hr : resS T L G fn.results.toList = some rs) (hc : Cv true (hp G) (packA rs) r) :
    SemK P nt n0 (pureM T fn r) (.exit .normal) [] ⟨fr L, hp G, n⟩ μ := Cl.mk ⟨rs, resS_ok _ _ hr, hc⟩
end Go.Av

/- Symbolic runs: facts that are owed, for lists of flat elements. -/
namespace Go.Av

def FlatE (e : AV) : Prop := ∀ a ∈ e.cells, ∃ v, a = .sc v

theorem cv_list {H : Heap} {own : Bool} {es : List AV} (h : ∀ e ∈ es, FlatE e) : Cv false H (.list own es) (.list false es) := by
  refine .listD rfl rfl (fun i e e' he he' => by rw [he] at he'; cases he'; rfl) (fun i e e' k a b he he' ha hb => ?_)
  rw [he] at he'; cases he'
  rw [ha] at hb; cases hb
  obtain ⟨v, rfl⟩ := h e (List.mem_of_getElem? he) a (List.mem_of_getElem? ha)
  exact .sc

theorem cv_ref {m : Bool} {H : Heap} {o n : Nat} {x : Obj} {es : List AV} (hH : H o = some x) (he : x.es = es) (hn : n = es.length) (h : ∀ e ∈ es, FlatE e) : Cv m H (.ref o 0 n) (.list m es) := by
  subst he hn
  refine .ref hH (by omega) rfl (fun i e e' he he' => ?_) (fun i e e' k a b he he' ha hb => ?_)
  · rw [Nat.zero_add] at he; rw [he] at he'; cases he'; rfl
  · rw [Nat.zero_add] at he; rw [he] at he'; cases he'
    rw [ha] at hb; cases hb
    obtain ⟨v, rfl⟩ := h e (List.mem_of_getElem? he) a (List.mem_of_getElem? ha)
    exact .sc

theorem cv_own {H : Heap} {own : Bool} {es : List AV} : Cv true H (.list own es) (.list own es) := .listS rfl

theorem Cvs.nil {m : Bool} {H : Heap} : Cvs m H [] [] := ⟨rfl, fun i a b h => by simp at h⟩
theorem Cvs.cons {m : Bool} {H : Heap} {a b : AV} {as bs : List AV} (h : Cv m H a b) (hs : Cvs m H as bs) : Cvs m H (a :: as) (b :: bs) := by
  refine ⟨by simp [hs.len], fun i x y hx hy => ?_⟩
  cases i with
  | zero => simp at hx hy; subst hx hy; exact h
  | succ i => simp at hx hy; exact hs.rel i x y hx hy

/-- A call to which no objects are lent. -/
theorem PureCall.none {P : Program} {f : Nat} {H : Heap} {as bs : List AV} {r : AV} (hp : Pure P f bs r) (h : Cvs false (fun _ => none) as bs) : PureCall P f H as bs r :=
  ⟨hp, fun _ => .none, h, (fun _ _ h => by cases h), .inr fun _ => rfl⟩
/-- A call to which objects are lent. -/
theorem PureCall.lent {P : Program} {f : Nat} {H : Heap} {as bs : List AV} {r : AV} (hp : Pure P f bs r) (h : Cvs false H as bs) (hr : OwnO r) : PureCall P f H as bs r :=
  ⟨hp, H, h, fun _ _ h => h, .inl hr⟩

theorem ownO_list {es : List AV} (h : ∀ e ∈ es, FlatE e) : OwnO (.list true es) :=
  .list fun e he a ha => by obtain ⟨v, rfl⟩ := h e he a ha; exact .sc

theorem wrap_i64 {z : Int} (h1 : -9223372036854775808 ≤ z) (h2 : z ≤ 9223372036854775807) : IntKind.i64.wrap z = z := IntWalk.i64_in z ⟨h1, h2⟩
theorem wrap_u8 {z : Int} (h1 : 0 ≤ z) (h2 : z ≤ 255) : IntKind.u8.wrap z = z := IntWalk.u8_in z ⟨h1, h2⟩

theorem ix_map {α : Type} {enc : α → AV} {l : List α} {k : Nat} {x : α} (h : l[k]? = some x) : (l.map enc)[((k : Nat) : Int).toNat]? = some (enc x) := by
  rw [Int.toNat_natCast, List.getElem?_map, h]; rfl
theorem ok_flat {es : List AV} {M : Nat → Prop} (h : ∀ e ∈ es, FlatE e) : ∀ e ∈ es, ∀ a ∈ e.cells, a.Ok M := fun e he a ha => by
  obtain ⟨v, rfl⟩ := h e he a ha; exact .sc
theorem flat1 {v : Value} : ∀ e ∈ [AV.sc v], FlatE e := fun e he a ha => by
  rw [List.mem_singleton.1 he] at ha
  exact ⟨v, List.mem_singleton.1 ha⟩
/-- Elements in which no object is named. -/
def StillE (e : AV) : Prop := ∀ θ, e.ren θ = e
theorem ren_still {es : List AV} (h : ∀ e ∈ es, StillE e) (θ : Nat → Nat) : es = es.map (AV.ren θ) := by
  conv => lhs; rw [← List.map_id es]
  exact List.map_congr_left fun e he => (h e he θ).symm
theorem allNil {p : AV → Prop} : ∀ e ∈ ([] : List AV), p e := fun _ h => by cases h
theorem allCons {p : AV → Prop} {a : AV} {l : List AV} (h : p a) (hl : ∀ e ∈ l, p e) : ∀ e ∈ a :: l, p e := fun e he => by
  rcases List.mem_cons.1 he with h1 | h1
  · rw [h1]; exact h
  · exact hl e h1
theorem allApp {p : AV → Prop} {l m : List AV} (h : ∀ e ∈ l, p e) (hm : ∀ e ∈ m, p e) : ∀ e ∈ l ++ m, p e := fun e he => (List.mem_append.1 he).elim (h e) (hm e)
theorem flatSc {v : Value} : FlatE (.sc v) := fun a ha => ⟨v, List.mem_singleton.1 ha⟩
theorem stillSc {v : Value} : StillE (.sc v) := fun _ => rfl
theorem cv_tup {m : Bool} {H : Heap} {as bs : List AV} (h : Cvs m H as bs) : Cv m H (.tup as) (.tup bs) := .tup h.len h.rel
theorem cv_tup2 {m : Bool} {H : Heap} {a b a' b' : AV} (h : Cv m H a a') (k : Cv m H b b') : Cv m H (.tup [a, b]) (.tup [a', b']) := cv_tup (.cons h (.cons k .nil))
theorem cv_tup3 {m : Bool} {H : Heap} {a b c a' b' c' : AV} (h : Cv m H a a') (k : Cv m H b b') (l : Cv m H c c') : Cv m H (.tup [a, b, c]) (.tup [a', b', c']) := cv_tup (.cons h (.cons k (.cons l .nil)))
end Go.Av

/- What the printed functions and their certificates use: operations that may fail, and how a path goes on. -/
namespace Go.D
/-- A number that its kind holds. -/
def wfI (k : IntKind) (z : Int) : Prop := (Lit.int k z).wf = true

def getI {α : Type} (l : List α) (i : Int) : Option α := if 0 ≤ i then l[i.toNat]? else none
def setI {α : Type} (l : List α) (i : Int) (x : α) : Option (List α) := if 0 ≤ i ∧ i.toNat < l.length then some (l.set i.toNat x) else none
def sliceI {α : Type} (l : List α) (a b : Int) : Option (List α) := if 0 ≤ a ∧ a ≤ b ∧ b.toNat ≤ l.length then some ((l.drop a.toNat).take (b.toNat - a.toNat)) else none
def capOk (n b : Nat) : Option Unit := if n * b ≤ 140737488355328 then some () else none
def lenOk (n : Nat) : Option Unit := if n ≤ 140737488355328 then some () else none
def divOk (b : Int) : Option Unit := if b ≠ 0 then some () else none
def shOk (b : Int) : Option Unit := if 0 ≤ b then some () else none
def mkOk (n m : Int) (b : Nat) : Option Unit := if 0 < n ∧ n = m ∧ (b : Int) * m ≤ 140737488355328 then some () else none
/-- A list, one element put in, not at its end. -/
def insI {α : Type} (l : List α) (i : Int) (x : α) (b : Nat) : Option (List α) := if 0 ≤ i ∧ i.toNat < l.length ∧ (l.length + 1) * b ≤ 140737488355328 then some (l.take i.toNat ++ x :: l.drop i.toNat) else none
def bytesOf (l : List Nat) : ByteArray := ⟨(l.map UInt8.ofNat).toArray⟩
/-- A list, one element taken out. -/
def delI {α : Type} (l : List α) (i : Int) : Option (List α) := if 0 ≤ i ∧ i.toNat < l.length ∧ l.length ≤ 140737488355328 then some (l.take i.toNat ++ l.drop (i.toNat + 1)) else none
abbrev w64 (z : Int) : Int := IntKind.i64.wrap z
abbrev wU8 (z : Int) : Int := IntKind.u8.wrap z
/-- As many rounds as a loop without a list may take. -/
def FU : Nat := 100000

structure V2 (α : Type) where
  e0 : α
  e1 : α
  deriving DecidableEq, Inhabited
structure V3 (α : Type) where
  e0 : α
  e1 : α
  e2 : α
  deriving DecidableEq, Inhabited
structure V4 (α : Type) where
  e0 : α
  e1 : α
  e2 : α
  e3 : α
  deriving DecidableEq, Inhabited
structure V5 (α : Type) where
  e0 : α
  e1 : α
  e2 : α
  e3 : α
  e4 : α
  deriving DecidableEq, Inhabited
end Go.D

namespace Go.Av
open Go.D

abbrev aI (k : IntKind) (z : Int) : AV := .sc (.int k z)
abbrev aB (b : Bool) : AV := .sc (.bool b)
abbrev aS (s : ByteArray) : AV := .sc (.string s)

theorem brE {α : Type} {c : Bool} {a b : Option α} {r : α} {G : Prop} (h : (bif c then a else b) = some r) (h1 : c = true → a = some r → G) (h2 : c = false → b = some r → G) : G := by
  cases c with
  | true => exact h1 rfl h
  | false => exact h2 rfl h
theorem bindE {α β : Type} {x : Option α} {f : α → Option β} {r : β} {G : Prop} (h : x.bind f = some r) (k : ∀ v, x = some v → f v = some r → G) : G := by
  cases x with
  | none => cases h
  | some v => exact k v rfl h

theorem getI_pos {α : Type} {l : List α} {i : Int} {x : α} (h : getI l i = some x) : 0 ≤ i := by
  unfold getI at h; split at h
  · assumption
  · cases h
theorem getI_get {α : Type} {l : List α} {i : Int} {x : α} (h : getI l i = some x) : l[i.toNat]? = some x := by
  unfold getI at h; split at h
  · exact h
  · cases h
theorem getI_map {α : Type} {l : List α} {i : Int} {x : α} {f : α → AV} (h : getI l i = some x) : (l.map f)[i.toNat]? = some (f x) := by
  rw [List.getElem?_map, getI_get h]; rfl
theorem getI_map0 {α : Type} {l : List α} {i : Int} {x : α} {f : α → AV} (h : getI l i = some x) : (l.map f)[0 + i.toNat]? = some (f x) := by
  rw [Nat.zero_add]; exact getI_map h
theorem getI_lt {α : Type} {l : List α} {i : Int} {x : α} (h : getI l i = some x) : i < (l.length : Int) := by
  have h1 := getI_pos h
  have h2 := (List.getElem?_eq_some_iff.1 (getI_get h)).1
  omega
theorem getI_nat {α : Type} {l : List α} {i : Int} {x : α} (h : getI l i = some x) : i.toNat < l.length := (List.getElem?_eq_some_iff.1 (getI_get h)).1
theorem drop_cons {α : Type} {l xs : List α} {k : Nat} {x : α} (h : l.drop k = x :: xs) : k < l.length ∧ l[k]? = some x ∧ l.drop (k + 1) = xs := by
  have hk : k < l.length := by
    rcases Nat.lt_or_ge k l.length with h1 | h1
    · exact h1
    · rw [List.drop_of_length_le h1] at h; cases h
  rw [List.drop_eq_getElem_cons hk] at h
  injection h with h1 h2
  exact ⟨hk, by rw [List.getElem?_eq_getElem hk, h1], h2⟩
theorem drop_nil {α : Type} {l : List α} {k : Nat} (h : l.drop k = []) : l.length ≤ k := by
  simpa using h
theorem ixm {α : Type} {l : List α} {k : Nat} {x : α} {f : α → AV} (h : l[k]? = some x) : (l.map f)[((k : Nat) : Int).toNat]? = some (f x) := ix_map h
theorem ixm0 {α : Type} {l : List α} {k : Nat} {x : α} {f : α → AV} (h : l[k]? = some x) : (l.map f)[0 + ((k : Nat) : Int).toNat]? = some (f x) := by rw [Nat.zero_add]; exact ix_map h
theorem capOk_le {n b : Nat} {u : Unit} (h : capOk n b = some u) : n * b ≤ 140737488355328 := by
  unfold capOk at h; split at h
  · assumption
  · cases h
theorem lenOk_le {n : Nat} {u : Unit} (h : lenOk n = some u) : n ≤ 140737488355328 := by
  unfold lenOk at h; split at h
  · assumption
  · cases h
theorem divOk_ne {b : Int} {u : Unit} (h : divOk b = some u) : b ≠ 0 := by
  unfold divOk at h; split at h
  · assumption
  · cases h
theorem shOk_le {b : Int} {u : Unit} (h : shOk b = some u) : 0 ≤ b := by
  unfold shOk at h; split at h
  · assumption
  · cases h
theorem mkOk_le {n m : Int} {b : Nat} {u : Unit} (h : mkOk n m b = some u) : 0 < n ∧ n = m ∧ (b : Int) * m ≤ 140737488355328 := by
  unfold mkOk at h; split at h
  · assumption
  · cases h
theorem sliceI_ok {α : Type} {l m : List α} {a b : Int} (h : sliceI l a b = some m) : 0 ≤ a ∧ a ≤ b ∧ b.toNat ≤ l.length ∧ m = (l.drop a.toNat).take (b.toNat - a.toNat) := by
  unfold sliceI at h; split at h
  · rename_i hc; cases h; exact ⟨hc.1, hc.2.1, hc.2.2, rfl⟩
  · cases h
theorem str_ix {s : ByteArray} {tab : List Int} {i b : Int} (ht : tab = s.data.toList.map fun c => (c.toNat : Int)) (h : getI tab i = some b) : ∃ c, s[i.toNat]? = some c ∧ b = c.toNat := by
  have h1 := getI_get h
  rw [ht, List.getElem?_map] at h1
  cases hc : s.data.toList[i.toNat]? with
  | none => rw [hc] at h1; cases h1
  | some c =>
    rw [hc] at h1
    cases h1
    have h2 : i.toNat < s.size := by have := (List.getElem?_eq_some_iff.1 hc).1; simpa using this
    refine ⟨c, ?_, rfl⟩
    rw [getElem?_pos s i.toNat h2]
    have h3 := (List.getElem?_eq_some_iff.1 hc).2
    simp only [Array.getElem_toList] at h3
    exact congrArg some h3
theorem delI_ok {α : Type} {l m : List α} {i : Int} (h : delI l i = some m) : 0 ≤ i ∧ i.toNat < l.length ∧ l.length ≤ 140737488355328 ∧ m = l.take i.toNat ++ l.drop (i.toNat + 1) := by
  unfold delI at h; split at h
  · rename_i hc; cases h; exact ⟨hc.1, hc.2.1, hc.2.2, rfl⟩
  · cases h
theorem isEmpty_ne {α : Type} {l : List α} (h : List.isEmpty l = false) : l ≠ [] := by
  intro e; rw [e] at h; cases h
theorem insI_ok {α : Type} {l m : List α} {i : Int} {x : α} {b : Nat} (h : insI l i x b = some m) : 0 ≤ i ∧ i.toNat < l.length ∧ (l.length + 1) * b ≤ 140737488355328 ∧ m = l.take i.toNat ++ x :: l.drop i.toNat := by
  unfold insI at h; split at h
  · rename_i hc; cases h; exact ⟨hc.1, hc.2.1, hc.2.2, rfl⟩
  · cases h
theorem setI_ok {α : Type} {l m : List α} {a : Int} {x : α} (h : setI l a x = some m) : 0 ≤ a ∧ a.toNat < l.length ∧ m = l.set a.toNat x := by
  unfold setI at h; split at h
  · rename_i hc; cases h; exact ⟨hc.1, hc.2, rfl⟩
  · cases h

theorem sliceI_len {α : Type} {l m : List α} {a b : Int} (h : sliceI l a b = some m) : b.toNat - a.toNat = m.length := by
  obtain ⟨h1, h2, h3, rfl⟩ := sliceI_ok h
  simp; omega
theorem sliceI_nil {α : Type} {m : List α} {a b : Int} (h : sliceI ([] : List α) a b = some m) : m = [] := by
  obtain ⟨h1, h2, h3, rfl⟩ := sliceI_ok h
  simp
theorem part_zero {α : Type} {m : List α} (h : List.isEmpty m = true) : m.length = 0 := by
  rw [List.isEmpty_iff.1 h]; rfl
theorem part_pos {α : Type} {m : List α} (h : List.isEmpty m = false) : 0 < m.length := by
  cases m with
  | nil => cases h
  | cons a m => simp
theorem part_ix {α : Type} {l m : List α} {off n : Nat} {i : Int} {x : α} {f : α → AV} (q : m = (l.drop off).take n) (h : getI m i = some x) : (l.map f)[off + i.toNat]? = some (f x) := by
  have h1 := getI_get h
  rw [q, List.getElem?_take] at h1
  split at h1
  · rw [List.getElem?_drop] at h1
    rw [List.getElem?_map, h1]; rfl
  · cases h1
theorem part_part {α : Type} {l m k : List α} {off n a c : Nat} (q2 : k = (m.drop a).take c) (q : m = (l.drop off).take n) : k = (l.drop (off + a)).take (min c (n - a)) := by
  rw [q2, q, List.drop_take, List.drop_drop, List.take_take]
theorem part_trunc {α : Type} {l m : List α} {n : Nat} {f : α → AV} (q : m = (l.drop 0).take n) : ∃ k, m.map f = (l.map f).take k := ⟨n, by rw [q]; simp [List.map_take]⟩

/-- A slice that is nil as long as it holds nothing, else an object. -/
def slB (id : Nat) (es : List AV) : AV :=
  match es with
  | [] => .nils
  | e :: r => .ref id 0 (e :: r).length
def opG (id esz : Nat) (es : List AV) : List (Nat × Obj) :=
  match es with
  | [] => []
  | e :: r => [(id, { es := e :: r, esz := esz })]

theorem cell_len {α : Type} {f : α → AV} {n : Nat} (h : ∀ x, (f x).cells.length = n) (l : List α) : ∀ e ∈ l.map f, e.cells.length = n := by
  intro e he
  obtain ⟨x, _, rfl⟩ := List.mem_map.1 he
  exact h x
theorem flat_map {α : Type} {f : α → AV} (h : ∀ x, FlatE (f x)) (l : List α) : ∀ e ∈ l.map f, FlatE e := by
  intro e he
  obtain ⟨x, _, rfl⟩ := List.mem_map.1 he
  exact h x
theorem still_map {α : Type} {f : α → AV} (h : ∀ x, StillE (f x)) (l : List α) : ∀ e ∈ l.map f, StillE e := by
  intro e he
  obtain ⟨x, _, rfl⟩ := List.mem_map.1 he
  exact h x
/-- A value none of whose cells names an object. -/
def FreeE (e : AV) : Prop := ∀ M : Nat → Prop, e.Ok M ∧ ∀ a ∈ e.cells, a.Ok M
theorem free_map {α : Type} {f : α → AV} (h : ∀ x, FreeE (f x)) (l : List α) (M : Nat → Prop) : ∀ e ∈ l.map f, ∀ a ∈ e.cells, a.Ok M := by
  intro e he
  obtain ⟨x, _, rfl⟩ := List.mem_map.1 he
  exact (h x M).2
theorem flat_free {e : AV} (h : FlatE e) (hw : e.whole = true) : FreeE e := fun M => by
  have h2 : ∀ a ∈ e.cells, a.Ok M := fun a ha => by obtain ⟨v, rfl⟩ := h a ha; exact .sc
  refine ⟨?_, h2⟩
  cases e with
  | agg cs => exact .agg h2
  | _ => first | exact h2 _ (List.mem_singleton.2 rfl)

/-- Of lists: the same cells, whoever owns them. -/
theorem cv_lmap {α : Type} {f g : α → AV} {H : Heap} {own : Bool} (hc : ∀ x, (f x).cells.length = (g x).cells.length) (h : ∀ x (k : Nat) a b, (f x).cells[k]? = some a → (g x).cells[k]? = some b → Cv false H a b) (l : List α) :
    Cv false H (.list own (l.map f)) (.list false (l.map g)) := by
  refine .listD rfl (by simp) (fun i e e' he he' => ?_) (fun i e e' k a b he he' ha hb => ?_)
  · simp only [List.getElem?_map, Option.map_eq_some_iff] at he he'
    obtain ⟨x, hx, rfl⟩ := he
    obtain ⟨y, hy, rfl⟩ := he'
    rw [hx] at hy; cases hy
    exact hc x
  · simp only [List.getElem?_map, Option.map_eq_some_iff] at he he'
    obtain ⟨x, hx, rfl⟩ := he
    obtain ⟨y, hy, rfl⟩ := he'
    rw [hx] at hy; cases hy
    exact h x k a b ha hb

/-- Whether a slice that holds nothing is nil. -/
theorem ref1 {i n m : Nat} (h : n = m) : [AV.ref i 0 n] = [AV.ref i 0 m] := h ▸ rfl
def Nb {α : Type} (l : List α) : Type := { b : Bool // b = true → l = [] }
def nbF {α : Type} {l : List α} : Nb l := ⟨false, fun h => by cases h⟩
def nbT {α : Type} {l : List α} (h : l = []) : Nb l := ⟨true, fun _ => h⟩
def slE (nb : Bool) (id : Nat) (es : List AV) : AV := bif nb then .nils else .ref id 0 es.length
def opE (nb : Bool) (id esz : Nat) (es : List AV) : List (Nat × Obj) := bif nb then [] else [(id, { es := es, esz := esz })]
theorem SemK.joinF {P : Program} {nt n0 : Nat} {Q : AExit → St → Mu → Prop} {cf : Cf} {K : List Kn} {μ : Mu} {s : St} {ι : Type} (s' : ι → St) (h1 : ∀ i, SemK P nt n0 Q (.exit .normal) K (s' i) μ)
    (h2 : (∀ i, SemK P nt n0 Q (.exit .normal) K (s' i) μ) → SemK P nt n0 Q cf K s μ) : SemK P nt n0 Q cf K s μ := h2 h1
theorem SemK.joinOpF {P : Program} {nt n0 : Nat} {Q : AExit → St → Mu → Prop} {ops : Array Oper} {o : Oper} {l : List Oper} {K : List Kn} {μ : Mu} {s : St} {ι : Type} (s' : ι → St) (h1 : ∀ i, SemK P nt n0 Q (.ops ops l) K (s' i) μ)
    (h2 : (∀ i, SemK P nt n0 Q (.ops ops l) K (s' i) μ) → SemK P nt n0 Q (.ops ops (o :: l)) K s μ) : SemK P nt n0 Q (.ops ops (o :: l)) K s μ := h2 h1
/-- Two ways that meet: what is behind is shown once. -/
theorem SemK.join {P : Program} {nt n0 : Nat} {Q : AExit → St → Mu → Prop} {cf : Cf} {K : List Kn} {μ : Mu} {s s' : St} (h1 : SemK P nt n0 Q (.exit .normal) K s' μ)
    (h2 : SemK P nt n0 Q (.exit .normal) K s' μ → SemK P nt n0 Q cf K s μ) : SemK P nt n0 Q cf K s μ := h2 h1

theorem SemK.joinOp {P : Program} {nt n0 : Nat} {Q : AExit → St → Mu → Prop} {ops : Array Oper} {o : Oper} {l : List Oper} {K : List Kn} {μ : Mu} {s s' : St} (h1 : SemK P nt n0 Q (.ops ops l) K s' μ)
    (h2 : SemK P nt n0 Q (.ops ops l) K s' μ → SemK P nt n0 Q (.ops ops (o :: l)) K s μ) : SemK P nt n0 Q (.ops ops (o :: l)) K s μ := h2 h1
theorem flatC {v : Value} {P : List AV} (h : ∀ a ∈ P, ∃ v, a = .sc v) : ∀ a ∈ (.sc v :: P), ∃ v, a = .sc v := fun a ha => by
  rcases List.mem_cons.1 ha with rfl | ha
  · exact ⟨_, rfl⟩
  · exact h a ha
theorem flatN : ∀ a ∈ ([] : List AV), ∃ v, a = .sc v := fun _ h => by cases h
theorem freeSc {v : Value} : FreeE (.sc v) := fun _ => ⟨.sc, fun a ha => by rw [List.mem_singleton.1 ha]; exact .sc⟩
theorem free_agg {cs : List AV} (h : ∀ M : Nat → Prop, ∀ a ∈ cs, a.Ok M) : FreeE (.agg cs) := fun M => ⟨.agg (h M), h M⟩
theorem free_one {e : AV} (h : FreeE e) (M : Nat → Prop) : ∀ e' ∈ [e], ∀ a ∈ e'.cells, a.Ok M := fun e' he => by rw [List.mem_singleton.1 he]; exact (h M).2
def encl {α : Type} (o : Bool) (f : α → AV) (l : List α) : AV := .list o (l.map f)
theorem still_encl {α : Type} {o : Bool} {f : α → AV} {l : List α} : StillE (encl o f l) := fun _ => rfl
theorem free_encl {α : Type} {o : Bool} {f : α → AV} {l : List α} : FreeE (encl o f l) := fun _ => ⟨.list, fun a ha => by rw [List.mem_singleton.1 ha]; exact .list⟩
theorem cv_flat {m : Bool} {H : Heap} {e : AV} (h : FlatE e) (hw : e.whole = true := by rfl) : Cv m H e e := by
  cases e with
  | agg cs =>
    refine .agg rfl fun i a b ha hb => ?_
    rw [ha] at hb; cases hb
    obtain ⟨v, rfl⟩ := h a (List.mem_of_getElem? ha)
    exact .sc
  | sc v => exact .sc
  | _ => obtain ⟨v, hv⟩ := h _ (List.mem_singleton.2 rfl); cases hv
theorem own_flat {e : AV} (h : FlatE e) (hw : e.whole = true := by rfl) : OwnO e := by
  cases e with
  | agg cs =>
    refine .agg fun a ha => ?_
    obtain ⟨v, rfl⟩ := h a ha
    exact .sc
  | sc v => exact .sc
  | _ => obtain ⟨v, hv⟩ := h _ (List.mem_singleton.2 rfl); cases hv
theorem ownTup {l : List AV} (h : ∀ a ∈ l, OwnO a) : OwnO (.tup l) := .tup h
theorem cv_agg {m : Bool} {H : Heap} {as bs : List AV} (h : Cvs m H as bs) : Cv m H (.agg as) (.agg bs) := .agg h.len h.rel
theorem cv_nils {m : Bool} {H : Heap} {es : List AV} (h : es = []) : Cv m H .nils (.list m es) := by rw [h]; exact .nils
theorem cv_list_cells {m : Bool} {H : Heap} {e b : AV} (h : Cv m H e b) : ∀ own es, b = .list own es → e.cells = [e] := by
  induction h with
  | weak h ih => intro _ _ _; exact ih _ _ rfl
  | agg => intro _ _ h; cases h
  | _ => intro _ _ _; rfl
theorem cv_cells {H : Heap} {e e' : AV} (h : Cv false H e e') : ∀ (k : Nat) a b, e.cells[k]? = some a → e'.cells[k]? = some b → Cv false H a b := by
  intro k a b ha hb
  cases h with
  | agg hl h => exact h k a b ha hb
  | weak h =>
    rw [cv_list_cells h _ _ rfl] at ha
    cases k with
    | succ k => simp at ha
    | zero => simp [AV.cells] at ha hb; subst ha hb; exact .weak h
  | _ =>
    cases k with
    | succ k => simp [AV.cells] at ha
    | zero =>
      simp [AV.cells] at ha hb
      subst ha hb
      first
        | exact .sc
        | exact .nils
        | exact .nils0
        | exact .fn0
        | (apply Cv.tup <;> assumption)
        | (apply Cv.listS; assumption)
        | (apply Cv.listD <;> assumption)
        | (apply Cv.ref <;> assumption)
theorem slB_ne {i : Nat} {es : List AV} (h : es ≠ []) : slB i es = .ref i 0 es.length := by
  cases es with
  | nil => exact absurd rfl h
  | cons a r => rfl
theorem opG_ne {i z : Nat} {es : List AV} (h : es ≠ []) : opG i z es = [(i, { es := es, esz := z })] := by
  cases es with
  | nil => exact absurd rfl h
  | cons a r => rfl
theorem absT {b : Bool} {P : Prop} (h : b = false) : b = true → P := fun a => Bool.noConfusion (a.symm.trans h)
theorem absN {b : Bool} {P : Prop} (h : b = true) : (!b) = true → P := fun a => by rw [h] at a; cases a
theorem andL {a b : Bool} : (a && b) = true → a = true := fun h => (Bool.and_eq_true_iff.1 h).1
theorem andR {a b : Bool} : (a && b) = true → b = true := fun h => (Bool.and_eq_true_iff.1 h).2
theorem free_cons {α : Type} {f : α → AV} (h : ∀ x, FreeE (f x)) (a : α) (l : List α) (M : Nat → Prop) : ∀ e ∈ (f a :: l.map f), ∀ c ∈ e.cells, c.Ok M := free_map h (a :: l) M
theorem still_cons {α : Type} {f : α → AV} (h : ∀ x, StillE (f x)) (a : α) (l : List α) : ∀ e ∈ (f a :: l.map f), StillE e := still_map h (a :: l)
theorem cv_leq {H : Heap} {own : Bool} {es es' : List AV} (he : es = es') (h : ∀ e ∈ es', FlatE e) : Cv false H (.list own es) (.list false es') := by rw [he]; exact cv_list h
theorem capLe {m n b c : Nat} {u : Unit} (h : capOk n c = some u) (hb : b = c) (hm : m = n) : m * b ≤ 140737488355328 := by subst hb hm; exact capOk_le h
theorem capMax {m n c : Nat} {u : Unit} (h : capOk n c = some u) (hc : 0 < c) (hm : m = n) : m ≤ maxLen := by
  subst hm
  have := capOk_le h
  have h2 : m * 1 ≤ m * c := Nat.mul_le_mul_left _ hc
  unfold maxLen; omega
theorem bif_t {c x y b : Bool} (h : c = true) (hx : x = b) : (bif c then x else y) = b := by rw [h]; exact hx
theorem bif_f {c x y b : Bool} (h : c = false) (hy : y = b) : (bif c then x else y) = b := by rw [h]; exact hy
theorem not_t {c : Bool} (h : c = true) : (!c) = false := by rw [h]; rfl
theorem not_f {c : Bool} (h : c = false) : (!c) = true := by rw [h]; rfl
theorem cv_leqS {H : Heap} {own : Bool} {es es' : List AV} (he : es = es') : Cv true H (.list own es) (.list own es') := by rw [he]; exact .listS rfl
theorem bnot_of {c b : Bool} (h : c = b) : (!c) = !b := by rw [h]
theorem getI_mapc {α : Type} {a : α} {l : List α} {i : Int} {x : α} {f : α → AV} (h : getI (a :: l) i = some x) : (f a :: l.map f)[i.toNat]? = some (f x) := getI_map (l := a :: l) h
theorem getI_mapc0 {α : Type} {a : α} {l : List α} {i : Int} {x : α} {f : α → AV} (h : getI (a :: l) i = some x) : (f a :: l.map f)[0 + i.toNat]? = some (f x) := getI_map0 (l := a :: l) h
theorem ixmc {α : Type} {a : α} {l : List α} {k : Nat} {x : α} {f : α → AV} (h : (a :: l)[k]? = some x) : (f a :: l.map f)[((k : Nat) : Int).toNat]? = some (f x) := ixm (l := a :: l) h
theorem ixmc0 {α : Type} {a : α} {l : List α} {k : Nat} {x : α} {f : α → AV} (h : (a :: l)[k]? = some x) : (f a :: l.map f)[0 + ((k : Nat) : Int).toNat]? = some (f x) := ixm0 (l := a :: l) h
theorem slB_nil {i : Nat} {es : List AV} (h : es = []) : slB i es = .nils := by rw [h]; rfl
theorem opG_nil {i z : Nat} {es : List AV} (h : es = []) : opG i z es = [] := by rw [h]; rfl
theorem cv_scE {m : Bool} {H : Heap} {u v : Value} (h : u = v) : Cv m H (.sc u) (.sc v) := by rw [h]; exact .sc
theorem still_one {e : AV} (h : StillE e) : ∀ e' ∈ [e], StillE e' := fun e' he => by rw [List.mem_singleton.1 he]; exact h
theorem okFn0 {f : Nat} {M : Nat → Prop} : (AV.fn f []).Ok M := .fn fun _ h => by cases h
theorem cell_len_td {α : Type} {f : α → AV} {n : Nat} (h : ∀ x, (f x).cells.length = n) (l : List α) (a b : Nat) : ∀ e ∈ ((l.map f).drop a).take b, e.cells.length = n := fun e he => cell_len h l e (List.mem_of_mem_drop (List.mem_of_mem_take he))
theorem take_full {es : List AV} {n : Nat} (h : n = es.length) : (es.drop 0).take n = es := by rw [List.drop_zero, h, List.take_length]
theorem cell_len_c {α : Type} {f : α → AV} {n : Nat} (h : ∀ x, (f x).cells.length = n) (a : α) (l : List α) : ∀ e ∈ (f a :: l.map f), e.cells.length = n := cell_len h (a :: l)
theorem shape_list {α : Type} {f : α → AV} {w : α → Prop} {es : List AV} (h : ∀ x ∈ es, ∃ e, x = f e ∧ w e) : ∃ l : List α, es = l.map f ∧ ∀ y ∈ l, w y := by
  induction es with
  | nil => exact ⟨[], rfl, fun _ h => by cases h⟩
  | cons a r ih =>
    obtain ⟨e, he, hw⟩ := h a (List.mem_cons_self ..)
    obtain ⟨l, hl, hws⟩ := ih fun x hx => h x (List.mem_cons_of_mem _ hx)
    refine ⟨e :: l, by rw [he, hl]; rfl, fun y hy => ?_⟩
    rcases List.mem_cons.1 hy with rfl | hy
    · exact hw
    · exact hws y hy
theorem cv_refp {m : Bool} {H : Heap} {o off n : Nat} {x : Obj} {es : List AV} (hH : H o = some x) (hle : off + n ≤ x.es.length) (he : (x.es.drop off).take n = es) (hn : n = es.length) (h : ∀ e ∈ es, FlatE e) : Cv m H (.ref o off n) (.list m es) := by
  have hg : ∀ (i : Nat) e e', x.es[off + i]? = some e → es[i]? = some e' → e = e' := by
    intro i e e' h1 h2
    rw [← he, List.getElem?_take] at h2
    split at h2
    · rw [List.getElem?_drop, h1] at h2; cases h2; rfl
    · cases h2
  refine .ref hH hle hn.symm (fun i e e' h1 h2 => by rw [hg i e e' h1 h2]) (fun i e e' k a b h1 h2 ha hb => ?_)
  have := hg i e e' h1 h2
  subst this
  rw [ha] at hb; cases hb
  obtain ⟨v, rfl⟩ := h e (List.mem_of_getElem? h2) a (List.mem_of_getElem? ha)
  exact .sc
theorem ex_head {p : AV → Prop} {a : AV} {l : List AV} (h : p a) : ∃ e ∈ (a :: l), p e := ⟨a, List.mem_cons_self .., h⟩
/-- What a run owes: one fact. -/
theorem oblA {P : Prop} (h : P := by
  first
    | exact trivial
    | exact fun h => h
    | rfl
    | assumption
    | (apply getI_pos; assumption; done)
    | (apply getI_map; assumption; done)
    | (apply getI_map0; assumption; done)
    | (apply ixm; assumption; done)
    | (apply ixm0; assumption; done)
    | (apply getI_mapc; assumption; done)
    | (apply getI_mapc0; assumption; done)
    | (apply ixmc; assumption; done)
    | (apply ixmc0; assumption; done)
    | (apply divOk_ne; assumption; done)
    | (apply shOk_le; assumption; done)
    | (intro a; rw [a]; done)
    | (intro a; rw [a]; rfl)
    | exact wrap_i64 (by omega) (by omega)
    | (refine cell_len ?_ _; intro x; rfl)
    | exact ex_head rfl
    | (refine cell_len_td ?_ _ _ _; intro x; rfl)
    | (refine cell_len_c ?_ _ _; intro x; rfl)
    | (refine take_full ?_; first | rfl | (simp; done) | (simp; omega) | (simp [*]; done))
    | exact Nat.le_of_ble_eq_true rfl
    | (exact decide_eq_true (by omega))
    | (exact decide_eq_false (by omega))
    | (simp only [maxLen, List.length_append, List.length_map, List.length_cons, List.length_nil, List.length_replicate, Int.toNat_natCast]; done)
    | (simp only [maxLen, List.length_append, List.length_map, List.length_cons, List.length_nil, List.length_replicate, Int.toNat_natCast] at *; omega)
    | (simp only [List.length_map]; first | done | assumption | rfl)
    | (simp only [List.length_map]; first | (apply getI_pos; assumption; done) | (apply getI_map; assumption; done) | (apply getI_map0; assumption; done) | (apply getI_mapc; assumption; done) | (apply getI_mapc0; assumption; done))
    | (refine congrArg (fun z => AV.sc (Value.int IntKind.i64 z)) ?_; simp only [List.length_map, List.length_cons, List.length_append]; done)
    | (refine congrArg (fun z => AV.sc (Value.int IntKind.i64 z)) ?_; first | (simp; done) | (simp; omega) | (simp [*]; done))
    | (intro e he; rw [List.mem_singleton.1 he]; rfl)
    | exact andL
    | exact andR
    | (refine not_t ?_; assumption)
    | (refine not_f ?_; assumption)
    | (refine absT ?_; assumption)
    | (refine absN ?_; assumption)
    | omega
    | (simp; done)
    | (simp [*]; done)
    | (intros; simp_all; done)) : P := h
end Go.Av

/- A slice is compared with nil: an empty one may be nil or not. -/
namespace Go.Av

theorem equalIn_nil {P : Program} {t et : Nat} {p : Option Addr} {n m : Nat} (hu : P.underlying t = some (.slice et)) (w : World) (d : Nat) :
    (Op.equalIn (d + 1) t (.slice p n m) (.slice none 0 0)).run P w = .ok p.isNone w := by
  unfold Op.equalIn
  rw [Sem.run_bind, run_underlying hu w]
  cases p <;> rfl
theorem sliceNil_run {P : Program} {t : Nat} {et : Nat} {x : Operand} {p : Option Addr} {n m : Nat} (hu : P.underlying t = some (.slice et)) (w : World) (y : Operand) :
    ((do eqGuard .eql t x y (.slice p n m) (.slice none 0 0); binOp .eql t (.slice p n m) (.slice none 0 0) : Sem Value)).run P w = .ok (.bool p.isNone) w := by
  have h1 : (eqGuard .eql t x y (.slice p n m) (.slice none 0 0)).run P w = .ok () w := rfl
  have h2 : (binOp .eql t (.slice p n m) (.slice none 0 0)) = (do pure (.bool (← Op.equalIn (9999 + 1) t (.slice p n m) (.slice none 0 0))) : Sem Value) := rfl
  rw [Sem.run_bind, h1, Result.andThen_ok, h2, Sem.run_bind, equalIn_nil hu w 9999]
  rfl

/-- Slices, and which of them may be nil. -/
def nilMay : AV → Option Bool
  | .list _ es => some es.isEmpty
  | .nils => some true
  | .ref _ _ _ => some false
  | _ => none

theorem nilMay_ok {c : Ctx} {a : AV} {v : Value} {b : Bool} (h : VRel c false a v) (hn : nilMay a = some b) : ∃ p n m, v = .slice p n m ∧ (b = false → p.isNone = false) := by
  cases h with
  | listNil => simp [nilMay] at hn; subst hn; exact ⟨_, _, _, rfl, fun h => by cases h⟩
  | list vf hne =>
    rename_i es b off cap esz n hS hn' hcap hsz hcell h1 h
    exact ⟨_, _, _, rfl, fun _ => rfl⟩
  | nils => simp [nilMay] at hn; subst hn; exact ⟨_, _, _, rfl, fun h => by cases h⟩
  | ref => exact ⟨_, _, _, rfl, fun _ => rfl⟩
  | _ => cases hn

theorem SemK.eqNil {P : Program} {T : Ty} {nt n0 : Nat} {Q : AExit → St → Mu → Prop} {ops : Array Oper} {l : List Oper} {o : Oper} {K : List Kn} {L : List (Nat × AV)} {G : List (Nat × Obj)} {n : Nat} {μ : Mu} {t yt : Nat} {x : Operand} {ti : TI} {et : Nat}
    {a : AV} {q : List Prop} {may : Bool} (hT : TyOk P T) (ho : o.op = .binOp .eql t x (.const (.slice none 0 0)) yt) (hg : o.guard = none) (hd : dstOk nt o.dst = true) (ht : T t = some ti) (hk : ti.kind = .slice et) (hx : rd L x = (a, q)) (hq : allP q)
    (hm : nilMay a = some may) (h : ∀ b : Bool, (may = false → b = false) → SemK P nt n0 Q (.ops ops l) K ⟨fr (putO o.dst (.sc (.bool b)) L), hp G, n⟩ μ) : SemK P nt n0 Q (.ops ops (o :: l)) K ⟨fr L, hp G, n⟩ μ := by
  refine SemLM.plain (s := ⟨fr L, hp G, n⟩) hg (dstOk_lt hd) (R := fun a' H' n' => (∃ b : Bool, (may = false → b = false) ∧ a' = .sc (.bool b)) ∧ H' = hp G ∧ n' = n) ?_ ?_
  · intro c0 H0 n0' c act g K' Q' hK
    have hv := g.ev x
    rw [show evA (St.A ⟨fr L, hp G, n⟩) x = a from rd_ok hx hq] at hv
    obtain ⟨p, m1, m2, hv', hp'⟩ := nilMay_ok hv hm
    unfold Oper.wp
    have hr : (execOp act.eval o).run P c.w = .ok (.value (.bool p.isNone)) c.w := by
      obtain ⟨dst, op, type, pos, after, guard⟩ := o
      simp only at ho
      subst ho
      have := sliceNil_run (P := P) (t := t) (x := x) (p := p) (n := m1) (m := m2) (under_slice (hT t ti ht) hk) c.w (.const (.slice none 0 0))
      have hc : act.eval (.const (.slice none 0 0)) = .slice none 0 0 := rfl
      simp only [execOp, hv', hc]
      rw [Sem.run_bind, this]; rfl
    rw [hr]
    exact hK c (.sc (.bool p.isNone)) (hp G) n (.bool p.isNone) ⟨⟨_, hp', rfl⟩, rfl, rfl⟩ fun dst hd => g.next hd (.refl c) rfl (fun b hb => .inl hb) (.refl c (hp G)) (fun q x hx => .inr ⟨q, x, hx, rfl⟩) g.inv g.solo (Nat.le_refl _) .sc .sc
  · rintro a' H' n' ⟨⟨b, hb, rfl⟩, rfl, rfl⟩
    have := h b hb
    rw [putO_fr] at this
    exact this

/-- A guarded call is run into. -/
theorem SemK.inlineG {P : Program} {T : Ty} {nt n0 nt' f j t : Nat} {want g : Bool} {Q : AExit → St → Mu → Prop} {ops : Array Oper} {l : List Oper} {o : Oper} {K : List Kn} {L : List (Nat × AV)} {G : List (Nat × Obj)} {n : Nat} {μ : Mu} {x : Operand} {args : Array Operand} {ts : Array Nat}
    {caps as : List AV} {fn : Func} {code : Code} (hT : TyOk P T) (hfn : FnOk P f fn code) (ho : o.op = .call { callee := .value x, args := args, argTypes := ts }) (hg : o.guard = some (j, want)) (hj : (ops[j]?).bind (·.dst) = some t) (ht : Nat.blt t nt = true) (hgd : gdS want (fr L t) = some g)
    (hd : dstOk nt o.dst = true) {qx qa : List Prop} (hx : rd L x = (.fn f caps, qx)) (ha : rds L args.toList = (as, qa)) (hnt : fn.ntmps = nt') (hle : Nat.ble (as ++ caps).length nt' = true) (hgt : g = true) (hpx : allP qx) (hpa : allP qa)
    (h : SemK P nt' n (retM T fn fun r H' n' => SemK P nt n0 Q (.ops ops l) K ⟨updO (fr L) o.dst r, H', n'⟩ μ) (.code code) [] ⟨fr (Av.argL 0 (as ++ caps)), hp G, n⟩ []) : SemK P nt n0 Q (.ops ops (o :: l)) K ⟨fr L, hp G, n⟩ μ := by
  subst hgt
  refine SemLM.step (s := ⟨fr L, hp G, n⟩) (fun c0 c H0 act gd => wanted_gd (s := ⟨fr L, hp G, n⟩) hg hj ht hgd gd) (dstOk_lt hd) (OpR.call (s := ⟨fr L, hp G, n⟩) ho (rd_ok hx hpx) ?_) (fun a H' n' hr => hr)
  rw [rds_ok ha hpa]
  exact HC.of_body hT hfn hnt (by simpa using hle) (SemC.argL (SemM.semC (SemM.ofCl h)))

theorem cv_cellsT {H : Heap} {e e' : AV} (h : Cv true H e e') : ∀ (k : Nat) a b, e.cells[k]? = some a → e'.cells[k]? = some b → Cv true H a b := by
  intro k a b ha hb
  cases h with
  | agg hl h => exact h k a b ha hb
  | weak h =>
    rw [cv_list_cells h _ _ rfl] at ha
    cases k with
    | succ k => simp at ha
    | zero => simp [AV.cells] at ha hb; subst ha hb; exact .weak h
  | _ =>
    cases k with
    | succ k => simp [AV.cells] at ha
    | zero =>
      simp [AV.cells] at ha hb
      subst ha hb
      first
        | exact .sc
        | exact .nils
        | exact .nils0
        | exact .fn0
        | (apply Cv.tup <;> assumption)
        | (apply Cv.listS; assumption)
        | (apply Cv.ref <;> assumption)
        | (rename_i hm _ _ _; cases hm)
/-- A local list of values that hold lists. -/
theorem cv_refl {m : Bool} {α : Type} {f g : α → AV} {H : Heap} {o n : Nat} {x : Obj} {l : List α} (hH : H o = some x) (he : x.es = l.map f) (hn : n = l.length) (hc : ∀ x, (f x).cells.length = (g x).cells.length)
    (h : ∀ x (k : Nat) a b, (f x).cells[k]? = some a → (g x).cells[k]? = some b → Cv m H a b) : Cv m H (.ref o 0 n) (.list m (l.map g)) := by
  have hg : ∀ (i : Nat) e e', x.es[0 + i]? = some e → (l.map g)[i]? = some e' → ∃ y, e = f y ∧ e' = g y := by
    intro i e e' h1 h2
    rw [Nat.zero_add, he] at h1
    simp only [List.getElem?_map, Option.map_eq_some_iff] at h1 h2
    obtain ⟨y, hy, rfl⟩ := h1
    obtain ⟨z, hz, rfl⟩ := h2
    rw [hy] at hz; cases hz
    exact ⟨y, rfl, rfl⟩
  refine .ref hH (by rw [he, hn]; simp) (by rw [hn]; simp) (fun i e e' h1 h2 => ?_) (fun i e e' k a b h1 h2 ha hb => ?_)
  · obtain ⟨y, rfl, rfl⟩ := hg i e e' h1 h2; exact hc y
  · obtain ⟨y, rfl, rfl⟩ := hg i e e' h1 h2; exact h y k a b ha hb
end Go.Av

/- Maps of a function's own: made, written, read, counted. -/
namespace Go.Av
open MapKept

/-- The first entry of a key is written, or a new one stands at the end. -/
noncomputable def setV (k v : Value) : List (Value × Value) → List (Value × Value)
  | [] => [(k, v)]
  | (a, b) :: r => open Classical in if a = k then (k, v) :: r else (a, b) :: setV k v r

noncomputable def getV (k : Value) : List (Value × Value) → Option Value
  | [] => none
  | (a, b) :: r => open Classical in if a = k then some b else getV k r

theorem setV_at {k v : Value} : ∀ (l : List (Value × Value)) (j : Nat) (p : Value × Value), l[j]? = some p → p.1 = k → (∀ i q, i < j → l[i]? = some q → q.1 ≠ k) → setV k v l = l.set j (k, v) ∧ getV k l = some p.2 := by
  intro l
  induction l with
  | nil => intro j p h; simp at h
  | cons a r ih =>
    obtain ⟨a1, a2⟩ := a
    intro j p h hk hn
    cases j with
    | zero => simp at h; subst h; simp only at hk; simp [setV, getV, hk]
    | succ j =>
      have h0 : a1 ≠ k := hn 0 (a1, a2) (Nat.succ_pos j) rfl
      obtain ⟨h1, h2⟩ := ih j p (by simpa using h) hk (fun i q hi hq => hn (i + 1) q (Nat.succ_lt_succ hi) (by simpa using hq))
      simp [setV, getV, h0, h1, h2]
theorem setV_new {k v : Value} : ∀ (l : List (Value × Value)), (∀ q ∈ l, q.1 ≠ k) → setV k v l = l ++ [(k, v)] ∧ getV k l = none := by
  intro l
  induction l with
  | nil => intro _; exact ⟨rfl, rfl⟩
  | cons a r ih =>
    obtain ⟨a1, a2⟩ := a
    intro hn
    have h0 : a1 ≠ k := hn (a1, a2) (by simp)
    obtain ⟨h1, h2⟩ := ih (fun q hq => hn q (List.mem_cons_of_mem _ hq))
    simp [setV, getV, h0, h1, h2]

/-- A finer look at a search: it finds the first entry. -/
theorem findNow_first {d : TypeDesc} {k : Value} (hk : IsKey d k) : ∀ (l : List MapEntry) (i : Nat), (∀ x ∈ l, IsKey d x.key) →
    (Instr.findNow d k l i = some none ∧ ∀ x ∈ l, x.key ≠ k) ∨ ∃ j e, Instr.findNow d k l i = some (some (i + j, e.val)) ∧ l[j]? = some e ∧ e.key = k ∧ ∀ m x, m < j → l[m]? = some x → x.key ≠ k := by
  intro l
  induction l with
  | nil => intro i _; exact .inl ⟨rfl, by simp⟩
  | cons e es ih =>
    intro i h
    obtain ⟨r, hr, hiff⟩ := sameNow_of_keys hk (h e (by simp))
    cases r with
    | true => exact .inr ⟨0, e, by simp [Instr.findNow, hr], rfl, (hiff.1 rfl).symm, fun m x hm => absurd hm (Nat.not_lt_zero m)⟩
    | false =>
      have hne : e.key ≠ k := fun q => by have := hiff.2 q.symm; cases this
      rcases ih (i + 1) (fun x hx => h x (List.mem_cons_of_mem _ hx)) with ⟨h1, h2⟩ | ⟨j, e', h1, h2, h3, h4⟩
      · exact .inl ⟨by simp [Instr.findNow, hr, h1], fun x hx => by
          rcases List.mem_cons.1 hx with rfl | hx
          · exact hne
          · exact h2 x hx⟩
      · refine .inr ⟨j + 1, e', by simp [Instr.findNow, hr, h1]; omega, by simpa using h2, h3, fun m x hm hx => ?_⟩
        cases m with
        | zero => simp at hx; subst hx; exact hne
        | succ m => exact h4 m x (by omega) (by simpa using hx)

theorem sameBits_key {d : TypeDesc} {k : Value} (hk : IsKey d k) (n : Nat) : Instr.sameBits (n + 1) k k = true := by
  cases d <;> cases k <;> simp_all [IsKey, Instr.sameBits, bytes_beq]

/-- A map is written. -/
theorem run_mapUpdate_is {P : Program} {w : World} {b : Nat} {l : List (Value × Value)} {t kt et : TypeId} {d : TypeDesc} {k v : Value} (hm : P.underlying t = some (.map kt et)) (hd : P.underlying kt = some d)
    (hM : MapIs w b l) (hk : IsKey d k) (hks : ∀ p ∈ l, IsKey d p.1) :
    ∃ o', (Instr.mapUpdate t (.map (some b)) k v).run P w = .ok () { w with heap := w.heap.setIfInBounds b o' } ∧ MapIs { w with heap := w.heap.setIfInBounds b o' } b (setV k v l) := by
  obtain ⟨es, clock, hb, hl, hp, hc⟩ := hM
  have hes : ∀ x ∈ es.toList, IsKey d x.key := fun x hx => hks (x.key, x.val) (by rw [← hl]; exact List.mem_map.2 ⟨x, hx, rfl⟩)
  have hset : ∀ o', (w.heap.setIfInBounds b o')[b]? = some o' := fun o' => (heap_set (o' := o') hb).1
  rcases findNow_first hk es.toList 0 hes with ⟨h1, h2⟩ | ⟨j, e, h1, h2, h3, h4⟩
  · refine ⟨.map (es.push { key := k, val := v, born := clock }) (clock + 1), ?_, es.push { key := k, val := v, born := clock }, clock + 1, hset _, ?_, ?_, ?_⟩
    · simp [Instr.mapUpdate, run_underlying hm, MapKept.run_getObj_map hb, run_checkKey hd hk, run_findKey hd h1, MapKept.run_setObj_map _ hb]
    · rw [Array.toList_push, List.map_append, hl]
      rw [(setV_new (v := v) l (fun q hq => by
        rw [← hl] at hq
        obtain ⟨x, hx, rfl⟩ := List.mem_map.1 hq
        exact h2 x hx)).1]
      rfl
    · rw [Array.toList_push]
      exact List.pairwise_append.2 ⟨hp, List.pairwise_singleton _ _, fun a ha b' hb' => by rw [List.mem_singleton.1 hb']; exact hc a ha⟩
    · intro x hx
      rw [Array.toList_push, List.mem_append] at hx
      rcases hx with hx | hx
      · exact Nat.lt_succ_of_lt (hc x hx)
      · rw [List.mem_singleton.1 hx]; exact Nat.lt_succ_self _
  · have he : es[j]? = some e := by simpa using h2
    have hlj : l[j]? = some (e.key, e.val) := by rw [← hl, List.getElem?_map, h2]; rfl
    have hm2 : (es.modify j fun e => { e with key := k, val := v }).toList = es.toList.modify j fun e => { e with key := k, val := v } := by simp
    refine ⟨.map (es.modify j fun e => { e with key := k, val := v }) clock, ?_, es.modify j fun e => { e with key := k, val := v }, clock, hset _, ?_, ?_, ?_⟩
    · have hst : (Instr.keyThatStays k k).run P w = .ok k w := by simp [Instr.keyThatStays, sameBits_key hk]
      simp only [Nat.zero_add] at h1
      simp [Instr.mapUpdate, run_underlying hm, MapKept.run_getObj_map hb, run_checkKey hd hk, run_findKey hd h1, he, h3, hst, MapKept.run_setObj_map _ hb]
    · rw [hm2, (setV_at (v := v) l j _ hlj h3 (fun i q hi hq => by
        rw [← hl, List.getElem?_map] at hq
        cases hx : es.toList[i]? with
        | none => rw [hx] at hq; cases hq
        | some x => rw [hx] at hq; cases hq; exact h4 i x hi hx)).1, ← hl]
      apply List.ext_getElem?
      intro i
      simp only [List.getElem?_map, List.getElem?_modify, List.getElem?_set]
      by_cases hij : j = i
      · subst hij
        have hlt : j < es.toList.length := (List.getElem?_eq_some_iff.1 h2).1
        simp [he] at *
        simpa using hlt
      · simp [hij]
    · rw [hm2]
      refine List.pairwise_iff_getElem.2 fun i i' hi hi' hlt => ?_
      have := List.pairwise_iff_getElem.1 hp i i' (by simpa using hi) (by simpa using hi') hlt
      simp only [List.getElem_modify]
      split <;> split <;> exact this
    · intro x hx
      rw [hm2] at hx
      obtain ⟨i, hi⟩ := List.getElem?_of_mem hx
      rw [List.getElem?_modify] at hi
      cases hy : es.toList[i]? with
      | none => rw [hy] at hi; simp at hi
      | some y =>
        rw [hy] at hi
        have := hc y (List.mem_of_getElem? hy)
        by_cases hij : j = i
        · simp [hij] at hi; rw [← hi]; exact this
        · simp [hij] at hi; rw [← hi]; exact this

/-- A block that no object lies in may turn. -/
theorem Inv.aside {c : Ctx} {H : Heap} {M : Nat → Prop} (hI : Inv c H M) {b : Nat} {w' : World} (hsz : w'.heap.size = c.w.heap.size) (hw : ∀ q, q ≠ b → w'.heap[q]? = c.w.heap[q]?) (hsa : ¬ c.Sa b ∧ ¬ c.So b) (hob : ∀ o x, H o = some x → (c.ρ o).blk ≠ b) :
    c.Le M { c with w := w' } ∧ Inv { c with w := w' } H M := by
  have hle : c.Le M { c with w := w' } := ⟨fun _ _ => rfl, fun _ h => h, fun _ h => h, fun q hq => hw q (fun e => by subst e; exact hq.elim hsa.1 hsa.2), rfl⟩
  refine ⟨hle, ⟨?_, hI.sep, hI.stab, fun q hq => by have := hI.lt q hq; simp only [hsz]; exact this, by have := hI.base; simp only [hsz]; exact this, hI.own, hI.low⟩⟩
  intro p x hx
  obtain ⟨h1, ⟨⟨cur, hb, hs, hc⟩, h3, h4, h5⟩, h6⟩ := hI.obj p x hx
  refine ⟨h1, ⟨⟨cur, ?_, hs, ?_⟩, h3, h4, h5⟩, h6⟩
  · show w'.heap[(c.ρ p).blk]? = _
    rw [hw _ (hob p x hx)]; exact hb
  · intro i e he
    obtain ⟨g1, g2⟩ := hc i e he
    exact ⟨g1, fun k a ha => by obtain ⟨v, hv, hr, h7⟩ := g2 k a ha; exact ⟨v, hv, hr.mono hle (.inr (h6 e (List.mem_of_getElem? he) a (List.mem_of_getElem? ha))), h7⟩⟩

section
variable {P : Program} {nt n0 : Nat} {Q : AExit → St → Mu → Prop} {ops : Array Oper} {l : List Oper} {o : Oper} {K : List Kn} {L : List (Nat × AV)} {G : List (Nat × Obj)} {n : Nat} {μ : Mu}

theorem Carry_run_makeMap {P : Program} (t : TypeId) (w : World) : (Instr.makeMap t none).run P w = .ok (.map (some w.heap.size)) (w.alloc (.map #[] 0)) := rfl
/-- A new map. -/
theorem SemK.mapNew {t : Nat} (ho : o.op = .makeMap t none) (hg : o.guard = none) (hd : dstOk nt o.dst = true)
    (h : ∀ b, SemK P nt n0 Q (.ops ops l) K ⟨fr (putO o.dst (.sc (.map (some b))) L), hp G, n⟩ ((b, []) :: μ)) : SemK P nt n0 Q (.ops ops (o :: l)) K ⟨fr L, hp G, n⟩ μ := by
  intro c0 H0 c act g hm Qx hQ
  refine wpList_step fun K' hK' => ?_
  rw [if_pos (by simp [Region.wanted, hg])]
  have hrun : (execOp act.eval o).run P c.w = .ok (.value (.map (some c.w.heap.size))) (c.w.alloc (.map #[] 0)) := by
    obtain ⟨dst, op, type, pos, after, guard⟩ := o
    simp only at ho
    subst ho
    simp only [execOp, Sem.run_bind, Carry_run_makeMap]
    rfl
  unfold Oper.wp
  rw [hrun]
  obtain ⟨h1, h2, h3⟩ := g.inv.waste (w' := c.w.alloc (.map #[] 0)) (.map #[] 0) rfl rfl rfl rfl
  have g2 := (g.rebase).next (c' := { c with w := c.w.alloc (.map #[] 0) }) (dst := o.dst) (a := .sc (.map (some c.w.heap.size))) (v := .map (some c.w.heap.size)) (dstOk_lt hd) h1 rfl (fun b hb => .inl hb) h3 (fun q x hx => .inr ⟨q, x, hx, rfl⟩) h2 g.solo (Nat.le_refl _) .sc .sc
  have hk := hm.kept g2.reach
  have hnew : (c.w.alloc (.map #[] 0)).heap[c.w.heap.size]? = some (.map #[] 0) := (heap_alloc c.w _).1
  have hb := h c.w.heap.size
  rw [putO_fr] at hb
  refine hK' _ _ (hb c0 H0 { c with w := c.w.alloc (.map #[] 0) } _ (.join g.reach g2) ⟨?_, ?_, ?_⟩ Qx hQ)
  · intro p hp
    rcases List.mem_cons.1 hp with rfl | hp
    · exact ⟨#[], 0, hnew, rfl, List.Pairwise.nil, fun e he => by simp at he⟩
    · exact hk.is p hp
  · intro p hp
    rcases List.mem_cons.1 hp with rfl | hp
    · refine ⟨fun hs => Nat.lt_irrefl _ (g.inv.lt _ (.inl hs)), fun hs => Nat.lt_irrefl _ (g.inv.lt _ (.inr hs)), fun q x hx he => ?_, g.reach.size⟩
      obtain ⟨_, ⟨⟨cur, hcb, _⟩, _, _, _⟩, _⟩ := g.inv.obj q x hx
      have he' : (c.ρ q).blk = c.w.heap.size := he
      rw [he'] at hcb
      simp at hcb
    · exact hk.away p hp
  · refine List.nodup_cons.2 ⟨fun hmem => ?_, hk.nodup⟩
    obtain ⟨p, hp, he⟩ := List.mem_map.1 hmem
    have := (hm.is p hp).lt
    simp only at he
    omega

/-- A map is written. -/
theorem SemK.mapUpd {T : Ty} {t b kt et : Nat} {m k x : Operand} {qm qk qx : List Prop} {kv xv : Value} {es : List (Value × Value)} {ti : TI} {d : TypeDesc} (hT : TyOk P T) (ho : o.op = .mapUpdate t m k x) (hg : o.guard = none) (hd : o.dst = none)
    (ht : T t = some ti) (hkd : ti.kind = .map kt et) (hu : P.underlying kt = some d)
    (hm : rd L m = (.sc (.map (some b)), qm)) (hk : rd L k = (.sc kv, qk)) (hx : rd L x = (.sc xv, qx)) (hqm : allP qm) (hqk : allP qk) (hqx : allP qx) (hik : IsKey d kv) (hks : ∀ p ∈ es, IsKey d p.1)
    (h : SemK P nt n0 Q (.ops ops l) K ⟨fr L, hp G, n⟩ ((b, setV kv xv es) :: μ)) : SemK P nt n0 Q (.ops ops (o :: l)) K ⟨fr L, hp G, n⟩ ((b, es) :: μ) := by
  intro c0 H0 c act g hM Qx hQ
  refine wpList_step fun K' hK' => ?_
  rw [if_pos (by simp [Region.wanted, hg])]
  have em : act.eval m = .map (some b) := by have := g.ev m; rw [show evA (St.A ⟨fr L, hp G, n⟩) m = _ from rd_ok hm hqm] at this; exact this.sc_inv
  have ek : act.eval k = kv := by have := g.ev k; rw [show evA (St.A ⟨fr L, hp G, n⟩) k = _ from rd_ok hk hqk] at this; exact this.sc_inv
  have ex : act.eval x = xv := by have := g.ev x; rw [show evA (St.A ⟨fr L, hp G, n⟩) x = _ from rd_ok hx hqx] at this; exact this.sc_inv
  have hu1 : P.underlying t = some (.map kt et) := by
    obtain ⟨i, dd, _, hdd, _, hkk, _⟩ := tyInfo_parts (hT t ti ht)
    rw [hkd] at hkk
    cases dd <;> simp [kindOf] at hkk
    obtain ⟨rfl, rfl⟩ := hkk
    exact hdd
  obtain ⟨o', hrun, hmap⟩ := run_mapUpdate_is (v := xv) hu1 hu (hM.is (b, es) (by simp)) hik hks
  have hex : (execOp act.eval o).run P c.w = .ok .skip { c.w with heap := c.w.heap.setIfInBounds b o' } := by
    obtain ⟨dst, op, type, pos, after, guard⟩ := o
    simp only at ho
    subst ho
    simp only [execOp, em, ek, ex, Sem.run_bind, hrun]
    rfl
  unfold Oper.wp
  rw [hex]
  obtain ⟨a1, a2, a3, a4⟩ := hM.away (b, es) (by simp)
  obtain ⟨es0, cl, hb0, _⟩ := hM.is (b, es) (by simp)
  have hoth : ∀ q, q ≠ b → ({ c.w with heap := c.w.heap.setIfInBounds b o' } : World).heap[q]? = c.w.heap[q]? := (heap_set (o' := o') hb0).2
  obtain ⟨h1, h2⟩ := g.inv.aside (w' := { c.w with heap := c.w.heap.setIfInBounds b o' }) (by simp) hoth ⟨a1, a2⟩ a3
  have g2 : Good nt c0 H0 n0 { c with w := { c.w with heap := c.w.heap.setIfInBounds b o' } } ⟨fr L, hp G, n⟩ act := by
    refine ⟨h2, g.solo, fun q => (g.frame q).mono h1 (.inr (g.ok q)), g.ok, g.size, g.defers, ?_, g.le0⟩
    have r := g.reach
    refine ⟨r.rho, r.os, r.tape, r.output, by simpa using r.size, fun q hq hn => ?_, fun q hq => ?_, r.sa, r.so1, r.so2, r.B, r.own⟩
    · exact (hoth q (fun e => by subst e; exact absurd hq (Nat.not_lt.2 a4))).trans (r.block q hq hn)
    · refine (hoth q (fun e => ?_)).trans (r.stable q hq)
      subst e
      rcases hq with hq | hq
      · exact a1 (by rw [r.sa]; exact hq)
      · exact a2 (r.so1 _ hq)
  have hact : act.put o.dst undef = act := by rw [hd]; rfl
  have hMs : MOk c0 { c with w := { c.w with heap := c.w.heap.setIfInBounds b o' } } (hp G) ((b, setV kv xv es) :: μ) := by
    refine ⟨fun p hp => ?_, fun p hp => ?_, ?_⟩
    · rcases List.mem_cons.1 hp with rfl | hp
      · exact hmap
      · obtain ⟨e1, c1, k1, k2⟩ := hM.is p (List.mem_cons_of_mem _ hp)
        have hne : p.1 ≠ b := fun e => (List.nodup_cons.1 hM.nodup).1 (List.mem_map.2 ⟨p, hp, e⟩)
        exact ⟨e1, c1, (hoth _ hne).trans k1, k2⟩
    · rcases List.mem_cons.1 hp with rfl | hp
      · exact hM.away (b, es) (by simp)
      · exact hM.away p (List.mem_cons_of_mem _ hp)
    · exact hM.nodup
  have := hK' act { c.w with heap := c.w.heap.setIfInBounds b o' } (h c0 H0 _ act g2 hMs Qx hQ)
  show K' (act.put o.dst undef) _
  rw [hact]; exact this

/-- How many entries a map has. -/
theorem SemK.mapLen {T : Ty} {t b kt et : Nat} {x : Operand} {qx : List Prop} {es : List (Value × Value)} {ti : TI} (hT : TyOk P T) (ho : o.op = .call { callee := .builtin .len, args := #[x], argTypes := #[t] }) (hg : o.guard = none) (hd : dstOk nt o.dst = true)
    (ht : T t = some ti) (hkd : ti.kind = .map kt et) (hx : rd L x = (.sc (.map (some b)), qx)) (hqx : allP qx)
    (h : SemK P nt n0 Q (.ops ops l) K ⟨fr (putO o.dst (.sc (.int .i64 es.length)) L), hp G, n⟩ ((b, es) :: μ)) : SemK P nt n0 Q (.ops ops (o :: l)) K ⟨fr L, hp G, n⟩ ((b, es) :: μ) := by
  intro c0 H0 c act g hM Qx hQ
  refine wpList_step fun K' hK' => ?_
  rw [if_pos (by simp [Region.wanted, hg])]
  have ex : act.eval x = .map (some b) := by have := g.ev x; rw [show evA (St.A ⟨fr L, hp G, n⟩) x = _ from rd_ok hx hqx] at this; exact this.sc_inv
  have hu1 : P.underlying t = some (.map kt et) := by
    obtain ⟨i, dd, _, hdd, _, hkk, _⟩ := tyInfo_parts (hT t ti ht)
    rw [hkd] at hkk
    cases dd <;> simp [kindOf] at hkk
    obtain ⟨rfl, rfl⟩ := hkk
    exact hdd
  obtain ⟨es0, cl, hb0, hl, _⟩ := hM.is (b, es) (by simp)
  have hsz : es0.size = es.length := by have hl' : es0.toList.map (fun e => (e.key, e.val)) = es := hl; rw [← hl']; simp
  have hex : (execOp act.eval o).run P c.w = .ok (.value (.int .i64 es.length)) c.w := by
    obtain ⟨dst, op, type, pos, after, guard⟩ := o
    simp only at ho
    subst ho
    simp [execOp, resolve, invoke, builtin, Builtin.len_, ex, run_underlying hu1, MapKept.run_getObj_map hb0, goInt, hsz]
  unfold Oper.wp
  rw [hex]
  have g2 := g.next (c' := c) (dst := o.dst) (a := .sc (.int .i64 es.length)) (v := .int .i64 es.length) (dstOk_lt hd) (.refl c) rfl (fun b hb => .inl hb) (.refl c (hp G)) (fun q x hx => .inr ⟨q, x, hx, rfl⟩) g.inv g.solo (Nat.le_refl _) .sc .sc
  rw [putO_fr] at h
  exact hK' _ _ (h c0 H0 c _ g2 hM Qx hQ)
end
end Go.Av
namespace Go.D
/-- A number is put to those that were there. -/
def distAdd (ks : List Int) (z : Int) : List Int := if z ∈ ks then ks else ks ++ [z]
def distinctL (ks : List Int) : List Int → List Int
  | [] => ks
  | z :: zs => distinctL (distAdd ks z) zs
end Go.D
namespace Go.Av
/-- The entry of a set of numbers. -/
def kvInt (z : Int) : Value × Value := (.int .i64 z, .bool true)
end Go.Av

/- Regions whose order is drawn, of which the end stands in the order of the text: its beginning is run first. -/
namespace Go.Av

theorem Oper.wp_mono2 {P : Program} {o : Oper} {a : Act} {w : World} {K K' : Act → World → Prop} {Q Q' : Exit → Act → World → Prop} (h : ∀ a w, K a w → K' a w) (hq : ∀ e a w, e ≠ .normal → Q e a w → Q' e a w)
    (hh : o.wp P a w K Q) : o.wp P a w K' Q' := by
  unfold Oper.wp at *
  generalize (execOp a.eval o).run P w = r at *
  cases r with
  | ok n w' =>
    cases n with
    | enter f args =>
      simp only [Oper.upon] at hh ⊢
      refine Calls.mono hh (fun e w'' he => ?_)
      cases e with
      | returned v => exact h _ _ he
      | panicked ch => exact hq _ _ _ (by intro h; cases h) he
      | outgrown => obtain ⟨a0, w0, h0⟩ := he; exact ⟨a0, w0, hq _ _ _ (by intro h; cases h) h0⟩
    | row row args => simp only [Oper.upon] at hh ⊢; exact Rows.mono hh (fun _ _ he => h _ _ he)
    | _ => simp only [Oper.upon] at hh ⊢ <;> exact h _ _ hh
  | halt x w' => cases x <;> simp only [Oper.upon] at hh ⊢ <;> first | exact hh | exact hq _ _ _ (by intro h; cases h) hh

section
variable {P : Program} {ops : Array Oper} {Q : Exit → Act → World → Prop}

theorem wpAny_more : ∀ (f : Nat) (listed : Array Bool) (a : Act) (w : World), wpAny P .any ops Q f listed a w → wpAny P .any ops Q (f + 1) listed a w
  | 0, listed, a, w, h => ⟨fun _ => h.2, fun i hi => by rw [h.1] at hi; cases hi⟩
  | f + 1, listed, a, w, h => ⟨h.1, fun i hi => wpOp_mono (fun a' w' h' => wpAny_more f _ a' w' h') (h.2 i hi)⟩
theorem wpAny_moreN (n : Nat) : ∀ (f : Nat) (listed : Array Bool) (a : Act) (w : World), wpAny P .any ops Q f listed a w → wpAny P .any ops Q (f + n) listed a w := by
  induction n with
  | zero => intro f l a w h; exact h
  | succ n ih => intro f l a w h; exact wpAny_more (f + n) l a w (ih f l a w h)

/-- From place j on each operation waits for all before it. -/
def barOk (j : Nat) (l : List Oper) : Bool := (List.range l.length).all fun i => Nat.blt i j || (List.range i).all fun q => ((masks l).getD i 0).testBit q
def guardsLt (l : List Oper) : Bool := l.all fun o => match o.guard with
  | some (j, _) => Nat.blt j l.length
  | none => true

theorem barOk_spec {j : Nat} {l : List Oper} (h : barOk j l = true) {i q : Nat} (hi : i < l.length) (hj : j ≤ i) (hq : q < i) : ((masks l).getD i 0).testBit q = true := by
  have := List.all_eq_true.1 h i (List.mem_range.2 hi)
  simp only [Bool.or_eq_true, Nat.blt_eq] at this
  rcases this with h1 | h1
  · omega
  · exact List.all_eq_true.1 h1 q (List.mem_range.2 hq)

theorem ready_pre {listed : Array Bool} {i : Nat} {o : Oper} (hi : i ∈ Region.ready .any ops listed) (ho : ops.toList[i]? = some o) : ∀ j ∈ preOf o, listed.getD j false = true := by
  rw [ready_mem] at hi
  obtain ⟨_, _, h3⟩ := hi
  have ho' : ops[i]? = some o := by simpa using ho
  rw [ho'] at h3
  simp only [Option.map_some, Option.getD_some] at h3
  intro j hj
  obtain ⟨e, he, rfl⟩ := List.mem_map.1 hj
  obtain ⟨he1, he2⟩ := List.mem_filter.1 he
  rw [Array.all_eq_true_iff_forall_mem] at h3
  have := h3 e (by simpa using he1)
  rw [he2] at this
  simpa using this

theorem mem_ready {listed : Array Bool} {i : Nat} {o : Oper} (hsz : listed.size = ops.size) (ho : ops.toList[i]? = some o) (hl : listed.getD i false = false) (h : ∀ j ∈ preOf o, listed.getD j false = true) : i ∈ Region.ready .any ops listed := by
  have hi : i < ops.size := by have := (List.getElem?_eq_some_iff.1 ho).1; simpa using this
  rw [ready_mem]
  refine ⟨hi, ?_, ?_⟩
  · have hil : i < listed.size := by omega
    simp only [Array.getD_eq_getD_getElem?, Array.getElem?_eq_getElem hil, Option.getD_some] at hl ⊢
    exact hl
  · have ho' : ops[i]? = some o := by simpa using ho
    rw [ho']
    simp only [Option.map_some, Option.getD_some]
    rw [Array.all_eq_true_iff_forall_mem]
    intro e he
    cases hb : Region.binds .any e with
    | false => rfl
    | true => simpa using h e.on (List.mem_map.2 ⟨e, List.mem_filter.2 ⟨by simpa using he, hb⟩, rfl⟩)

/-- What is listed is closed. -/
def ClosedL (ops : Array Oper) (listed : Array Bool) : Prop := ∀ (i : Nat) o, ops.toList[i]? = some o → listed.getD i false = true → ∀ j ∈ preOf o, listed.getD j false = true

theorem ready_all (hpre : preLt 0 ops.toList = true) {listed : Array Bool} (hc : ClosedL ops listed) {i : Nat} (hi : i ∈ Region.ready .any ops listed) {q : Nat} (hq : ((masks ops.toList).getD i 0).testBit q = true) : listed.getD q false = true := by
  have hlt := (ready_mem.1 hi).1
  have ho : ops.toList[i]? = some ops[i] := by simp [hlt]
  have hp : ∀ (i : Nat) o, ops.toList[i]? = some o → ∀ j ∈ preOf o, j < i := fun i o ho j hj => by have := preLt_spec _ 0 hpre i o ho j hj; omega
  exact (closed_masks (S := fun k => listed.getD k false) hp hc i _ ho (ready_pre hi ho) q hq).1

theorem getD_set_list {listed : Array Bool} {i k : Nat} (hi : i < listed.size) : (listed.setIfInBounds i true).getD k false = (listed.getD k false || Nat.beq k i) := by
  simp only [Array.getD_eq_getD_getElem?]
  by_cases h : k = i
  · subst h; simp [hi]
  · have : Nat.beq k i = false := by rw [← Bool.not_eq_true, Nat.beq_eq]; exact h
    rw [Array.getElem?_setIfInBounds_ne (fun e => h e.symm), this, Bool.or_false]

/-- The end, in the order of the text. -/
theorem wpAny_end (hpre : preLt 0 ops.toList = true) {j : Nat} (hbar : barOk j ops.toList = true) : ∀ (f m : Nat) (listed : Array Bool) (a : Act) (w : World), listed.size = ops.size → j ≤ m → m + f = ops.size → (∀ k, k < ops.size → (listed.getD k false = true ↔ k < m)) →
    wpList P ops Q (ops.toList.drop m) a w → wpAny P .any ops Q f listed a w := by
  have hlen : ops.toList.length = ops.size := Array.length_toList
  intro f
  induction f with
  | zero =>
    intro m listed a w hsz hj hm hl h
    refine ⟨?_, ?_⟩
    · rw [List.eq_nil_iff_forall_not_mem]
      intro i hi
      obtain ⟨h1, h2, _⟩ := ready_mem.1 hi
      have := (hl i h1).2 (by omega)
      have hil : i < listed.size := by omega
      simp only [Array.getD_eq_getD_getElem?, Array.getElem?_eq_getElem hil, Option.getD_some] at h2 this
      rw [h2] at this; cases this
    · rw [List.drop_of_length_le (by omega)] at h; exact h
  | succ f ih =>
    intro m listed a w hsz hj hm hl h
    have hmo : ops.toList[m]? = some (ops.toList[m]'(by omega)) := List.getElem?_eq_getElem (by omega)
    have hc : ClosedL ops listed := fun i o ho hi q hq => by
      have hio : i < ops.size := by have := (List.getElem?_eq_some_iff.1 ho).1; omega
      have h1 := preLt_spec _ 0 hpre i o ho q hq
      have h2 := (hl i hio).1 hi
      exact (hl q (by omega)).2 (by omega)
    have hrm : m ∈ Region.ready .any ops listed := by
      refine mem_ready hsz hmo ?_ fun q hq => ?_
      · rw [← Bool.not_eq_true]; exact fun e => by have := (hl m (by omega)).1 e; omega
      · have h1 := preLt_spec _ 0 hpre m _ hmo q hq
        exact (hl q (by omega)).2 (by omega)
    refine ⟨fun hr => (by rw [hr] at hrm; cases hrm), fun i hi => ?_⟩
    have him : i = m := by
      obtain ⟨h1, h2, _⟩ := ready_mem.1 hi
      have hil : i < listed.size := by omega
      have hge : m ≤ i := by
        rcases Nat.lt_or_ge i m with h3 | h3
        · have := (hl i h1).2 h3
          simp only [Array.getD_eq_getD_getElem?, Array.getElem?_eq_getElem hil, Option.getD_some] at h2 this
          rw [h2] at this; cases this
        · exact h3
      rcases Nat.lt_or_eq_of_le hge with h3 | h3
      · have := ready_all hpre hc hi (barOk_spec hbar (by omega) (by omega) h3)
        have := (hl m (by omega)).1 this
        omega
      · exact h3.symm
    subst him
    rw [List.drop_eq_getElem_cons (by omega)] at h
    unfold wpList at h
    unfold wpOp
    have ho' : ops[i]? = some (ops.toList[i]'(by omega)) := by simpa using hmo
    rw [ho']
    simp only
    have hnext : ∀ a' w', wpList P ops Q (ops.toList.drop (i + 1)) a' w' → wpAny P .any ops Q f (listed.setIfInBounds i true) a' w' := fun a' w' h' =>
      ih (i + 1) _ a' w' (by simpa using hsz) (by omega) (by omega) (fun k hk => by
        rw [getD_set_list (by omega), Bool.or_eq_true, hl k hk, Nat.beq_eq]; omega) h'
    by_cases hw : Region.wanted (ops.toList[i]'(by omega)) (yielded ops a.tmps) = true
    · rw [if_pos hw] at h ⊢
      exact h.imp (Oper.wp_mono hnext) id
    · rw [if_neg hw] at h ⊢
      exact hnext _ _ h

theorem preOf_take {j i : Nat} {o : Oper} (h : (ops.toList.take j)[i]? = some o) : ops.toList[i]? = some o ∧ i < j := by
  rw [List.getElem?_take] at h
  split at h
  · exact ⟨h, by assumption⟩
  · cases h

/-- The beginning, in any order that is left open, and then the end. -/
theorem wpAny_cut {R : Exit → Act → World → Prop} {j : Nat} {pre : Array Oper} (hp : pre.toList = ops.toList.take j) (hjl : j ≤ ops.size) (hpre : preLt 0 ops.toList = true) (hbar : barOk j ops.toList = true) (hgd : guardsLt (ops.toList.take j) = true)
    (hRQ : ∀ e a w, e ≠ .normal → R e a w → Q e a w) (r : Nat)
    (hend : ∀ listed a w, listed.size = ops.size → (∀ k, k < ops.size → (listed.getD k false = true ↔ k < j)) → R .normal a w → wpAny P .any ops Q r listed a w) :
    ∀ (f : Nat) (lp lo : Array Bool) (a : Act) (w : World), lp.size = pre.size → lo.size = ops.size → (∀ k, lo.getD k false = (lp.getD k false && Nat.blt k j)) → ClosedL pre lp →
      wpAny P .any pre R f lp a w → wpAny P .any ops Q (f + r) lo a w := by
  have hlen : ops.toList.length = ops.size := Array.length_toList
  have hps : pre.size = j := by rw [← Array.length_toList, hp, List.length_take]; omega
  have hpp : preLt 0 pre.toList = true := by
    have key : ∀ (l : List Oper) (i k : Nat), preLt i l = true → preLt i (l.take k) = true := by
      intro l
      induction l with
      | nil => intro i k _; simp [preLt]
      | cons a l ih =>
        intro i k h
        cases k with
        | zero => rfl
        | succ k =>
          simp only [preLt, Bool.and_eq_true, List.take_succ_cons] at h ⊢
          exact ⟨h.1, ih _ _ h.2⟩
    rw [hp]; exact key _ _ _ hpre
  have same : ∀ (k : Nat) o, ops.toList[k]? = some o → k < j → pre.toList[k]? = some o := fun k o ho hk => by rw [hp, List.getElem?_take, if_pos hk]; exact ho
  have full : ∀ (lp : Array Bool), lp.size = pre.size → Region.ready .any pre lp = [] → ∀ k, k < j → lp.getD k false = true := by
    intro lp hs hr k
    induction k using Nat.strongRecOn with
    | _ k ih =>
      intro hk
      cases hl : lp.getD k false with
      | true => rfl
      | false =>
        have hko : pre.toList[k]? = some (pre.toList[k]'(by rw [Array.length_toList]; omega)) := List.getElem?_eq_getElem _
        have := mem_ready hs hko hl fun q hq => by
          have h1 := preLt_spec _ 0 hpp k _ hko q hq
          exact ih q (by omega) (by omega)
        rw [hr] at this; cases this
  have yl : ∀ (tmps : Array Value) (q : Nat), q < j → yielded ops tmps q = yielded pre tmps q := by
    intro tmps q hq
    have : ops[q]? = pre[q]? := by
      have h1 : ops.toList[q]? = pre.toList[q]? := by rw [hp, List.getElem?_take, if_pos hq]
      simpa using h1
    unfold yielded
    rw [this]
  intro f
  induction f with
  | zero =>
    intro lp lo a w hs1 hs2 hrel hcl h
    obtain ⟨h1, h2⟩ := h
    rw [Nat.zero_add]
    refine hend lo a w hs2 (fun k hk => ?_) h2
    rw [hrel]
    constructor
    · intro h3; simp only [Bool.and_eq_true, Nat.blt_eq] at h3; exact h3.2
    · intro h3; simp only [Bool.and_eq_true, Nat.blt_eq]; exact ⟨full lp hs1 h1 k h3, h3⟩
  | succ f ih =>
    intro lp lo a w hs1 hs2 hrel hcl h
    obtain ⟨h1, h2⟩ := h
    by_cases hr : Region.ready .any pre lp = []
    · have : wpAny P .any ops Q r lo a w := hend lo a w hs2 (fun k hk => by
        rw [hrel]
        constructor
        · intro h3; simp only [Bool.and_eq_true, Nat.blt_eq] at h3; exact h3.2
        · intro h3; simp only [Bool.and_eq_true, Nat.blt_eq]; exact ⟨full lp hs1 hr k h3, h3⟩) (h1 hr)
      have := wpAny_moreN (f + 1) r lo a w this
      rwa [Nat.add_comm] at this
    · have hclo : ClosedL ops lo := by
        intro i o ho hi q hq
        rw [hrel] at hi ⊢
        simp only [Bool.and_eq_true, Nat.blt_eq] at hi ⊢
        have hq2 := preLt_spec _ 0 hpre i o ho q hq
        exact ⟨hcl i o (same i o ho hi.2) hi.1 q hq, by omega⟩
      obtain ⟨p, hpr⟩ := List.exists_mem_of_ne_nil _ hr
      have hpj : p < j := by have := (ready_mem.1 hpr).1; omega
      have hnl : lo.getD p false = false := by
        rw [hrel]
        have h3 := (ready_mem.1 hpr).2.1
        have hpl : p < lp.size := by omega
        simp only [Array.getD_eq_getD_getElem?, Array.getElem?_eq_getElem hpl, Option.getD_some] at h3 ⊢
        rw [h3]; rfl
      have low : ∀ i, i ∈ Region.ready .any ops lo → i < j := by
        intro i hi
        rcases Nat.lt_or_ge i j with h3 | h3
        · exact h3
        · have := ready_all hpre hclo hi (barOk_spec hbar (by have := (ready_mem.1 hi).1; omega) h3 (show p < i by omega))
          rw [hnl] at this; cases this
      rw [show f + 1 + r = (f + r) + 1 by omega]
      refine ⟨fun hro => ?_, fun i hi => ?_⟩
      · exfalso
        have hpo : pre.toList[p]? = some (pre.toList[p]'(by rw [Array.length_toList]; omega)) := List.getElem?_eq_getElem _
        have hpo2 : ops.toList[p]? = some (pre.toList[p]'(by rw [Array.length_toList]; omega)) := (preOf_take (by rw [← hp]; exact hpo)).1
        have : p ∈ Region.ready .any ops lo := mem_ready hs2 hpo2 hnl fun q hq => by
          have h3 := ready_pre hpr hpo q hq
          have h4 := preLt_spec _ 0 hpre p _ hpo2 q hq
          rw [hrel, h3]; simp; omega
        rw [hro] at this; cases this
      · have hij := low i hi
        have hio : ops.toList[i]? = some (ops.toList[i]'(by omega)) := List.getElem?_eq_getElem _
        have hip := same i _ hio hij
        have hli : lp.getD i false = false := by
          have h3 := (ready_mem.1 hi).2.1
          have hil : i < lo.size := by omega
          have h5 : lo.getD i false = false := by
            simp only [Array.getD_eq_getD_getElem?, Array.getElem?_eq_getElem hil, Option.getD_some] at h3 ⊢
            exact h3
          rw [hrel] at h5
          have : Nat.blt i j = true := by simpa using hij
          rw [this, Bool.and_true] at h5
          exact h5
        have hir : i ∈ Region.ready .any pre lp := mem_ready hs1 hip hli fun q hq => by
          have h3 := ready_pre hi hio q hq
          rw [hrel] at h3
          simp only [Bool.and_eq_true] at h3
          exact h3.1
        have hk := h2 i hir
        unfold wpOp at hk ⊢
        have e1 : ops[i]? = some (ops.toList[i]'(by omega)) := by simpa using hio
        have e2 : pre[i]? = some (ops.toList[i]'(by omega)) := by simpa using hip
        rw [e2] at hk
        rw [e1]
        simp only at hk ⊢
        have hw : Region.wanted (ops.toList[i]'(by omega)) (yielded ops a.tmps) = Region.wanted (ops.toList[i]'(by omega)) (yielded pre a.tmps) := by
          unfold Region.wanted
          cases hgu : (ops.toList[i]'(by omega)).guard with
          | none => rfl
          | some g =>
            obtain ⟨gj, want⟩ := g
            have h5 := List.all_eq_true.1 hgd (ops.toList[i]'(by omega)) (List.mem_of_getElem? (i := i) (by rw [List.getElem?_take, if_pos hij]; exact hio))
            rw [hgu] at h5
            simp only [Nat.blt_eq, List.length_take] at h5
            simp only [yl a.tmps gj (by omega)]
        rw [hw]
        have hnext : ∀ a' w', wpAny P .any pre R f (lp.setIfInBounds i true) a' w' → wpAny P .any ops Q (f + r) (lo.setIfInBounds i true) a' w' := by
          intro a' w' h'
          refine ih _ _ a' w' (by simpa using hs1) (by simpa using hs2) (fun k => ?_) ?_ h'
          · rw [getD_set_list (by omega), getD_set_list (by omega), hrel]
            by_cases hki : k = i
            · subst hki
              have : Nat.blt k j = true := by simpa using hij
              simp [this]
            · have : Nat.beq k i = false := by rw [← Bool.not_eq_true, Nat.beq_eq]; exact hki
              simp [this]
          · intro k o ho hk q hq
            rw [getD_set_list (by omega)] at hk ⊢
            rcases Bool.or_eq_true_iff.1 hk with hk | hk
            · rw [hcl k o ho hk q hq]; rfl
            · have : k = i := by simpa using hk
              subst this
              rw [ready_pre hir ho q hq]; rfl
        by_cases hwt : Region.wanted (ops.toList[i]'(by omega)) (yielded pre a.tmps) = true
        · rw [if_pos hwt] at hk ⊢
          rcases hk with hk | ⟨hk, a0, w0, hl⟩
          · exact .inl (Oper.wp_mono2 hnext hRQ hk)
          · exact .inr ⟨hk, a0, w0, hRQ _ _ _ (by intro h; cases h) hl⟩
        · rw [if_neg hwt] at hk ⊢
          exact hnext _ _ hk
end

/-- A region whose order is drawn: its beginning, and then its end in the order of the text. -/
theorem SemM.drawnCut {P : Program} {T : Ty} {nt n0 id j n : Nat} {ops : Array Oper} {L L' : List (Nat × AV)} {G G' : List (Nat × Obj)} {Q : AExit → St → Mu → Prop} {μ : Mu} (hT : TyOk P T ∧ P.follows .mixedOrders = true) (hpre : preLt 0 ops.toList = true)
    (hjl : Nat.ble j ops.size = true) (hbar : barOk j ops.toList = true) (hgd : guardsLt (ops.toList.take j) = true) (hs : List Hint) {hs' : List Hint} {ps' : List Prop}
    (h : drawS P T nt n ⟨ops.toList.take j⟩ (masks (ops.toList.take j)) ((masks (ops.toList.take j)).zip ((ops.toList.take j).map fun o => heapFree o.op)) 0 (ops.toList.take j) L G [] hs [] = some (L', G', hs', ps')) (hp' : allP ps')
    (k : SemLM P nt n0 ops (ops.toList.drop j) (fun s μ => Q .normal s μ) ⟨fr L', hp G', n + j⟩ μ) : SemM P nt n0 (.region id ops true) Q ⟨fr L, hp G, n⟩ μ := by
  have hjl' : j ≤ ops.size := by simpa using hjl
  obtain ⟨_, hrun⟩ := drawS_ok _ _ _ _ _ _ _ _ _ _ _ h hp'
  obtain ⟨rs, hall, hA, hH⟩ := hrun.all (fr L) (hp G) [] (Nat.zero_le _) rfl rfl rfl rfl rfl (fun k o r _ hr => by simp at hr)
  have hpl : preLt 0 (ops.toList.take j) = true := by
    have key : ∀ (l : List Oper) (i k : Nat), preLt i l = true → preLt i (l.take k) = true := by
      intro l
      induction l with
      | nil => intro i k _; simp [preLt]
      | cons a l ih =>
        intro i k h
        cases k with
        | zero => rfl
        | succ k =>
          simp only [preLt, Bool.and_eq_true, List.take_succ_cons] at h ⊢
          exact ⟨h.1, ih _ _ h.2⟩
    exact key _ _ _ hpre
  have hlenp : (ops.toList.take j).length = j := by rw [List.length_take, Array.length_toList]; omega
  intro c0 HH c act g0 hm
  have g := g0.rebase.drew
  refine wp_region_any hT.2 ?_
  have hz : ∀ m k, (Array.replicate m false).getD k false = false := by
    intro m k
    simp only [Array.getD_eq_getD_getElem?, Array.getElem?_replicate]
    split <;> rfl
  have hfn : ∀ m, (fun k => (Array.replicate m false).getD k false) = (fun _ => false) := fun m => funext (hz m)
  have hM : ∀ q, q < n → AtS n (fun _ => false) q := fun q h => .inl h
  have hdg := drawn_go (n0 := n0) (Q := fun e s => e = .normal ∧ s = ⟨fr L', hp G', n + j⟩) hT.1 (ops := ⟨ops.toList.take j⟩) hpl hall ⟨rfl, by rw [hA, hH]; congr 1; simp only [hlenp]⟩ (c0 := c) (HH := hp G) g.le0 j (Array.replicate j false) (List.range j)
    { c with w := { c.w with drawn := c.w.drawn + 1 } } act (by simp [hlenp]) (by simp) (fun k hk _ => List.mem_range.2 (by simpa [hlenp] using hk)) (fun i o _ h => by rw [hz] at h; cases h) (by
      rw [hfn, foldS_none, foldS_none]
      exact ⟨g.inv.more hM, g.solo, g.frame, fun t => (g.ok t).mono hM, g.size, g.defers, g.reach, fun q hq => hM q (Nat.lt_of_lt_of_le hq g.le0)⟩)
  have := wpAny_cut (Q := MQ nt c0 HH n0 Q) (pre := ⟨ops.toList.take j⟩) (R := CQ nt c (hp G) n0 (fun e s => e = .normal ∧ s = ⟨fr L', hp G', n + j⟩)) (j := j) rfl hjl' hpre hbar hgd
    (by rintro e a w hne ⟨c', s', ae, _, _, rfl, rfl, _⟩; exact absurd rfl hne) (ops.size - j) (by
      rintro listed a w hsz hl ⟨c', s', ae, rfl, g', _, rfl, rfl⟩
      refine wpAny_end hpre hbar (ops.size - j) j listed a c'.w hsz (Nat.le_refl _) (by omega) hl ?_
      exact k c0 HH c' a (.join g0.reach g') (hm.kept g'.reach) _ fun c2 s2 a2 μ2 g2 hm2 hq => ⟨c2, s2, .normal, μ2, rfl, g2, hm2, rfl, hq⟩)
    j (Array.replicate j false) (Array.replicate ops.size false) act { c.w with drawn := c.w.drawn + 1 } (by simp [hlenp]) (by simp) (fun k => by rw [hz, hz]; rfl) (fun i o _ h => by rw [hz] at h; cases h) hdg
  rwa [show j + (ops.size - j) = ops.size by omega] at this

theorem SemK.drawnCut {P : Program} {T : Ty} {nt n0 id n : Nat} {ops : Array Oper} {L L' : List (Nat × AV)} {G G' : List (Nat × Obj)} {K : List Kn} {Q : AExit → St → Mu → Prop} {μ : Mu} (j : Nat) (hT : TyOk P T ∧ P.follows .mixedOrders = true) (hs : List Hint) {hs' : List Hint} {ps' : List Prop} (hpre : preLt 0 ops.toList = true)
    (hjl : Nat.ble j ops.size = true) (hbar : barOk j ops.toList = true) (hgd : guardsLt (ops.toList.take j) = true)
    (h : drawS P T nt n ⟨ops.toList.take j⟩ (masks (ops.toList.take j)) ((masks (ops.toList.take j)).zip ((ops.toList.take j).map fun o => heapFree o.op)) 0 (ops.toList.take j) L G [] hs [] = some (L', G', hs', ps')) (hp' : allP ps')
    (k : SemK P nt n0 Q (.ops ops (ops.toList.drop j)) K ⟨fr L', hp G', n + j⟩ μ) : SemK P nt n0 Q (.code (.region id ops true)) K ⟨fr L, hp G, n⟩ μ :=
  SemM.drawnCut hT hpre hjl hbar hgd hs h hp' k
end Go.Av
namespace Go.Av
/-- A slice that is nil is a list of nothing. -/
theorem SemK.nilsList {P : Program} {nt n0 n : Nat} {Q : AExit → St → Mu → Prop} {cf : Cf} {K : List Kn} {μ : Mu} {L : List (Nat × AV)} {H : Heap} (t : Nat) (own : Bool) (h0 : fr L t = .nils)
    (h : SemK P nt n0 Q cf K ⟨fr ((t, .list own []) :: L), H, n⟩ μ) : SemK P nt n0 Q cf K ⟨fr L, H, n⟩ μ := by
  refine SemK.sub (s' := ⟨fr ((t, .list own []) :: L), H, n⟩) (fun c0 H0 c act μ g hm => ⟨?_, hm⟩) h
  have hfr : ∀ q, fr ((t, .list own []) :: L) q = if q = t then .list own [] else fr L q := by
    intro q
    simp only [fr]
    by_cases hq : q = t
    · subst hq; simp
    · have : Nat.beq q t = false := by rw [← Bool.not_eq_true, Nat.beq_eq]; exact hq
      rw [this, if_neg hq]; rfl
  refine ⟨g.inv, g.solo, fun q => ?_, fun q => ?_, g.size, g.defers, g.reach, g.le0⟩
  · show VRel c false (fr ((t, .list own []) :: L) q) _
    rw [hfr]
    by_cases hq : q = t
    · subst hq
      rw [if_pos rfl]
      have := g.frame q
      rw [show St.A ⟨fr L, H, n⟩ q = .nils from h0] at this
      obtain ⟨p, hp⟩ := this.nils_inv
      rw [hp]; exact .listNil
    · rw [if_neg hq]; exact g.frame q
  · show (fr ((t, .list own []) :: L) q).Ok _
    rw [hfr]
    by_cases hq : q = t
    · rw [if_pos hq]; exact .list
    · rw [if_neg hq]; exact g.ok q
end Go.Av

/- copy over objects whose elements are told one by one. -/
namespace Go.Av
theorem hp_upd (G : List (Nat × Obj)) (q : Nat) (z : Obj) : hp ((q, z) :: G) = upd (hp G) q (some z) := rfl
theorem SemK.copyS {P : Program} {T : Ty} {nt n0 : Nat} {Q : AExit → St → Mu → Prop} {ops : Array Oper} {l : List Oper} {o : Oper} {K : List Kn} {L : List (Nat × AV)} {G : List (Nat × Obj)} {n : Nat} {μ : Mu} {d x : Operand} {t t' q off len et : Nat} {y : Obj} {xa : AV} {xs : List AV} {te ti : TI} {qd qx : List Prop}
    (es' : List AV) (m : Nat) (hT : TyOk P T) (ho : o.op = .call { callee := .builtin .copy, args := #[d, x], argTypes := #[t, t'] }) (hg : o.guard = none) (hdst : dstOk nt o.dst = true) (hd : rd L d = (.ref q off len, qd)) (hqd : allP qd) (hH : hp G q = some y) (hle : Nat.ble (off + len) y.es.length = true)
    (hx : rd L x = (xa, qx)) (hqx : allP qx) (hsrc : SrcR (hp G) xa xs) (hm : min xs.length len = m) (hn0 : Nat.ble 1 m = true) (ht : T t = some ti) (hk : ti.kind = .slice et) (hte : T et = some te) (hsz : (xs.all fun e => Nat.beq e.cells.length te.size) = true) (hes : y.esz = te.size)
    (hsp : splice y.es off (xs.take m) = es')
    (h : SemK P nt n0 Q (.ops ops l) K ⟨fr (putO o.dst (.sc (.int .i64 m)) L), hp ((q, { y with es := es' }) :: G), n⟩ μ) : SemK P nt n0 Q (.ops ops (o :: l)) K ⟨fr L, hp G, n⟩ μ := by
  subst hm hsp
  refine SemLM.plain (s := ⟨fr L, hp G, n⟩) hg (dstOk_lt hdst) (OpR.copy (s := ⟨fr L, hp G, n⟩) hT ho (rd_ok hd hqd) hH (by simpa using hle) (by rw [show evA (St.A ⟨fr L, hp G, n⟩) x = _ from rd_ok hx hqx]; exact hsrc) (by simp at hn0; omega) ht hk hte (fun e he => by
    have := List.all_eq_true.1 hsz e he
    simpa using this) hes) ?_
  rintro _ _ _ ⟨rfl, rfl, rfl⟩
  rw [putO_fr] at h
  have e : goInt (min (xs.length : Int) (len : Int)) = .int .i64 ((min xs.length len : Nat) : Int) := by unfold goInt; congr 1; omega
  rw [e]
  exact h
end Go.Av

/- The nil slices in an object are lists of nothing. -/
namespace Go.Av
def denC : AV → AV
  | .nils => .list true []
  | a => a
def denil : AV → AV
  | .agg cs => .agg (cs.map denC)
  | a => denC a
theorem denil_cells (e : AV) : (denil e).cells = e.cells.map denC := by
  cases e <;> rfl
theorem denC_rel {c : Ctx} {d : Bool} {a : AV} {v : Value} (h : VRel c d a v) : VRel c d (denC a) v := by
  cases a with
  | nils => obtain ⟨p, rfl⟩ := h.nils_inv; exact .listNil
  | _ => exact h
theorem denC_ok {M : Nat → Prop} {a : AV} (h : a.Ok M) : (denC a).Ok M := by
  cases a with
  | nils => exact .list
  | _ => exact h
theorem denil_obj {c : Ctx} {p : Pl} {y : Obj} (h : ObjRel c p y) : ObjRel c p { y with es := y.es.map denil } := by
  obtain ⟨⟨cur, h1, h2, h3⟩, h4, h5, h6⟩ := h
  refine ⟨⟨cur, h1, h2, fun i e he => ?_⟩, by simpa using h4, h5, h6⟩
  simp only [List.getElem?_map, Option.map_eq_some_iff] at he
  obtain ⟨e0, he0, rfl⟩ := he
  obtain ⟨g1, g2⟩ := h3 i e0 he0
  rw [denil_cells]
  refine ⟨by simpa using g1, fun k a ha => ?_⟩
  simp only [List.getElem?_map, Option.map_eq_some_iff] at ha
  obtain ⟨a0, ha0, rfl⟩ := ha
  obtain ⟨v, v1, v2, v3⟩ := g2 k a0 ha0
  exact ⟨v, v1, denC_rel v2, v3⟩

theorem SemK.denil {P : Program} {nt n0 n : Nat} {Q : AExit → St → Mu → Prop} {cf : Cf} {K : List Kn} {μ : Mu} {L : List (Nat × AV)} {G : List (Nat × Obj)} {y : Obj} (q : Nat) (es' : List AV) (hy : hp G q = some y) (he : y.es.map denil = es')
    (h : SemK P nt n0 Q cf K ⟨fr L, hp ((q, { y with es := es' }) :: G), n⟩ μ) : SemK P nt n0 Q cf K ⟨fr L, hp G, n⟩ μ := by
  subst he
  have hd : ∀ o x', hp ((q, { y with es := y.es.map Go.Av.denil }) :: G) o = some x' → ∃ x, hp G o = some x ∧ x'.esz = x.esz ∧ x'.solo = x.solo ∧ x'.spent = x.spent ∧ x'.es.length = x.es.length ∧ (x' = x ∨ (o = q ∧ x = y ∧ x' = { y with es := y.es.map Go.Av.denil })) := by
    intro o x' hx
    by_cases ho : o = q
    · subst ho
      rw [show hp ((o, { y with es := y.es.map Go.Av.denil }) :: G) o = some { y with es := y.es.map Go.Av.denil } by simp [hp]] at hx
      cases hx
      exact ⟨y, hy, rfl, rfl, rfl, by simp, .inr ⟨rfl, rfl, rfl⟩⟩
    · have : hp ((q, { y with es := y.es.map Go.Av.denil }) :: G) o = hp G o := by
        have hb : Nat.beq o q = false := by rw [← Bool.not_eq_true, Nat.beq_eq]; exact ho
        simp [hp, hb]
      rw [this] at hx
      exact ⟨x', hx, rfl, rfl, rfl, rfl, .inl rfl⟩
  refine SemK.sub (s' := ⟨fr L, hp ((q, { y with es := y.es.map Go.Av.denil }) :: G), n⟩) (fun c0 H0 c act μ g hm => ⟨?_, ?_⟩) h
  · refine ⟨⟨fun o x' hx => ?_, fun o o' x1 x2 h1 h2 hne hb => ?_, fun o x' hx => ?_, g.inv.lt, g.inv.base, g.inv.own, fun o x' hx => ?_⟩, fun o x' hx => ?_, g.frame, g.ok, g.size, g.defers, ?_, g.le0⟩
    · obtain ⟨x, hx0, _, _, _, _, hc⟩ := hd o x' hx
      obtain ⟨i1, i2, i3⟩ := g.inv.obj o x hx0
      rcases hc with rfl | ⟨rfl, rfl, rfl⟩
      · exact ⟨i1, i2, i3⟩
      · refine ⟨i1, denil_obj i2, fun e he a ha => ?_⟩
        obtain ⟨e0, he0, rfl⟩ := List.mem_map.1 he
        rw [denil_cells] at ha
        obtain ⟨a0, ha0, rfl⟩ := List.mem_map.1 ha
        exact denC_ok (i3 e0 he0 a0 ha0)
    · obtain ⟨y1, hy1, e1, s1, p1, l1, _⟩ := hd o x1 h1
      obtain ⟨y2, hy2, e2, s2, p2, l2, _⟩ := hd o' x2 h2
      have := g.inv.sep o o' y1 y2 hy1 hy2 hne hb
      rw [s1, p1, p2, l1, l2, e1, e2]; exact this
    · obtain ⟨x, hx0, _⟩ := hd o x' hx; exact g.inv.stab o x hx0
    · obtain ⟨x, hx0, _⟩ := hd o x' hx; exact g.inv.low o x hx0
    · obtain ⟨x, hx0, _, s1, p1, _⟩ := hd o x' hx; rw [s1, p1]; exact g.solo o x hx0
    · have r := g.reach
      exact ⟨r.rho, r.os, r.tape, r.output, r.size, r.block, r.stable, r.sa, r.so1, r.so2, r.B, fun o x' hx => by obtain ⟨x, hx0, _⟩ := hd o x' hx; exact r.own o x hx0⟩
  · exact ⟨hm.is, fun p hp => by
      obtain ⟨a1, a2, a3, a4⟩ := hm.away p hp
      exact ⟨a1, a2, fun o x' hx => by obtain ⟨x, hx0, _⟩ := hd o x' hx; exact a3 o x hx0, a4⟩, hm.nodup⟩
end Go.Av

/- A region whose order is drawn, in which the first move may come behind one later operation (a copy). -/
namespace Go.Av
open Go

def addPre (o : Oper) : Oper := { o with after := o.after.push { on := 0, ground := .data } }
def floatOps (ops : Array Oper) (c : Nat) : Array Oper := ops.modify c addPre

theorem execOp_addPre (ρ : Operand → Value) (o : Oper) : execOp ρ (addPre o) = execOp ρ o := rfl
theorem preOf_addPre (o : Oper) : ∀ j, j ∈ preOf (addPre o) ↔ j ∈ preOf o ∨ j = 0 := by
  intro j
  simp only [preOf, addPre, Array.toList_push, List.filter_append, List.map_append, List.mem_append]
  constructor
  · rintro (h | h)
    · exact .inl h
    · right
      obtain ⟨e, he, rfl⟩ := List.mem_map.1 h
      rw [List.mem_singleton.1 (List.mem_filter.1 he).1]
  · rintro (h | rfl)
    · exact .inl h
    · right
      exact List.mem_map.2 ⟨_, List.mem_filter.2 ⟨List.mem_singleton.2 rfl, rfl⟩, rfl⟩

section
variable {P : Program} {ops : Array Oper} {Q : Exit → Act → World → Prop}

/-- An operation that hands back a value does the same on two frames that it cannot tell apart. -/
theorem Oper.wp_put {o : Oper} {a a2 : Act} {w : World} {K K2 : Act → World → Prop} (hQ : (∀ ch a w, ¬ Q (.panic ch) a w) ∧ ∀ a w, ¬ Q .outgrown a w) (he : execOp a2.eval o = execOp a.eval o) (hr : ∀ n w', (execOp a.eval o).run P w = .ok n w' → ∃ v, n = .value v) (hK : ∀ v w', K (a2.put o.dst v) w' → K2 (a.put o.dst v) w')
    (hh : o.wp P a2 w K Q) : o.wp P a w K2 Q := by
  unfold Oper.wp at *
  rw [he] at hh
  generalize (execOp a.eval o).run P w = r at *
  cases r with
  | ok n w' =>
    obtain ⟨v, rfl⟩ := hr n w' rfl
    simp only [Oper.upon] at hh ⊢
    exact hK _ _ hh
  | halt x w' => cases x <;> simp only [Oper.upon] at hh ⊢ <;> first | exact hh | exact absurd hh (hQ.1 _ _ _) | exact absurd hh (hQ.2 _ _)
theorem wp_addPre {o : Oper} {a : Act} {w : World} {K : Act → World → Prop} (h : (addPre o).wp P a w K Q) : o.wp P a w K Q := h

theorem wpOp_wp {i : Nat} {o : Oper} {K : Act → World → Prop} {a : Act} {w : World} (hQ : (∀ ch a w, ¬ Q (.panic ch) a w) ∧ ∀ a w, ¬ Q .outgrown a w) (ho : ops[i]? = some o) (hg : o.guard = none) (h : wpOp P ops Q i K a w) : o.wp P a w K Q := by
  unfold wpOp at h; rw [ho] at h; simp only at h
  rw [if_pos (by simp [Region.wanted, hg])] at h
  rcases h with h | ⟨_, a0, w0, h⟩
  · exact h
  · exact absurd h (hQ.2 _ _)
theorem wpOp_of {i : Nat} {o : Oper} {K : Act → World → Prop} {a : Act} {w : World} (ho : ops[i]? = some o) (hg : o.guard = none) (h : o.wp P a w K Q) : wpOp P ops Q i K a w := by
  unfold wpOp; rw [ho]; simp only
  rw [if_pos (by simp [Region.wanted, hg])]
  exact .inl h

theorem float_at {c : Nat} {oc : Oper} (hc : ops[c]? = some oc) (i : Nat) : (floatOps ops c)[i]? = if i = c then some (addPre oc) else ops[i]? := by
  unfold floatOps
  rw [Array.getElem?_modify]
  by_cases h : i = c
  · subst h; simp [hc]
  · rw [if_neg (fun e => h e.symm), if_neg h]

theorem actPutC (a : Act) {d d' : Nat} (v v' : Value) (h : d ≠ d') : (a.put (some d) v).put (some d') v' = (a.put (some d') v').put (some d) v := by
  simp only [Act.put]
  rw [Array.setIfInBounds_comm _ _ (by exact h)]

/-- The first operation is a move that may come behind operation c: it may as well come before it. -/
theorem wpAny_float {c d0 dc src : Nat} {o0 oc : Oper} (hQ : (∀ ch a w, ¬ Q (.panic ch) a w) ∧ ∀ a w, ¬ Q .outgrown a w) (hpre : preLt 0 ops.toList = true)
    (h0 : ops[0]? = some o0) (hop : o0.op = .move (.tmp src)) (hg0 : o0.guard = none) (hd0 : o0.dst = some d0) (hp0 : preOf o0 = []) (hc : ops[c]? = some oc) (hc0 : c ≠ 0) (hgc : oc.guard = none) (hdc : oc.dst = some dc) (hne : dc ≠ d0) (hns : dc ≠ src)
    (hg : ∀ (i : Nat) (o : Oper), ops[i]? = some o → o.guard = none) (hres : ∀ (a : Act) w n w', (execOp a.eval oc).run P w = .ok n w' → ∃ v, n = .value v)
    (hex : ∀ (a : Act) v, execOp (a.put (some d0) v).eval oc = execOp a.eval oc)
    (hall : ∀ i, i < ops.size → i ≠ 0 → i ≠ c → ((masks ops.toList).getD c 0).testBit i = true ∨ ((masks ops.toList).getD i 0).testBit 0 = true) :
    ∀ (f : Nat) (L : Array Bool) (a : Act) (w : World), L.size = ops.size → ClosedL ops L → wpAny P .any (floatOps ops c) Q f L a w → wpAny P .any ops Q f L a w := by
  have hsz' : (floatOps ops c).size = ops.size := by simp [floatOps]
  have hlt0 : 0 < ops.size := (Array.getElem?_eq_some_iff.1 h0).1
  have hltc : c < ops.size := (Array.getElem?_eq_some_iff.1 hc).1
  have h0' : (floatOps ops c)[0]? = some o0 := by rw [float_at hc, if_neg (Ne.symm hc0)]; exact h0
  have hc' : (floatOps ops c)[c]? = some (addPre oc) := by rw [float_at hc, if_pos rfl]
  -- what is ready
  have rd : ∀ (L : Array Bool) i, L.size = ops.size → i ∈ Region.ready .any ops L → (i = c → L.getD 0 false = true) → i ∈ Region.ready .any (floatOps ops c) L := by
    intro L i hL hi hic
    have hio := (ready_mem.1 hi).1
    have ho : ops.toList[i]? = some ops[i] := by simp [hio]
    have hnl : L.getD i false = false := by
      have h1 := (ready_mem.1 hi).2.1
      have hil : i < L.size := by omega
      simp only [Array.getD_eq_getD_getElem?, Array.getElem?_eq_getElem hil, Option.getD_some] at h1 ⊢
      exact h1
    have hp := ready_pre hi ho
    by_cases h : i = c
    · subst h
      refine mem_ready (o := addPre oc) (by omega) (by simpa using hc') hnl fun j hj => ?_
      rcases (preOf_addPre oc j).1 hj with h1 | rfl
      · have : ops[i] = oc := by have := hc; rw [Array.getElem?_eq_getElem hio] at this; exact Option.some.inj this
        rw [this] at hp; exact hp j h1
      · exact hic rfl
    · refine mem_ready (o := ops[i]) (by omega) ?_ hnl hp
      have := float_at hc i
      rw [if_neg h] at this
      simpa [hio] using this
  have rd0 : ∀ (L : Array Bool), L.size = ops.size → L.getD 0 false = false → 0 ∈ Region.ready .any ops L ∧ 0 ∈ Region.ready .any (floatOps ops c) L := by
    intro L hL hl
    have h1 : 0 ∈ Region.ready .any ops L := mem_ready (o := o0) hL (by simpa using h0) hl (fun j hj => by rw [hp0] at hj; cases hj)
    exact ⟨h1, rd L 0 hL h1 (fun e => absurd e.symm hc0)⟩
  have hmove : ∀ (a : Act) (w : World), (execOp a.eval o0).run P w = .ok (.value (a.eval (.tmp src))) w := by
    intro a w
    obtain ⟨dst, op, type, pos, after, guard⟩ := o0
    simp only at hop
    subst hop
    simp [execOp]
  have mv : ∀ (opsx : Array Oper) (K : Act → World → Prop) (a : Act) (w : World), opsx[0]? = some o0 → (wpOp P opsx Q 0 K a w ↔ K (a.put (some d0) (a.eval (.tmp src))) w) := by
    intro opsx K a w hx
    constructor
    · intro h
      have h1 := wpOp_wp hQ hx hg0 h
      unfold Oper.wp at h1
      rw [hmove] at h1
      have h2 : K (a.put o0.dst (a.eval (.tmp src))) w := h1
      rwa [hd0] at h2
    · intro h
      refine wpOp_of hx hg0 ?_
      unfold Oper.wp
      rw [hmove]
      show K (a.put o0.dst (a.eval (.tmp src))) w
      rw [hd0]; exact h
  have hcl : ∀ (L : Array Bool) i, L.size = ops.size → ClosedL ops L → i ∈ Region.ready .any ops L → ClosedL ops (L.setIfInBounds i true) := by
    intro L i hL hC hi k o ho hk q hq
    have hio := (ready_mem.1 hi).1
    rw [getD_set_list (by omega)] at hk ⊢
    rcases Bool.or_eq_true_iff.1 hk with hk | hk
    · rw [hC k o ho hk q hq]; rfl
    · have : k = i := by simpa using hk
      subst this
      rw [ready_pre hi ho q hq]; rfl
  intro f
  induction f using Nat.strongRecOn with
  | _ f ih =>
    intro L a w hL hC h
    cases f with
    | zero =>
      obtain ⟨h1, h2⟩ := h
      refine ⟨?_, h2⟩
      rw [List.eq_nil_iff_forall_not_mem]
      intro i hi
      cases hl0 : L.getD 0 false with
      | true => have := rd L i hL hi (fun _ => hl0); rw [h1] at this; cases this
      | false => have := (rd0 L hL hl0).2; rw [h1] at this; cases this
    | succ f =>
      obtain ⟨h1, h2⟩ := h
      refine ⟨fun hr => h1 ?_, fun i hi => ?_⟩
      · rw [List.eq_nil_iff_forall_not_mem]
        intro i hi
        -- what is ready there is ready here
        have hio := (ready_mem.1 hi).1
        have hnl : L.getD i false = false := by
          have h3 := (ready_mem.1 hi).2.1
          have hil : i < L.size := by omega
          simp only [Array.getD_eq_getD_getElem?, Array.getElem?_eq_getElem hil, Option.getD_some] at h3 ⊢
          exact h3
        have : i ∈ Region.ready .any ops L := by
          by_cases hic : i = c
          · subst hic
            refine mem_ready (o := oc) hL (by simpa using hc) hnl fun j hj => ?_
            exact ready_pre hi (by simpa using hc') j ((preOf_addPre oc j).2 (.inl hj))
          · have hx := float_at hc i
            rw [if_neg hic] at hx
            have hlt : i < ops.size := by omega
            refine mem_ready (o := ops[i]) hL (by simp [hlt]) hnl fun j hj => ?_
            exact ready_pre hi (o := ops[i]) (by rw [Array.getElem?_toList, hx]; simp [hlt]) j hj
        rw [hr] at this; cases this
      · have hio := (ready_mem.1 hi).1
        by_cases hs : i = c ∧ L.getD 0 false = false
        · obtain ⟨rfl, hl0⟩ := hs
          obtain ⟨_, r0⟩ := rd0 L hL hl0
          have s1 := (mv _ _ a w h0').1 (h2 0 r0)
          -- the copy behind the move
          have hL0 : (L.setIfInBounds 0 true).size = ops.size := by simpa using hL
          have hi0 : i ∈ Region.ready .any (floatOps ops i) (L.setIfInBounds 0 true) := by
            have ho : ops.toList[i]? = some oc := by simpa using hc
            refine mem_ready (o := addPre oc) (by omega) (by simpa using hc') ?_ fun j hj => ?_
            · rw [getD_set_list (by omega)]
              have h3 := (ready_mem.1 hi).2.1
              have hil : i < L.size := by omega
              simp only [Array.getD_eq_getD_getElem?, Array.getElem?_eq_getElem hil, Option.getD_some] at h3 ⊢
              have hb : Nat.beq i 0 = false := by rw [← Bool.not_eq_true, Nat.beq_eq]; exact hc0
              rw [h3, hb]; rfl
            · rw [getD_set_list (by omega)]
              rcases (preOf_addPre oc j).1 hj with h3 | rfl
              · rw [ready_pre hi ho j h3]; rfl
              · simp
          cases f with
          | zero => exact absurd hi0 (by rw [s1.1]; exact fun h => by cases h)
          | succ f =>
            have s2 := wpOp_wp hQ hc' (by exact hgc) (s1.2 i hi0)
            refine wpOp_of hc hgc (Oper.wp_put hQ (a2 := a.put (some d0) (a.eval (.tmp src))) (hex _ _) (hres a w) (fun v w' hk => ?_) (wp_addPre s2))
            rw [hdc] at hk ⊢
            -- now the move alone is ready
            have hLi : (L.setIfInBounds i true).size = ops.size := by simpa using hL
            have hCi := hcl L i hL hC hi
            have hl0i : (L.setIfInBounds i true).getD 0 false = false := by
              have hb : Nat.beq 0 i = false := by rw [← Bool.not_eq_true, Nat.beq_eq]; exact Ne.symm hc0
              rw [getD_set_list (by omega), hl0, hb]; rfl
            refine ⟨fun hr => (by have := (rd0 _ hLi hl0i).1; rw [hr] at this; cases this), fun k hk2 => ?_⟩
            have hk0 : k = 0 := by
              refine Classical.byContradiction fun hk0 => ?_
              have hks := (ready_mem.1 hk2).1
              have hki : k ≠ i := by
                rintro rfl
                have h3 := (ready_mem.1 hk2).2.1
                have hil : k < L.size := by omega
                simp [Array.getD_eq_getD_getElem?, hil] at h3
              rcases hall k hks hk0 hki with h3 | h3
              · have h4 := ready_all hpre hC hi h3
                have h5 := (ready_mem.1 hk2).2.1
                have hkl : k < L.size := by omega
                rw [Array.getD_eq_getD_getElem?, Array.getElem?_setIfInBounds_ne (fun e => hki e.symm), Array.getElem?_eq_getElem hkl] at h5
                rw [Array.getD_eq_getD_getElem?, Array.getElem?_eq_getElem hkl] at h4
                simp only [Option.getD_some] at h4 h5
                rw [h4] at h5; cases h5
              · have h4 := ready_all hpre hCi hk2 h3
                rw [hl0i] at h4; cases h4
            subst hk0
            refine (mv _ _ _ _ h0).2 ?_
            have hev : (a.put (some dc) v).eval (.tmp src) = a.eval (.tmp src) := by
              simp [Act.put, Act.eval, Array.getD_eq_getD_getElem?, Array.getElem?_setIfInBounds_ne hns]
            rw [hev, actPutC _ _ _ hne]
            have hco : (L.setIfInBounds i true).setIfInBounds 0 true = (L.setIfInBounds 0 true).setIfInBounds i true := by rw [Array.setIfInBounds_comm _ _ hc0]
            rw [hco]
            refine ih f (by omega) _ _ _ (by simpa using hL) ?_ hk
            rw [← hco]
            exact hcl _ 0 hLi hCi (rd0 _ hLi hl0i).1
        · have hr' := rd L i hL hi (fun e => by
            cases hl0 : L.getD 0 false with
            | true => rfl
            | false => exact absurd ⟨e, hl0⟩ hs)
          have h3 := h2 i hr'
          have hgo : ops[i].guard = none := hg i _ (by simp [hio])
          have hLi : (L.setIfInBounds i true).size = ops.size := by simpa using hL
          have hio' : ops[i]? = some ops[i] := by simp [hio]
          by_cases hic : i = c
          · subst hic
            have hoc : ops[i] = oc := by rw [hio'] at hc; exact Option.some.inj hc
            refine wpOp_of hc hgc (Oper.wp_mono (fun v w' hk => ih f (by omega) _ _ _ hLi (hcl L i hL hC hi) hk) (wp_addPre (wpOp_wp hQ hc' (by exact hgc) h3)))
          · have hx := float_at hc i
            rw [if_neg hic, hio'] at hx
            refine wpOp_of hio' hgo (Oper.wp_mono (fun v w' hk => ih f (by omega) _ _ _ hLi (hcl L i hL hC hi) hk) (wpOp_wp hQ hx hgo h3))
end

theorem MQ_no {nt n0 : Nat} {c0 : Ctx} {H0 : Heap} {Q : AExit → St → Mu → Prop} : (∀ ch a w, ¬ MQ nt c0 H0 n0 Q (.panic ch) a w) ∧ ∀ a w, ¬ MQ nt c0 H0 n0 Q .outgrown a w := by
  constructor
  · rintro ch a w ⟨c, s, ae, μ, _, _, _, h, _⟩; cases ae <;> cases h
  · rintro a w ⟨c, s, ae, μ, _, _, _, h, _⟩; cases ae <;> cases h

theorem any_cut {P : Program} {T : Ty} {nt n0 j n : Nat} {ops : Array Oper} {L L' : List (Nat × AV)} {G G' : List (Nat × Obj)} {Q : AExit → St → Mu → Prop} {μ : Mu} (hT : TyOk P T ∧ P.follows .mixedOrders = true) (hpre : preLt 0 ops.toList = true)
    (hjl : Nat.ble j ops.size = true) (hbar : barOk j ops.toList = true) (hgd : guardsLt (ops.toList.take j) = true) (hs : List Hint) {hs' : List Hint} {ps' : List Prop}
    (h : drawS P T nt n ⟨ops.toList.take j⟩ (masks (ops.toList.take j)) ((masks (ops.toList.take j)).zip ((ops.toList.take j).map fun o => heapFree o.op)) 0 (ops.toList.take j) L G [] hs [] = some (L', G', hs', ps')) (hp' : allP ps')
    (k : SemLM P nt n0 ops (ops.toList.drop j) (fun s μ => Q .normal s μ) ⟨fr L', hp G', n + j⟩ μ) : ∀ (c0 : Ctx) (HH : Heap) (c : Ctx) (act : Act), Good nt c0 HH n0 c ⟨fr L, hp G, n⟩ act → MOk c0 c (hp G) μ → wpAny P .any ops (MQ nt c0 HH n0 Q) ops.size (Array.replicate ops.size false) act { c.w with drawn := c.w.drawn + 1 } := by
  have hjl' : j ≤ ops.size := by simpa using hjl
  obtain ⟨_, hrun⟩ := drawS_ok _ _ _ _ _ _ _ _ _ _ _ h hp'
  obtain ⟨rs, hall, hA, hH⟩ := hrun.all (fr L) (hp G) [] (Nat.zero_le _) rfl rfl rfl rfl rfl (fun k o r _ hr => by simp at hr)
  have hpl : preLt 0 (ops.toList.take j) = true := by
    have key : ∀ (l : List Oper) (i k : Nat), preLt i l = true → preLt i (l.take k) = true := by
      intro l
      induction l with
      | nil => intro i k _; simp [preLt]
      | cons a l ih =>
        intro i k h
        cases k with
        | zero => rfl
        | succ k =>
          simp only [preLt, Bool.and_eq_true, List.take_succ_cons] at h ⊢
          exact ⟨h.1, ih _ _ h.2⟩
    exact key _ _ _ hpre
  have hlenp : (ops.toList.take j).length = j := by rw [List.length_take, Array.length_toList]; omega
  intro c0 HH c act g0 hm
  have g := g0.rebase.drew
  have hz : ∀ m k, (Array.replicate m false).getD k false = false := by
    intro m k
    simp only [Array.getD_eq_getD_getElem?, Array.getElem?_replicate]
    split <;> rfl
  have hfn : ∀ m, (fun k => (Array.replicate m false).getD k false) = (fun _ => false) := fun m => funext (hz m)
  have hM : ∀ q, q < n → AtS n (fun _ => false) q := fun q h => .inl h
  have hdg := drawn_go (n0 := n0) (Q := fun e s => e = .normal ∧ s = ⟨fr L', hp G', n + j⟩) hT.1 (ops := ⟨ops.toList.take j⟩) hpl hall ⟨rfl, by rw [hA, hH]; congr 1; simp only [hlenp]⟩ (c0 := c) (HH := hp G) g.le0 j (Array.replicate j false) (List.range j)
    { c with w := { c.w with drawn := c.w.drawn + 1 } } act (by simp [hlenp]) (by simp) (fun k hk _ => List.mem_range.2 (by simpa [hlenp] using hk)) (fun i o _ h => by rw [hz] at h; cases h) (by
      rw [hfn, foldS_none, foldS_none]
      exact ⟨g.inv.more hM, g.solo, g.frame, fun t => (g.ok t).mono hM, g.size, g.defers, g.reach, fun q hq => hM q (Nat.lt_of_lt_of_le hq g.le0)⟩)
  have := wpAny_cut (Q := MQ nt c0 HH n0 Q) (pre := ⟨ops.toList.take j⟩) (R := CQ nt c (hp G) n0 (fun e s => e = .normal ∧ s = ⟨fr L', hp G', n + j⟩)) (j := j) rfl hjl' hpre hbar hgd
    (by rintro e a w hne ⟨c', s', ae, _, _, rfl, rfl, _⟩; exact absurd rfl hne) (ops.size - j) (by
      rintro listed a w hsz hl ⟨c', s', ae, rfl, g', _, rfl, rfl⟩
      refine wpAny_end hpre hbar (ops.size - j) j listed a c'.w hsz (Nat.le_refl _) (by omega) hl ?_
      exact k c0 HH c' a (.join g0.reach g') (hm.kept g'.reach) _ fun c2 s2 a2 μ2 g2 hm2 hq => ⟨c2, s2, .normal, μ2, rfl, g2, hm2, rfl, hq⟩)
    j (Array.replicate j false) (Array.replicate ops.size false) act { c.w with drawn := c.w.drawn + 1 } (by simp [hlenp]) (by simp) (fun k => by rw [hz, hz]; rfl) (fun i o _ h => by rw [hz] at h; cases h) hdg
  rwa [show j + (ops.size - j) = ops.size by omega] at this

/-- The first j operations in any order, and then the end in the order of the text; the first move may come behind the copy at place j. -/
theorem SemM.drawnCutF {P : Program} {T : Ty} {nt n0 id j n : Nat} {ops0 : Array Oper} {L L' : List (Nat × AV)} {G G' : List (Nat × Obj)} {Q : AExit → St → Mu → Prop} {μ : Mu} (hT : TyOk P T ∧ P.follows .mixedOrders = true)
    {d0 dc src x y : Nat} {o0 oc : Oper} {ts : Array TypeId} (hpre0 : preLt 0 ops0.toList = true) (h0 : ops0[0]? = some o0) (hop : o0.op = .move (.tmp src)) (hg0 : o0.guard = none) (hd0 : o0.dst = some d0) (hp0 : preOf o0 = [])
    (hc : ops0[j]? = some oc) (hc0 : j ≠ 0) (hoc : oc.op = .call { callee := .builtin .copy, args := #[.tmp x, .tmp y], argTypes := ts }) (hgc : oc.guard = none) (hdc : oc.dst = some dc) (hne : dc ≠ d0) (hns : dc ≠ src) (hx0 : x ≠ d0) (hy0 : y ≠ d0)
    (hgs' : (ops0.toList.all fun o => o.guard.isNone) = true) (hall' : ((List.range ops0.size).all fun i => Nat.beq i 0 || Nat.beq i j || ((masks ops0.toList).getD j 0).testBit i || ((masks ops0.toList).getD i 0).testBit 0) = true)
    (hpre : preLt 0 (floatOps ops0 j).toList = true)
    (hjl : Nat.ble j (floatOps ops0 j).size = true) (hbar : barOk j (floatOps ops0 j).toList = true) (hgd : guardsLt ((floatOps ops0 j).toList.take j) = true) (hs : List Hint) {hs' : List Hint} {ps' : List Prop}
    (h : drawS P T nt n ⟨(floatOps ops0 j).toList.take j⟩ (masks ((floatOps ops0 j).toList.take j)) ((masks ((floatOps ops0 j).toList.take j)).zip (((floatOps ops0 j).toList.take j).map fun o => heapFree o.op)) 0 ((floatOps ops0 j).toList.take j) L G [] hs [] = some (L', G', hs', ps')) (hp' : allP ps')
    (k : SemLM P nt n0 (floatOps ops0 j) ((floatOps ops0 j).toList.drop j) (fun s μ => Q .normal s μ) ⟨fr L', hp G', n + j⟩ μ) : SemM P nt n0 (.region id ops0 true) Q ⟨fr L, hp G, n⟩ μ := by
  have hgs : ∀ (i : Nat) (o : Oper), ops0[i]? = some o → o.guard = none := fun i o ho => by
    have := List.all_eq_true.1 hgs' o (List.mem_of_getElem? (i := i) (by simpa using ho))
    simpa using this
  have hall : ∀ i, i < ops0.size → i ≠ 0 → i ≠ j → ((masks ops0.toList).getD j 0).testBit i = true ∨ ((masks ops0.toList).getD i 0).testBit 0 = true := fun i hi h1 h2 => by
    have := List.all_eq_true.1 hall' i (List.mem_range.2 hi)
    simp only [Bool.or_eq_true, Nat.beq_eq] at this
    rcases this with ((h3 | h3) | h3) | h3
    · exact absurd h3 h1
    · exact absurd h3 h2
    · exact .inl h3
    · exact .inr h3
  have hex : ∀ (a : Act) v, execOp (a.put (some d0) v).eval oc = execOp a.eval oc := fun a v => by
    obtain ⟨dst, op, type, pos, after, guard⟩ := oc
    simp only at hoc
    subst hoc
    have e1 : (a.put (some d0) v).eval (.tmp x) = a.eval (.tmp x) := by simp [Act.put, Act.eval, Array.getD_eq_getD_getElem?, Array.getElem?_setIfInBounds_ne (Ne.symm hx0)]
    have e2 : (a.put (some d0) v).eval (.tmp y) = a.eval (.tmp y) := by simp [Act.put, Act.eval, Array.getD_eq_getD_getElem?, Array.getElem?_setIfInBounds_ne (Ne.symm hy0)]
    simp [execOp, resolve, e1, e2]
  have hres : ∀ (a : Act) w n w', (execOp a.eval oc).run P w = .ok n w' → ∃ v, n = .value v := fun a w n w' hr => by
    obtain ⟨dst, op, type, pos, after, guard⟩ := oc
    simp only at hoc
    subst hoc
    simp [execOp, resolve, invoke, builtin] at hr
    cases hq : Sem.run P (Builtin.copy_ ts type #[a.eval (.tmp x), a.eval (.tmp y)]) w with
    | ok v w2 => rw [hq] at hr; simp at hr; exact ⟨v, hr.1.symm⟩
    | halt e w2 => rw [hq] at hr; simp [Result.andThen] at hr
  intro c0 HH c act g hm
  refine wp_region_any hT.2 ?_
  refine wpAny_float (ops := ops0) (c := j) MQ_no hpre0 h0 hop hg0 hd0 hp0 hc hc0 hgc hdc hne hns hgs hres hex hall ops0.size (Array.replicate ops0.size false) act _ (by simp) (fun i o _ hi => by
    simp only [Array.getD_eq_getD_getElem?, Array.getElem?_replicate] at hi
    split at hi <;> cases hi) ?_
  have := any_cut (L := L) (G := G) (n := n) hT hpre hjl hbar hgd hs h hp' k c0 HH c act g hm
  rwa [show (floatOps ops0 j).size = ops0.size by simp [floatOps]] at this

theorem SemK.drawnCutF {P : Program} {T : Ty} {nt n0 id n : Nat} {ops0 : Array Oper} {L L' : List (Nat × AV)} {G G' : List (Nat × Obj)} {K : List Kn} {Q : AExit → St → Mu → Prop} {μ : Mu} (j : Nat) (hT : TyOk P T ∧ P.follows .mixedOrders = true) (hs : List Hint) {hs' : List Hint} {ps' : List Prop}
    {d0 dc src x y : Nat} {o0 oc : Oper} {ts : Array TypeId} (hpre0 : preLt 0 ops0.toList = true) (h0 : ops0[0]? = some o0) (hop : o0.op = .move (.tmp src)) (hg0 : o0.guard = none) (hd0 : o0.dst = some d0) (hp0 : preOf o0 = [])
    (hc : ops0[j]? = some oc) (hc0 : j ≠ 0) (hoc : oc.op = .call { callee := .builtin .copy, args := #[.tmp x, .tmp y], argTypes := ts }) (hgc : oc.guard = none) (hdc : oc.dst = some dc) (hne : dc ≠ d0) (hns : dc ≠ src) (hx0 : x ≠ d0) (hy0 : y ≠ d0)
    (hgs' : (ops0.toList.all fun o => o.guard.isNone) = true) (hall' : ((List.range ops0.size).all fun i => Nat.beq i 0 || Nat.beq i j || ((masks ops0.toList).getD j 0).testBit i || ((masks ops0.toList).getD i 0).testBit 0) = true)
    (hpre : preLt 0 (floatOps ops0 j).toList = true)
    (hjl : Nat.ble j (floatOps ops0 j).size = true) (hbar : barOk j (floatOps ops0 j).toList = true) (hgd : guardsLt ((floatOps ops0 j).toList.take j) = true)
    (h : drawS P T nt n ⟨(floatOps ops0 j).toList.take j⟩ (masks ((floatOps ops0 j).toList.take j)) ((masks ((floatOps ops0 j).toList.take j)).zip (((floatOps ops0 j).toList.take j).map fun o => heapFree o.op)) 0 ((floatOps ops0 j).toList.take j) L G [] hs [] = some (L', G', hs', ps')) (hp' : allP ps')
    (k : SemK P nt n0 Q (.ops (floatOps ops0 j) ((floatOps ops0 j).toList.drop j)) K ⟨fr L', hp G', n + j⟩ μ) : SemK P nt n0 Q (.code (.region id ops0 true)) K ⟨fr L, hp G, n⟩ μ :=
  SemM.drawnCutF hT hpre0 h0 hop hg0 hd0 hp0 hc hc0 hoc hgc hdc hne hns hx0 hy0 hgs' hall' hpre hjl hbar hgd hs h hp' k
end Go.Av

/- Tables of types and of functions. -/
namespace Go.Av

inductive Tab (V : Type) where
  | leaf
  | node (k : Nat) (v : V) (l r : Tab V)

noncomputable def Tab.find {V : Type} (t : Tab V) : Nat → Option V :=
  Tab.rec (motive := fun _ => Nat → Option V) (fun _ => none) (fun k v _ _ ihl ihr n => bif Nat.beq n k then some v else bif Nat.blt n k then ihl n else ihr n) t
theorem Tab.find_node {V : Type} (k : Nat) (v : V) (l r : Tab V) (t : Nat) : (Tab.node k v l r).find t = bif Nat.beq t k then some v else bif Nat.blt t k then l.find t else r.find t := rfl

def Tab.All {V : Type} (p : Nat → V → Prop) : Tab V → Prop
  | .leaf => True
  | .node k v l r => p k v ∧ l.All p ∧ r.All p

theorem Tab.find_all {V : Type} {p : Nat → V → Prop} : ∀ (t : Tab V), t.All p → ∀ k v, t.find k = some v → p k v := by
  intro t
  induction t with
  | leaf => intro _ k v h; cases h
  | node k' v' l r ihl ihr =>
    intro h k v hf
    obtain ⟨h1, h2, h3⟩ := h
    rw [Tab.find_node] at hf
    cases hb : Nat.beq k k' with
    | true =>
      rw [hb, cond_true] at hf
      cases hf
      have : k = k' := Nat.eq_of_beq_eq_true hb
      subst this; exact h1
    | false =>
      rw [hb, cond_false] at hf
      cases hlt : Nat.blt k k' with
      | true => rw [hlt, cond_true] at hf; exact ihl h2 k v hf
      | false => rw [hlt, cond_false] at hf; exact ihr h3 k v hf

theorem tyOk_tab {P : Program} {t : Tab TI} (h : t.All (TiOk P)) : TyOk P t.find := fun k v hf => t.find_all h k v hf

theorem tiOk {P : Program} {t : Nat} {i : TypeInfo} {d : TypeDesc} {z : Value} (hi : P.info? t = some i) (hd : P.underlying t = some d) (hz : i.zero = some z)
    (hw : ((ofConst z).whole && Nat.beq (ofConst z).cells.length i.size) = true) : TiOk P t ⟨kindOf d, i.size, i.bytes, z, false⟩ := by
  simp only [Bool.and_eq_true] at hw
  exact ⟨⟨i, d, hi, hd, hz, rfl, rfl, rfl⟩, ⟨hw.1, Nat.eq_of_beq_eq_true hw.2⟩, fun h => by cases h⟩

theorem tiOkE {P : Program} {t : Nat} {i : TypeInfo} {d : TypeDesc} {z : Value} (hi : P.info? t = some i) (hd : P.underlying t = some d) (hz : i.zero = some z)
    (hw : ((ofConst z).whole && Nat.beq (ofConst z).cells.length i.size) = true) (h1 : P.stoodInHeld t = false) (h2 : P.eqGuardType P.depth t = false)
    (h3 : (match d with | .struct fs => fs.toList.all (fun f => !(f.name == "_")) | _ => true) = true) : TiOk P t ⟨kindOf d, i.size, i.bytes, z, true⟩ := by
  simp only [Bool.and_eq_true] at hw
  refine ⟨⟨i, d, hi, hd, hz, rfl, rfl, rfl⟩, ⟨hw.1, Nat.eq_of_beq_eq_true hw.2⟩, fun _ => ⟨h1, h2, fun fs hfs f hf => ?_⟩⟩
  rw [hd] at hfs
  cases hfs
  have := List.all_eq_true.1 h3 f (by simpa using hf)
  simpa using this

def bodyOf (fn : Func) : Code := fn.body.getD .skip

theorem envOk_tab {P : Program} {t : Tab (Func × Code)} (h : t.All (fun k v => FnOk P k v.1 v.2)) : EnvOk P t.find := fun k fn code hf => t.find_all h k (fn, code) hf
end Go.Av

