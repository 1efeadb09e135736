/- Symbolic runs: code. -/
import Derived.Test.YtioookhnoobpgaaAvSym2
import Derived.Test.YtioookhnoobpgaaAvDraw4
namespace Go.Av

/-- A loop, at the beginning of a round. -/
def LoopWp (P : Program) (c : Code) (Q : Exit → Act → World → Prop) (a : Act) (w : World) : Prop :=
  ∀ b k cs, ∃ e a' w', Q e a' w' ∧ Arrives P (lone (b.at a (.code c :: .inLoop c :: k)) cs w) b k cs e a' w'

theorem LoopWp.start {P : Program} {c : Code} {Q : Exit → Act → World → Prop} {a : Act} {w : World} (h : LoopWp P c Q a w) : (Code.loop c).wp P Q a w := by
  intro b k cs
  obtain ⟨e, a', w', hq, harr⟩ := h b k cs
  exact ⟨e, a', w', hq, .of_steps (.one step_loop) harr⟩

theorem LoopWp.round {P : Program} {c : Code} {Q : Exit → Act → World → Prop} {a : Act} {w : World} (h : c.wp P (Exit.then (LoopWp P c Q) Q) a w) : LoopWp P c Q a w := by
  intro b k cs
  obtain ⟨e, a₁, w₁, hq, harr⟩ := h b (.inLoop c :: k) cs
  cases e with
  | normal =>
    obtain ⟨e₂, a₂, w₂, hq₂, harr₂⟩ := hq b k cs
    exact ⟨e₂, a₂, w₂, hq₂, .of_steps (Steps.trans harr (.one step_inLoop)) harr₂⟩
  | exit id => exact ⟨_, a₁, w₁, hq, .pass (x := .inLoop c) rfl (fun _ _ => .inl (by simp)) harr⟩
  | goto l => exact ⟨_, a₁, w₁, hq, .pass (x := .inLoop c) rfl (fun _ _ => .inl (by simp)) harr⟩
  | ret => exact ⟨_, a₁, w₁, hq, .pass (x := .inLoop c) rfl (fun _ _ => .inl (by simp)) harr⟩
  | panic ch => exact ⟨_, a₁, w₁, hq, .pass (x := .inLoop c) rfl (fun _ _ => .inl (by simp)) harr⟩
  | outgrown => exact ⟨_, a₁, w₁, hq, .pass (x := .inLoop c) rfl (fun _ _ => .inl (by simp)) harr⟩

def SemLoop (P : Program) (nt n0 : Nat) (b : Code) (Q : AExit → St → Mu → Prop) (s : St) (μ : Mu) : Prop :=
  ∀ (c0 : Ctx) (H0 : Heap) (c : Ctx) (act : Act), Good nt c0 H0 n0 c s act → MOk c0 c s.H μ → LoopWp P b (MQ nt c0 H0 n0 Q) act c.w

def rndM (P : Program) (nt n0 : Nat) (b : Code) (Q : AExit → St → Mu → Prop) : AExit → St → Mu → Prop
  | .normal, s, μ => SemLoop P nt n0 b Q s μ
  | e, s, μ => Q e s μ

theorem SemM.loop {P : Program} {nt n0 : Nat} {b : Code} {Q : AExit → St → Mu → Prop} {s : St} {μ : Mu} (h : SemLoop P nt n0 b Q s μ) : SemM P nt n0 (.loop b) Q s μ :=
  fun c0 H0 c act g hm => (h c0 H0 c act g hm).start

theorem SemLoop.round {P : Program} {nt n0 : Nat} {b : Code} {Q : AExit → St → Mu → Prop} {s : St} {μ : Mu} (h : SemM P nt n0 b (rndM P nt n0 b Q) s μ) : SemLoop P nt n0 b Q s μ := by
  intro c0 H0 c act g hm
  refine LoopWp.round (Code.wp_mono ?_ (h c0 H0 c act g hm))
  rintro e a w ⟨c', s', ae, μ', rfl, g', hm', rfl, hq⟩
  cases ae with
  | normal => exact hq c0 H0 c' a g' hm'
  | exit id => exact ⟨c', s', .exit id, μ', rfl, g', hm', rfl, hq⟩
  | ret => exact ⟨c', s', .ret, μ', rfl, g', hm', rfl, hq⟩

section
variable {P : Program} {nt n0 : Nat} {s : St} {μ : Mu} {ops : Array Oper} {l : List Oper} {o : Oper} {K : St → Mu → Prop}

theorem SemLM.nil (h : K s μ) : SemLM P nt n0 ops [] K s μ := fun _ _ c act g hm Qx hQ => hQ c s act μ g hm h

theorem SemLM.step {R : AV → Heap → Nat → Prop} (hw : ∀ (c0 c : Ctx) (H0 : Heap) (act : Act), Good nt c0 H0 n0 c s act → Region.wanted o (yielded ops act.tmps) = true) (hd : ∀ d, o.dst = some d → d < nt) (h : OpR P nt o s R)
    (hn : ∀ a H' n', R a H' n' → SemLM P nt n0 ops l K ⟨updO s.A o.dst a, H', n'⟩ μ) : SemLM P nt n0 ops (o :: l) K s μ := by
  intro c0 H0 c act g hm Qx hQ
  refine wpList_step fun K' hK' => ?_
  rw [if_pos (hw c0 c H0 act g)]
  refine h c s.H n0 c act g.rebase K' Qx fun c' a H' n' v hR hgood => ?_
  have g2 := hgood o.dst hd
  exact hK' _ _ (hn a H' n' hR c0 H0 c' _ (.join g.reach g2) (hm.kept g2.reach) Qx hQ)

theorem SemLM.plain {R : AV → Heap → Nat → Prop} (hg : o.guard = none) (hd : ∀ d, o.dst = some d → d < nt) (h : OpR P nt o s R)
    (hn : ∀ a H' n', R a H' n' → SemLM P nt n0 ops l K ⟨updO s.A o.dst a, H', n'⟩ μ) : SemLM P nt n0 ops (o :: l) K s μ :=
  SemLM.step (fun _ _ _ _ _ => by simp [Region.wanted, hg]) hd h hn

def gdS (want : Bool) : AV → Option Bool
  | .sc (.bool b) => match want with
    | true => some b
    | false => some (!b)
  | .cond g (.sc (.bool b)) => match want with
    | true => some (g && b)
    | false => some (g && !b)
  | _ => none

theorem wanted_gd {j t : Nat} {want g : Bool} (hg : o.guard = some (j, want)) (hj : (ops[j]?).bind (·.dst) = some t) (ht : Nat.blt t nt = true) (hb : gdS want (s.A t) = some g)
    {c0 c : Ctx} {H0 : Heap} {act : Act} (gd : Good nt c0 H0 n0 c s act) : Region.wanted o (yielded ops act.tmps) = g := by
  have hlt : t < act.tmps.size := by rw [gd.size]; simpa using ht
  have hf := gd.frame t
  have hy : ∀ v, act.tmps.getD t undef = v → yielded ops act.tmps j = (match v with | .bool b => some b | _ => none) := by
    intro v hv
    unfold yielded
    rw [hj]
    simp only [Option.bind_some, Array.getElem?_eq_getElem hlt]
    have : act.tmps[t] = v := by simpa [hlt] using hv
    rw [this]
    cases v <;> rfl
  unfold gdS at hb
  split at hb
  · rename_i b hA
    rw [hA] at hf
    have := hy _ hf.sc_inv
    simp only at this
    unfold Region.wanted
    rw [hg]
    simp only [this]
    cases b <;> (split at hb <;> cases hb <;> rfl)
  · rename_i q b hA
    rw [hA] at hf
    cases hf with
    | cond h hn =>
      cases q with
      | true =>
        have := hy _ (h rfl).sc_inv
        simp only at this
        unfold Region.wanted
        rw [hg]
        simp only [this]
        cases b <;> (split at hb <;> cases hb <;> rfl)
      | false =>
        have := hy _ (hn rfl)
        have hu : yielded ops act.tmps j = none := this
        unfold Region.wanted
        rw [hg]
        simp only [hu]
        split at hb <;> cases hb <;> rfl
  · cases hb

theorem SemLM.skip {j t : Nat} {want : Bool} (hg : o.guard = some (j, want)) (hj : (ops[j]?).bind (·.dst) = some t) (ht : Nat.blt t nt = true) (hb : gdS want (s.A t) = some false)
    (hd : ∀ d, o.dst = some d → d < nt) (hn : SemLM P nt n0 ops l K ⟨updO s.A o.dst (.sc undef), s.H, s.n⟩ μ) : SemLM P nt n0 ops (o :: l) K s μ := by
  intro c0 H0 c act g hm Qx hQ
  refine wpList_step fun K' hK' => ?_
  rw [if_neg (by rw [wanted_gd hg hj ht hb g]; simp)]
  have g2 : Good nt c s.H n0 c _ _ := g.rebase.next hd (.refl c) rfl (fun b hb => .inl hb) (.refl c s.H) (fun q x hx => .inr ⟨q, x, hx, rfl⟩) g.inv g.solo (Nat.le_refl _) (v := undef) (a := .sc undef) .sc .sc
  exact hK' _ _ (hn c0 H0 c _ (.join g.reach g2) (hm.kept g2.reach) Qx hQ)

theorem SemLM.quiet {j t : Nat} {want b : Bool} {a : AV} (hg : o.guard = some (j, want)) (hj : (ops[j]?).bind (·.dst) = some t) (ht : Nat.blt t nt = true) (hb : gdS want (s.A t) = some b)
    (hd : ∀ d, o.dst = some d → d < nt) (hok : a.Ok (· < s.n)) (h : b = true → OpR P nt o s (fun a' H' n' => a' = a ∧ H' = s.H ∧ n' = s.n))
    (hn : SemLM P nt n0 ops l K ⟨updO s.A o.dst (.cond b a), s.H, s.n⟩ μ) : SemLM P nt n0 ops (o :: l) K s μ := by
  cases b with
  | true =>
    refine SemLM.step (fun c0 c H0 act g => wanted_gd hg hj ht hb g) hd (R := fun a' H' n' => (a' = .cond true a) ∧ H' = s.H ∧ n' = s.n) ?_ ?_
    · intro c0 H0 n0 c act g K Q hK
      refine h rfl c0 H0 n0 c act g K Q fun c' a' H' n' v hR hgood => ?_
      obtain ⟨rfl, rfl, rfl⟩ := hR
      refine hK c' (.cond true a') _ _ v ⟨rfl, rfl, rfl⟩ fun dst hd => ?_
      have g2 := hgood dst hd
      refine ⟨g2.inv, g2.solo, fun q => ?_, fun q => ?_, g2.size, g2.defers, g2.reach, g2.le0⟩
      · have h1 := g2.frame q
        cases dst with
        | none => exact h1
        | some d =>
          simp only [updO] at h1 ⊢
          by_cases hq : q = d
          · subst hq; rw [upd_same] at h1 ⊢; exact .cond (fun _ => h1) (fun h => by cases h)
          · rw [upd_other _ _ hq] at h1 ⊢; exact h1
      · have h1 := g2.ok q
        cases dst with
        | none => exact h1
        | some d =>
          simp only [updO] at h1 ⊢
          by_cases hq : q = d
          · subst hq; rw [upd_same] at h1 ⊢; exact .cond h1
          · rw [upd_other _ _ hq] at h1 ⊢; exact h1
    · rintro _ _ _ ⟨rfl, rfl, rfl⟩
      exact hn
  | false =>
    intro c0 H0 c act g hm Qx hQ
    refine wpList_step fun K' hK' => ?_
    rw [if_neg (by rw [wanted_gd hg hj ht hb g]; simp)]
    have g2 : Good nt c s.H n0 c _ _ := g.rebase.next hd (.refl c) rfl (fun b hb => .inl hb) (.refl c s.H) (fun q x hx => .inr ⟨q, x, hx, rfl⟩) g.inv g.solo (Nat.le_refl _) (v := undef) (a := .cond false a) (.cond (fun h => by cases h) (fun _ => rfl)) (.cond hok)
    exact hK' _ _ (hn c0 H0 c _ (.join g.reach g2) (hm.kept g2.reach) Qx hQ)

theorem SemM.region {id : Nat} {Q : AExit → St → Mu → Prop} (h : SemLM P nt n0 ops ops.toList (fun s μ => Q .normal s μ) s μ) : SemM P nt n0 (.region id ops false) Q s μ := by
  intro c0 H0 c act g hm
  exact wp_region_list (h c0 H0 c act g hm _ fun c' s' act' μ' g' hm' hq => ⟨c', s', .normal, μ', rfl, g', hm', rfl, hq⟩)
end

mutual
theorem okB_ok (M : Nat → Bool) : ∀ (a : AV), AV.okB M a = true → a.Ok (fun o => M o = true)
  | .junk => fun _ => .junk
  | .sc _ => fun _ => .sc
  | .nils => fun _ => .nils
  | .agg cs => fun h => .agg (oksB_ok M cs h)
  | .tup cs => fun h => .tup (oksB_ok M cs h)
  | .list .. => fun _ => .list
  | .ref .. => fun h => .ref h
  | .ptr .. => fun h => .ptr h
  | .elem .. => fun _ => .elem
  | .fn _ caps => fun h => .fn (oksB_ok M caps h)
  | .mref _ => fun h => .mref h
  | .cond _ v => fun h => .cond (okB_ok M v h)
theorem oksB_ok (M : Nat → Bool) : ∀ (l : List AV), AV.oksB M l = true → ∀ a ∈ l, a.Ok (fun o => M o = true)
  | [] => fun _ _ h => by cases h
  | a :: r => fun h x hx => by
    have h' : (AV.okB M a && AV.oksB M r) = true := h
    simp only [Bool.and_eq_true] at h'
    rcases List.mem_cons.1 hx with he | hx
    · rw [he]; exact okB_ok M a h'.1
    · exact oksB_ok M r h'.2 x hx
end

theorem okLt {n : Nat} {a : AV} (h : AV.okB (fun o => Nat.blt o n) a = true) : a.Ok (· < n) := (okB_ok _ a h).mono fun o ho => by simpa using ho

inductive Kn where
  | seq (c : Code)
  | block (id : Nat)
  | loop (b : Code)

inductive Cf where
  | code (c : Code)
  | exit (e : AExit)
  | ops (ops : Array Oper) (l : List Oper)
  | loop (b : Code)

/-- It holds of the state, or of what is known of it by other names. -/
def Cl (nt n0 : Nat) (Q : AExit → St → Mu → Prop) : AExit → St → Mu → Prop := fun e s μ =>
  ∀ (c0 : Ctx) (H0 : Heap) (c : Ctx) (act : Act), Good nt c0 H0 n0 c s act → MOk c0 c s.H μ → ∃ c' s', c'.w = c.w ∧ Good nt c0 H0 n0 c' s' act ∧ MOk c0 c' s'.H μ ∧ Q e s' μ

theorem Cl.mk {nt n0 : Nat} {Q : AExit → St → Mu → Prop} {e : AExit} {s : St} {μ : Mu} (h : Q e s μ) : Cl nt n0 Q e s μ := fun _ _ c _ g hm => ⟨c, s, rfl, g, hm, h⟩

theorem SemM.ofCl {P : Program} {nt n0 : Nat} {Q : AExit → St → Mu → Prop} {code : Code} {s : St} {μ : Mu} (h : SemM P nt n0 code (Cl nt n0 Q) s μ) : SemM P nt n0 code Q s μ := by
  intro c0 H0 c act g hm
  refine Code.wp_mono ?_ (h c0 H0 c act g hm)
  rintro e a w ⟨c', s', ae, μ', rfl, g', hm', rfl, hq⟩
  obtain ⟨c2, s2, h1, h2, h3, h4⟩ := hq c0 H0 c' a g' hm'
  exact ⟨c2, s2, ae, μ', h1, h2, h3, rfl, h4⟩

/-- What is to be done behind a piece of code. -/
def Kont (P : Program) (nt n0 : Nat) (Q : AExit → St → Mu → Prop) : List Kn → AExit → St → Mu → Prop
  | [] => Cl nt n0 Q
  | .seq c :: K => seqM P nt n0 c (Kont P nt n0 Q K)
  | .block id :: K => blockM id (Kont P nt n0 Q K)
  | .loop b :: K => rndM P nt n0 b (Kont P nt n0 Q K)

def SemK (P : Program) (nt n0 : Nat) (Q : AExit → St → Mu → Prop) (cf : Cf) (K : List Kn) (s : St) (μ : Mu) : Prop :=
  match cf with
  | .code c => SemM P nt n0 c (Kont P nt n0 Q K) s μ
  | .exit e => Kont P nt n0 Q K e s μ
  | .ops ops l => SemLM P nt n0 ops l (fun s μ => Kont P nt n0 Q K .normal s μ) s μ
  | .loop b => SemLoop P nt n0 b (Kont P nt n0 Q K) s μ

def SSt (L : List (Nat × AV)) (G : List (Nat × Obj)) (n : Nat) : St := ⟨fr L, hp G, n⟩

def putK {β : Type} (d : Option Nat) (a : AV) (L : List (Nat × AV)) (k : List (Nat × AV) → Option β) : Option β :=
  match d with
  | some d => k ((d, a) :: L)
  | none => k L
def putO (d : Option Nat) (a : AV) (L : List (Nat × AV)) : List (Nat × AV) :=
  match d with
  | some d => (d, a) :: L
  | none => L
theorem putK_eq {β : Type} (d : Option Nat) (a : AV) (L : List (Nat × AV)) (k : List (Nat × AV) → Option β) : putK d a L k = k (putO d a L) := by cases d <;> rfl
theorem putO_fr (d : Option Nat) (a : AV) (L : List (Nat × AV)) : fr (putO d a L) = updO (fr L) d a := by
  cases d <;> rfl

def forceG {β : Type} : List (Nat × Obj) → (List (Nat × Obj) → Option β) → Option β
  | [], k => k []
  | p :: r, k => forceG r fun r => k (p :: r)
theorem forceG_eq {β : Type} : ∀ (G : List (Nat × Obj)) (k : List (Nat × Obj) → Option β), forceG G k = k G := by
  intro G
  induction G with
  | nil => intro k; rfl
  | cons p r ih => intro k; simp [forceG, ih]

/-- What is owed, one fact after the other. -/
def oweK {β : Type} : List Prop → List Prop → (List Prop → Option β) → Option β
  | [], ps, k => k ps
  | q :: r, ps, k => oweK r (q :: ps) k
def oweL : List Prop → List Prop → List Prop
  | [], ps => ps
  | q :: r, ps => oweL r (q :: ps)
theorem oweK_eq {β : Type} : ∀ (qs ps : List Prop) (k : List Prop → Option β), oweK qs ps k = k (oweL qs ps) := by
  intro qs
  induction qs with
  | nil => intro ps k; rfl
  | cons q r ih => intro ps k; simp [oweK, oweL, ih]
theorem oweL_iff : ∀ {qs ps : List Prop}, allP (oweL qs ps) → allP qs ∧ allP ps := by
  intro qs
  induction qs with
  | nil => intro ps h; exact ⟨trivial, h⟩
  | cons q r ih => intro ps h; obtain ⟨h1, h2⟩ := ih h; exact ⟨⟨h2.1, h1⟩, h2.2⟩

/-! Regions whose order is drawn. -/
def filL (bad : List Nat) : List (Nat × AV) → List (Nat × AV)
  | [] => []
  | (d, a) :: l => bif memB d bad then filL bad l else (d, a) :: filL bad l
theorem filL_fr (bad : List Nat) : ∀ L, fr (filL bad L) = frD bad (fr L) := by
  intro L
  funext t
  induction L with
  | nil => simp [filL, fr, frD]
  | cons p l ih =>
    obtain ⟨d, a⟩ := p
    simp only [filL]
    cases hb : memB d bad with
    | true =>
      simp only [cond_true, ih, frD, fr]
      cases ht : memB t bad with
      | true => rfl
      | false =>
        have : Nat.beq t d = false := by
          rw [← Bool.not_eq_true, Nat.beq_eq]
          intro e; subst e; rw [hb] at ht; cases ht
        simp [this]
    | false =>
      simp only [cond_false, frD, fr]
      cases hq : Nat.beq t d with
      | true =>
        have : t = d := Nat.eq_of_beq_eq_true hq
        subst this
        simp [hb]
      | false =>
        simp only [cond_false, ih, frD]

def filG (base mi : Nat) (hf : Bool) (es : List WEff) : List (Nat × Obj) → List (Nat × Obj)
  | [] => []
  | (o, x) :: l => bif hidden base mi hf es o then filG base mi hf es l else (o, x) :: filG base mi hf es l
theorem filG_hp (base mi : Nat) (hf : Bool) (es : List WEff) : ∀ G, hp (filG base mi hf es G) = hpD base mi hf es (hp G) := by
  intro G
  funext q
  induction G with
  | nil => simp [filG, hp, hpD]
  | cons p l ih =>
    obtain ⟨o, x⟩ := p
    simp only [filG]
    cases hb : hidden base mi hf es o with
    | true =>
      simp only [cond_true, ih, hpD, hp]
      cases ht : hidden base mi hf es q with
      | true => rfl
      | false =>
        have : Nat.beq q o = false := by
          rw [← Bool.not_eq_true, Nat.beq_eq]
          intro e; subst e; rw [hb] at ht; cases ht
        simp [this]
    | false =>
      simp only [cond_false, hpD, hp]
      cases hq : Nat.beq q o with
      | true =>
        have : q = o := Nat.eq_of_beq_eq_true hq
        subst this
        simp [hb]
      | false =>
        simp only [cond_false, ih, hpD]

def weffS (id : Nat) (G : List (Nat × Obj)) : WEff → List (Nat × Obj)
  | .none => G
  | .new x => (id, x) :: G
  | .app old x => (id, x) :: delG old G
  | .set o x => (o, x) :: delG o G
theorem weffS_ok (id : Nat) (G : List (Nat × Obj)) (e : WEff) : hp (weffS id G e) = e.go id (hp G) := by
  cases e with
  | none => rfl
  | new x => rw [WEff.go_new]; rfl
  | app old x => rw [WEff.go_app]; simp only [weffS, hp_cons, delG_hp]
  | set o x => rw [WEff.go_set]; exact hp_setG o x G

abbrev DR := Option (AV × WEff × List Hint × List Prop)

def dopS (P : Program) (T : Ty) (L : List (Nat × AV)) (G : List (Nat × Obj)) (id : Nat) (o : Oper) (hs : List Hint) : DR :=
  match o.op with
  | .store t p x => match o.dst with
    | none => match stO T L G t p x hs with
      | some (q, z, hs, ps) => some (.sc undef, .set q z, hs, ps)
      | none => none
    | some _ => none
  | .call { callee := .value x, args := args, argTypes := _ } => match hs with
    | .pure bs r :: hs => match rd L x with
      | (.fn f [], p) => match rds L args.toList with
        | (as, q) => match AV.okB (fun _ => false) r with
          | true => some (r, .none, hs, PureCall P f (hp G) as bs r :: (p ++ q))
          | false => none
      | _ => none
    | _ => none
  | op => match puS T L (hp G) op hs with
    | some (a, hs, ps) => some (a, .none, hs, ps)
    | none => match mkS T L (hp G) id op hs with
      | some (a, .none, hs, ps) => some (a, .none, hs, ps)
      | some (a, .new x, hs, ps) => some (a, .new x, hs, ps)
      | some (a, .app old x, hs, ps) => some (a, .app old x, hs, ps)
      | none => none

theorem dopS_ok {P : Program} {T : Ty} {L : List (Nat × AV)} {G : List (Nat × Obj)} {id : Nat} {o : Oper} {hs hs' : List Hint} {ps : List Prop} {a : AV} {e : WEff} (h : dopS P T L G id o hs = some (a, e, hs', ps)) (hp' : allP ps) :
    DOp P T (fr L) (hp G) id o a e := by
  unfold dopS at h
  split at h
  · rename_i ho
    split at h
    · rename_i hd
      split at h
      · rename_i hst
        cases h
        obtain ⟨i, k, y, e, ti, h1, h2, h3, h4, h5, h6, h7, h8, h9, rfl⟩ := stO_ok hst hp'
        exact .store ho hd h1 h2 h4 h5 h6 h7 h8 h9
      · cases h
    · cases h
  · rename_i ho
    split at h
    · split at h
      · rename_i hx
        split at h
        rename_i hargs
        split at h
        · rename_i hok
          cases h
          obtain ⟨⟨p1, Hr, p2, p3, p4⟩, q⟩ := hp'
          obtain ⟨q1, q2⟩ := allP_app.1 q
          rw [← rds_ok hargs q2] at p2
          refine .pure ho (rd_ok hx q1) p2 p1 p3 (p4.imp (fun h => h) fun hn => ⟨hn, fun M => ?_⟩)
          exact (okB_ok _ _ hok).mono fun o ho => by cases ho
        · cases h
      · cases h
    · cases h
  · split at h
    · rename_i hpu
      cases h
      exact .pu (puS_ok hpu hp')
    · split at h
      · rename_i hm; cases h; exact .zero (mkS_ok hm hp').1
      · rename_i hm; cases h
        obtain ⟨h1, h2⟩ := mkS_ok hm hp'
        have := h2 0 _ (.inr rfl)
        exact .new h1 this.1 this.2
      · rename_i hm; cases h
        obtain ⟨h1, h2⟩ := mkS_ok hm hp'
        have := h2 _ _ (.inl rfl)
        exact .app h1 this.1 this.2
      · cases h

/-- What a guard reads, as it is. -/
def rawB (want : Bool) (a : AV) : Option (Bool × List Prop) :=
  match a with
  | .sc (.bool b) => match want with
    | true => some (b, [])
    | false => some (!b, [])
  | .cond g (.sc (.bool b)) => match want with
    | true => some (b, [g = true])
    | false => some (!b, [g = true])
  | _ => none

theorem rawB_ok {want g : Bool} {a : AV} {qs : List Prop} (h : rawB want a = some (g, qs)) (hq : allP qs) : ∃ b, strip a = .sc (.bool b) ∧ g = (b == want) := by
  unfold rawB at h
  split at h
  · rename_i b
    refine ⟨b, rfl, ?_⟩
    cases b <;> (split at h <;> (cases h; rfl))
  · rename_i q b
    split at h
    · cases h; obtain ⟨rfl, _⟩ := hq; exact ⟨g, rfl, by cases g <;> rfl⟩
    · cases h; obtain ⟨rfl, _⟩ := hq; exact ⟨b, rfl, by cases b <;> rfl⟩
  · cases h

def drawS (P : Program) (T : Ty) (nt base : Nat) (ops : Array Oper) (ms : List Nat) (zs : List (Nat × Bool)) : Nat → List Oper → List (Nat × AV) → List (Nat × Obj) → List WEff → List Hint → List Prop → Option (List (Nat × AV) × List (Nat × Obj) × List Hint × List Prop)
  | _, [], L, G, _, hs, ps => some (L, G, hs, ps)
  | i, o :: l, L, G, es, hs, ps =>
    if dstOkD nt (badGo i (ms.getD i 0) 0 ops.toList ms) o.dst = true then (match o.guard with
      | none => match dopS P T (filL (badGo i (ms.getD i 0) 0 ops.toList ms) L) (filG base (ms.getD i 0) (heapFree o.op) es G) (base + i) o hs with
        | some (a, e, hs', qs) => if writeOk base (ms.getD i 0) (e.objs (base + i)) 0 (zs.take i) [] es = true then
            forceA a fun a => putK o.dst a L fun L => forceG (weffS (base + i) G e) fun G => oweK qs ps fun ps => drawS P T nt base ops ms zs (i + 1) l L G (es ++ [e]) hs' ps else none
        | none => none
      | some (j, want) => match (ops[j]?).bind (·.dst) with
        | some t => if Nat.blt t nt = true then (match hs with
          | .go true :: hs => match rawB want (fr (filL (badGo i (ms.getD i 0) 0 ops.toList ms) L) t) with
            | some (g, rs) => match dopS P T (filL (badGo i (ms.getD i 0) 0 ops.toList ms) L) (filG base (ms.getD i 0) (heapFree o.op) es G) (base + i) o hs with
              | some (a, e, hs', qs) => if writeOk base (ms.getD i 0) (e.objs (base + i)) 0 (zs.take i) [] es = true then
                  forceA a fun a => putK o.dst a L fun L => forceG (weffS (base + i) G e) fun G => oweK rs ps fun ps => oweK qs ((g = true) :: ps) fun ps => drawS P T nt base ops ms zs (i + 1) l L G (es ++ [e]) hs' ps else none
              | none => none
            | none => none
          | .go false :: hs => match rawB want (fr (filL (badGo i (ms.getD i 0) 0 ops.toList ms) L) t) with
            | some (g, rs) => putK o.dst (.sc undef) L fun L => oweK rs ps fun ps => drawS P T nt base ops ms zs (i + 1) l L G (es ++ [.none]) hs ((g = false) :: ps)
            | none => none
          | .no :: hs => match fr (filL (badGo i (ms.getD i 0) 0 ops.toList ms) L) t with
            | .sc v => match boolIs want v with
              | false => putK o.dst (.sc undef) L fun L => drawS P T nt base ops ms zs (i + 1) l L G (es ++ [.none]) hs ps
              | true => none
            | _ => none
          | _ => none) else none
        | none => none) else none

theorem drawS_ok {P : Program} {T : Ty} {nt base : Nat} {ops : Array Oper} {ms : List Nat} : ∀ (l : List Oper) (i : Nat) (L : List (Nat × AV)) (G : List (Nat × Obj)) (es : List WEff) (hs : List Hint) (ps : List Prop) (L' : List (Nat × AV)) (G' : List (Nat × Obj)) (hs' : List Hint) (ps' : List Prop),
    drawS P T nt base ops ms (ms.zip (ops.toList.map fun o => heapFree o.op)) i l L G es hs ps = some (L', G', hs', ps') → allP ps' → allP ps ∧ DRun P T nt base ops ms i l (fr L) (hp G) es (fr L') (hp G') := by
  intro l
  induction l with
  | nil => intro i L G es hs ps L' G' hs' ps' h hp'; simp only [drawS] at h; cases h; exact ⟨hp', .nil⟩
  | cons o l ih =>
    intro i L G es hs ps L' G' hs' ps' h hp'
    simp only [drawS] at h
    split at h
    · rename_i hd
      split at h
      · rename_i hg
        split at h
        · rename_i a e _ qs hop
          split at h
          · rename_i hw
            rw [forceA_eq, putK_eq, forceG_eq, oweK_eq] at h
            obtain ⟨h1, h2⟩ := ih _ _ _ _ _ _ _ _ _ _ h hp'
            obtain ⟨p1, p2⟩ := oweL_iff h1
            have hop' := dopS_ok hop p1
            rw [filL_fr, filG_hp] at hop'
            rw [putO_fr, weffS_ok] at h2
            exact ⟨p2, .op hg hd hop' hw h2⟩
          · cases h
        · cases h
      · rename_i j want hg
        split at h
        · rename_i hj
          split at h
          · rename_i ht
            split at h
            · split at h
              · rename_i hr
                split at h
                · rename_i hop
                  split at h
                  · rename_i hw
                    rw [forceA_eq, putK_eq, forceG_eq, oweK_eq, oweK_eq] at h
                    obtain ⟨h1, h2⟩ := ih _ _ _ _ _ _ _ _ _ _ h hp'
                    obtain ⟨p1, p0, p2⟩ := oweL_iff h1
                    obtain ⟨p3, p4⟩ := oweL_iff p2
                    have hop' := dopS_ok hop p1
                    rw [filL_fr, filG_hp] at hop'
                    rw [putO_fr, weffS_ok] at h2
                    obtain ⟨b, hb1, hb2⟩ := rawB_ok hr p3
                    rw [filL_fr] at hb1
                    have : b = want := by rw [p0] at hb2; simpa using hb2.symm
                    subst this
                    exact ⟨p4, .run hg hd hj ht hb1 hop' hw h2⟩
                  · cases h
                · cases h
              · cases h
            · split at h
              · rename_i hr
                rw [putK_eq, oweK_eq] at h
                obtain ⟨h1, h2⟩ := ih _ _ _ _ _ _ _ _ _ _ h hp'
                obtain ⟨p0, p2⟩ := h1
                obtain ⟨p3, p4⟩ := oweL_iff p2
                rw [putO_fr] at h2
                obtain ⟨b, hb1, hb2⟩ := rawB_ok hr p3
                rw [filL_fr] at hb1
                exact ⟨p4, .skip hg hd hj ht hb1 (by rw [p0] at hb2; exact hb2.symm) h2⟩
              · cases h
            · split at h
              · rename_i hr
                split at h
                · rename_i hb
                  rw [putK_eq] at h
                  obtain ⟨h1, h2⟩ := ih _ _ _ _ _ _ _ _ _ _ h hp'
                  rw [putO_fr] at h2
                  rw [filL_fr] at hr
                  exact ⟨h1, .skip hg hd hj ht (by rw [hr]; rfl) hb h2⟩
                · cases h
              · cases h
            · cases h
          · cases h
        · cases h
    · cases h

def forceN {β : Type} (n : Nat) (k : Nat → Option β) : Option β :=
  match n with
  | 0 => k 0
  | m + 1 => k (m + 1)
theorem forceN_eq {β : Type} (n : Nat) (k : Nat → Option β) : forceN n k = k n := by cases n <;> rfl
def cntN {β : Type} : List Oper → Nat → (Nat → Option β) → Option β
  | [], n, k => k n
  | _ :: r, n, k => forceN (n + 1) fun n => cntN r n k
theorem cntN_eq {β : Type} : ∀ (l : List Oper) (n : Nat) (k : Nat → Option β), cntN l n k = k (n + l.length) := by
  intro l
  induction l with
  | nil => intro n k; rfl
  | cons a r ih => intro n k; simp only [cntN, forceN_eq, ih, List.length_cons]; congr 1; omega

abbrev RR := Option (Cf × List Kn × List (Nat × AV) × List (Nat × Obj) × Nat × List Hint × List Prop)

def runS (P : Program) (T : Ty) (nt : Nat) : Nat → Cf → List Kn → List (Nat × AV) → List (Nat × Obj) → Nat → List Hint → List Prop → RR
  | 0, cf, K, L, G, n, hs, ps => some (cf, K, L, G, n, hs, ps)
  | f + 1, cf, K, L, G, n, hs, ps => match cf with
    | .code c => match c with
      | .skip => runS P T nt f (.exit .normal) K L G n hs ps
      | .label _ => runS P T nt f (.exit .normal) K L G n hs ps
      | .exit id => runS P T nt f (.exit (.exit id)) K L G n hs ps
      | .ret => runS P T nt f (.exit .ret) K L G n hs ps
      | .seq a b => runS P T nt f (.code a) (.seq b :: K) L G n hs ps
      | .block id c => runS P T nt f (.code c) (.block id :: K) L G n hs ps
      | .scope c => runS P T nt f (.code c) K L G n hs ps
      | .region _ ops false => runS P T nt f (.ops ops ops.toList) K L G n hs ps
      | .region _ ops true => match preLt 0 ops.toList with
        | true => match drawS P T nt n ops (masks ops.toList) ((masks ops.toList).zip (ops.toList.map fun o => heapFree o.op)) 0 ops.toList L G [] hs ps with
          | some (L, G, hs, ps) => forceG G fun G => cntN ops.toList n fun n => runS P T nt f (.exit .normal) K L G n hs ps
          | none => none
        | false => none
      | .loop b => some (.loop b, K, L, G, n, hs, ps)
      | .cond x a b => match hs with
        | .br true :: hs => match rd L x with
          | (.sc (.bool t), qs) => oweK qs ((t = true) :: ps) fun ps => runS P T nt f (.code a) K L G n hs ps
          | _ => none
        | .br false :: hs => match rd L x with
          | (.sc (.bool t), qs) => oweK qs ((t = false) :: ps) fun ps => runS P T nt f (.code b) K L G n hs ps
          | _ => none
        | hs => some (.code (.cond x a b), K, L, G, n, hs, ps)
      | c => some (.code c, K, L, G, n, hs, ps)
    | .exit e => match K with
      | [] => some (.exit e, [], L, G, n, hs, ps)
      | .seq c :: K => match e with
        | .normal => runS P T nt f (.code c) K L G n hs ps
        | e => runS P T nt f (.exit e) K L G n hs ps
      | .block id :: K => match e with
        | .exit i => match Nat.beq i id with
          | true => runS P T nt f (.exit .normal) K L G n hs ps
          | false => runS P T nt f (.exit (.exit i)) K L G n hs ps
        | e => runS P T nt f (.exit e) K L G n hs ps
      | .loop b :: K => match e with
        | .normal => some (.loop b, K, L, G, n, hs, ps)
        | e => runS P T nt f (.exit e) K L G n hs ps
    | .loop b => some (.loop b, K, L, G, n, hs, ps)
    | .ops ops l => match l with
      | [] => runS P T nt f (.exit .normal) K L G n hs ps
      | o :: l => if dstOk nt o.dst = true then (match o.guard with
        | none => match opS P T L G n o.op hs with
          | some (a, G', n', hs', qs) => forceA a fun a => putK o.dst a L fun L => forceG G' fun G => oweK qs ps fun ps => runS P T nt f (.ops ops l) K L G n' hs' ps
          | none => some (.ops ops (o :: l), K, L, G, n, hs, ps)
        | some (j, want) => match (ops[j]?).bind (·.dst) with
          | some t => if Nat.blt t nt = true then (match gdS want (fr L t) with
            | some g => match hs with
              | .go true :: hs => match opS P T L G n o.op hs with
                | some (a, G', n', hs', qs) => forceA a fun a => putK o.dst a L fun L => forceG G' fun G => oweK qs ((g = true) :: ps) fun ps => runS P T nt f (.ops ops l) K L G n' hs' ps
                | none => none
              | .go false :: hs => putK o.dst (.sc undef) L fun L => runS P T nt f (.ops ops l) K L G n hs ((g = false) :: ps)
              | hs => match quS P T L G o.op hs with
                | some (a, hs', qs) => match AV.okB (fun o => Nat.blt o n) a with
                  | true => forceA a fun a => putK o.dst (.cond g a) L fun L => oweK (underP g qs) ps fun ps => runS P T nt f (.ops ops l) K L G n hs' ps
                  | false => none
                | none => some (.ops ops (o :: l), K, L, G, n, hs, ps)
            | none => none) else none
          | none => none) else none

theorem runS_ok {P : Program} {T : Ty} {nt n0 : Nat} {μ : Mu} {Q : AExit → St → Mu → Prop} (hT : TyOk P T) (hm : P.follows .mixedOrders = true) : ∀ (f : Nat) (cf : Cf) (K : List Kn) (L : List (Nat × AV)) (G : List (Nat × Obj)) (n : Nat) (hs : List Hint) (ps : List Prop) (cf' : Cf) (K' : List Kn) (L' : List (Nat × AV)) (G' : List (Nat × Obj)) (n' : Nat) (hs' : List Hint) (ps' : List Prop),
    runS P T nt f cf K L G n hs ps = some (cf', K', L', G', n', hs', ps') → allP ps' → allP ps ∧ (SemK P nt n0 Q cf' K' (SSt L' G' n') μ → SemK P nt n0 Q cf K (SSt L G n) μ) := by
  intro f
  induction f with
  | zero => intro cf K L G n hs ps cf' K' L' G' n' hs' ps' h hp; simp only [runS] at h; cases h; exact ⟨hp, fun h => h⟩
  | succ f ih =>
    intro cf K L G n hs ps cf' K' L' G' n' hs' ps' h hp
    have stop : some (cf, K, L, G, n, hs, ps) = some (cf', K', L', G', n', hs', ps') → allP ps ∧ (SemK P nt n0 Q cf' K' (SSt L' G' n') μ → SemK P nt n0 Q cf K (SSt L G n) μ) := by
      intro h; cases h; exact ⟨hp, fun h => h⟩
    cases cf with
    | code c =>
      cases c with
      | skip => obtain ⟨h1, h2⟩ := ih _ _ _ _ _ _ _ _ _ _ _ _ _ _ h hp; exact ⟨h1, fun k => SemM.skip (h2 k)⟩
      | label => obtain ⟨h1, h2⟩ := ih _ _ _ _ _ _ _ _ _ _ _ _ _ _ h hp; exact ⟨h1, fun k => SemM.label (h2 k)⟩
      | exit => obtain ⟨h1, h2⟩ := ih _ _ _ _ _ _ _ _ _ _ _ _ _ _ h hp; exact ⟨h1, fun k => SemM.exit (h2 k)⟩
      | ret => obtain ⟨h1, h2⟩ := ih _ _ _ _ _ _ _ _ _ _ _ _ _ _ h hp; exact ⟨h1, fun k => SemM.ret (h2 k)⟩
      | seq => obtain ⟨h1, h2⟩ := ih _ _ _ _ _ _ _ _ _ _ _ _ _ _ h hp; exact ⟨h1, fun k => SemM.seq (h2 k)⟩
      | block => obtain ⟨h1, h2⟩ := ih _ _ _ _ _ _ _ _ _ _ _ _ _ _ h hp; exact ⟨h1, fun k => SemM.block (h2 k)⟩
      | scope => obtain ⟨h1, h2⟩ := ih _ _ _ _ _ _ _ _ _ _ _ _ _ _ h hp; exact ⟨h1, fun k => SemM.scope (h2 k)⟩
      | region id ops d =>
        cases d with
        | false => obtain ⟨h1, h2⟩ := ih _ _ _ _ _ _ _ _ _ _ _ _ _ _ h hp; exact ⟨h1, fun k => SemM.region (h2 k)⟩
        | true =>
          simp only [runS] at h
          split at h
          · rename_i hpre
            split at h
            · rename_i hd
              rw [forceG_eq, cntN_eq] at h
              obtain ⟨h1, h2⟩ := ih _ _ _ _ _ _ _ _ _ _ _ _ _ _ h hp
              obtain ⟨h3, h4⟩ := drawS_ok _ _ _ _ _ _ _ _ _ _ _ hd h1
              exact ⟨h3, fun k => SemM.of (SemC.drawn (s := SSt L G n) hm hT hpre h4 (h2 k))⟩
            · cases h
          · cases h
      | loop b => cases h; exact ⟨hp, fun k => SemM.loop k⟩
      | cond x a b =>
        simp only [runS] at h
        split at h
        · split at h
          · rename_i hr
            rw [oweK_eq] at h
            obtain ⟨h1, h2⟩ := ih _ _ _ _ _ _ _ _ _ _ _ _ _ _ h hp
            obtain ⟨p3, p1, p4⟩ := oweL_iff h1
            exact ⟨p4, fun k => SemM.cond (s := (SSt L G n)) (rd_ok hr p3) (fun _ => h2 k) (fun hf => by rw [p1] at hf; cases hf)⟩
          · cases h
        · split at h
          · rename_i hr
            rw [oweK_eq] at h
            obtain ⟨h1, h2⟩ := ih _ _ _ _ _ _ _ _ _ _ _ _ _ _ h hp
            obtain ⟨p3, p1, p4⟩ := oweL_iff h1
            exact ⟨p4, fun k => SemM.cond (s := (SSt L G n)) (rd_ok hr p3) (fun hf => by rw [p1] at hf; cases hf) (fun _ => h2 k)⟩
          · cases h
        · exact stop h
      | _ => exact stop h
    | exit e =>
      cases K with
      | nil => exact stop h
      | cons kn K =>
        cases kn with
        | seq c => cases e <;> (simp only [runS] at h; obtain ⟨h1, h2⟩ := ih _ _ _ _ _ _ _ _ _ _ _ _ _ _ h hp; exact ⟨h1, fun k => h2 k⟩)
        | loop b =>
          cases e with
          | normal => cases h; exact ⟨hp, fun k => k⟩
          | exit i => simp only [runS] at h; obtain ⟨h1, h2⟩ := ih _ _ _ _ _ _ _ _ _ _ _ _ _ _ h hp; exact ⟨h1, fun k => h2 k⟩
          | ret => simp only [runS] at h; obtain ⟨h1, h2⟩ := ih _ _ _ _ _ _ _ _ _ _ _ _ _ _ h hp; exact ⟨h1, fun k => h2 k⟩
        | block id =>
          cases e with
          | normal => simp only [runS] at h; obtain ⟨h1, h2⟩ := ih _ _ _ _ _ _ _ _ _ _ _ _ _ _ h hp; exact ⟨h1, fun k => h2 k⟩
          | ret => simp only [runS] at h; obtain ⟨h1, h2⟩ := ih _ _ _ _ _ _ _ _ _ _ _ _ _ _ h hp; exact ⟨h1, fun k => h2 k⟩
          | exit i =>
            simp only [runS] at h
            split at h
            · rename_i hb
              obtain ⟨h1, h2⟩ := ih _ _ _ _ _ _ _ _ _ _ _ _ _ _ h hp
              refine ⟨h1, fun k => ?_⟩
              show blockM id (Kont P nt n0 Q K) (.exit i) (SSt L G n) μ
              simp only [blockM, hb, cond_true]
              exact h2 k
            · rename_i hb
              obtain ⟨h1, h2⟩ := ih _ _ _ _ _ _ _ _ _ _ _ _ _ _ h hp
              refine ⟨h1, fun k => ?_⟩
              show blockM id (Kont P nt n0 Q K) (.exit i) (SSt L G n) μ
              simp only [blockM, hb, cond_false]
              exact h2 k
    | loop b => exact stop h
    | ops ops l =>
      simp only [runS] at h
      split at h
      · obtain ⟨h1, h2⟩ := ih _ _ _ _ _ _ _ _ _ _ _ _ _ _ h hp; exact ⟨h1, fun k => SemLM.nil (h2 k)⟩
      · split at h
        · rename_i hd
          have hdl := dstOk_lt hd
          split at h
          · rename_i hg
            split at h
            · rename_i hop
              rw [forceA_eq, putK_eq, forceG_eq, oweK_eq] at h
              obtain ⟨h1, h2⟩ := ih _ _ _ _ _ _ _ _ _ _ _ _ _ _ h hp
              obtain ⟨p1, p2⟩ := oweL_iff h1
              refine ⟨p2, fun k => SemLM.plain hg hdl (opS_ok hT hop p1) ?_⟩
              rintro _ _ _ ⟨rfl, rfl, rfl⟩
              have := h2 k
              simp only [SemK, SSt, putO_fr] at this
              exact this
            · exact stop h
          · rename_i j want hg
            split at h
            · rename_i hj
              split at h
              · rename_i ht
                split at h
                · rename_i g hgd
                  split at h
                  · split at h
                    · rename_i hop
                      rw [forceA_eq, putK_eq, forceG_eq, oweK_eq] at h
                      obtain ⟨h1, h2⟩ := ih _ _ _ _ _ _ _ _ _ _ _ _ _ _ h hp
                      obtain ⟨p1, p0, p2⟩ := oweL_iff h1
                      subst p0
                      refine ⟨p2, fun k => SemLM.step (fun c0 c H0 act gd => wanted_gd (s := SSt L G n) hg hj ht hgd gd) hdl (opS_ok hT hop p1) ?_⟩
                      rintro _ _ _ ⟨rfl, rfl, rfl⟩
                      have := h2 k
                      simp only [SemK, SSt, putO_fr] at this
                      exact this
                    · cases h
                  · rw [putK_eq] at h
                    obtain ⟨h1, h2⟩ := ih _ _ _ _ _ _ _ _ _ _ _ _ _ _ h hp
                    obtain ⟨p0, p1⟩ := h1
                    subst p0
                    refine ⟨p1, fun k => SemLM.skip (s := SSt L G n) hg hj ht hgd hdl ?_⟩
                    have := h2 k
                    simp only [SemK, SSt, putO_fr] at this
                    exact this
                  · split at h
                    · rename_i hpu
                      split at h
                      · rename_i hok
                        rw [forceA_eq, putK_eq, oweK_eq] at h
                        obtain ⟨h1, h2⟩ := ih _ _ _ _ _ _ _ _ _ _ _ _ _ _ h hp
                        obtain ⟨p1, p2⟩ := oweL_iff h1
                        refine ⟨p2, fun k => SemLM.quiet (s := SSt L G n) hg hj ht hgd hdl (okLt hok) (fun hb => quS_ok hT hpu (underP_ok p1 hb)) ?_⟩
                        have := h2 k
                        simp only [SemK, SSt, putO_fr] at this
                        exact this
                      · cases h
                    · exact stop h
                · cases h
              · cases h
            · cases h
        · cases h

theorem SemK.round {P : Program} {nt n0 : Nat} {μ : Mu} {Q : AExit → St → Mu → Prop} {b : Code} {K : List Kn} {s : St} (h : SemK P nt n0 Q (.code b) (.loop b :: K) s μ) : SemK P nt n0 Q (.loop b) K s μ := SemLoop.round h

/-- A run to where it stops. -/
theorem run_to {P : Program} {T : Ty} {nt n0 : Nat} {μ : Mu} {Q : AExit → St → Mu → Prop} {cf cf' : Cf} {K K' : List Kn} {L L' : List (Nat × AV)} {G G' : List (Nat × Obj)} {n n' : Nat} {hs' : List Hint} {ps' : List Prop} (hT : TyOk P T ∧ P.follows .mixedOrders = true) (f : Nat) (hs : List Hint)
    (h : runS P T nt f cf K L G n hs [] = some (cf', K', L', G', n', hs', ps')) (hp' : allP ps') (k : SemK P nt n0 Q cf' K' ⟨fr L', hp G', n'⟩ μ) : SemK P nt n0 Q cf K ⟨fr L, hp G, n⟩ μ :=
  (runS_ok hT.1 hT.2 f cf K L G n hs [] cf' K' L' G' n' hs' ps' h hp').2 k
end Go.Av
