/- Maps beside the objects: a calculus in which a function's own maps are told, too. -/
import Derived.Test.YtioookhnoobpgaaAvStep
import Derived.Test.YtioookhnoobpgaaAvScope
namespace Go.Av

/-- A block holds a map with these entries, in the order in which they came. -/
def MapIs (w : World) (b : Nat) (l : List (Value × Value)) : Prop :=
  ∃ es clock, w.heap[b]? = some (.map es clock) ∧ es.toList.map (fun e => (e.key, e.val)) = l ∧ es.toList.Pairwise (fun x y => x.born < y.born) ∧ ∀ e ∈ es.toList, e.born < clock

theorem MapIs.lt {w : World} {b : Nat} {l : List (Value × Value)} (h : MapIs w b l) : b < w.heap.size := by
  obtain ⟨es, clock, hb, _⟩ := h
  exact (Array.getElem?_eq_some_iff.1 hb).1

abbrev Mu := List (Nat × List (Value × Value))

structure MOk (c0 c : Ctx) (H : Heap) (μ : Mu) : Prop where
  is : ∀ p ∈ μ, MapIs c.w p.1 p.2
  away : ∀ p ∈ μ, ¬ c.Sa p.1 ∧ ¬ c.So p.1 ∧ (∀ o x, H o = some x → (c.ρ o).blk ≠ p.1) ∧ c0.w.heap.size ≤ p.1
  nodup : (μ.map (·.1)).Nodup

theorem MOk.nil {c0 c : Ctx} {H : Heap} : MOk c0 c H [] := ⟨(fun _ h => by cases h), (fun _ h => by cases h), List.nodup_nil⟩

theorem MOk.kept {c0 c c' : Ctx} {H H' : Heap} {n0 : Nat} {μ : Mu} (h : MOk c0 c H μ) (r : Reach c H n0 c' H') : MOk c0 c' H' μ := by
  have hlt : ∀ p ∈ μ, p.1 < c.w.heap.size := fun p hp => (h.is p hp).lt
  have hb : ∀ p ∈ μ, c'.w.heap[p.1]? = c.w.heap[p.1]? := fun p hp => r.block _ (hlt p hp) (h.away p hp).2.2.1
  refine ⟨fun p hp => ?_, fun p hp => ?_, h.nodup⟩
  · obtain ⟨es, clock, h1, h2⟩ := h.is p hp
    exact ⟨es, clock, (hb p hp).trans h1, h2⟩
  · obtain ⟨a1, a2, a3, a4⟩ := h.away p hp
    refine ⟨by rw [r.sa]; exact a1, fun hs => ?_, fun o x hx he => ?_, a4⟩
    · rcases r.so2 _ hs with h1 | h1
      · exact a2 h1
      · have := hlt p hp; omega
    · rcases r.own o x hx with h1 | ⟨o', x', h1, h2⟩
      · have := hlt p hp; omega
      · exact a3 o' x' h1 (h2.trans he)

theorem Reach.trans {c0 c c' : Ctx} {H0 H H' : Heap} {n0 : Nat} (h : Reach c0 H0 n0 c H) (k : Reach c H n0 c' H') : Reach c0 H0 n0 c' H' := by
  refine ⟨fun o ho => (k.rho o ho).trans (h.rho o ho), k.os.trans h.os, k.tape.trans h.tape, k.output.trans h.output, Nat.le_trans h.size k.size, ?_, ?_, k.sa.trans h.sa, fun b hb => k.so1 b (h.so1 b hb), ?_, k.B.trans h.B, ?_⟩
  · intro b hb hn
    rw [k.block b (Nat.lt_of_lt_of_le hb h.size) ?_]
    · exact h.block b hb hn
    · intro o x hx he
      rcases h.own o x hx with h1 | ⟨o', x', h1, h2⟩
      · omega
      · exact hn o' x' h1 (h2.trans he)
  · intro b hb
    rw [k.stable b (hb.imp (fun x => by rw [h.sa]; exact x) (h.so1 b))]
    exact h.stable b hb
  · intro b hb
    rcases k.so2 b hb with h1 | h1
    · exact h.so2 b h1
    · exact .inr (Nat.le_trans h.size h1)
  · intro o x hx
    rcases k.own o x hx with h1 | ⟨q, y, h1, h2⟩
    · exact .inl (Nat.le_trans h.size h1)
    · rw [← h2]; exact h.own q y h1

theorem Good.rebase {nt n0 : Nat} {c0 c : Ctx} {H0 : Heap} {s : St} {act : Act} (g : Good nt c0 H0 n0 c s act) : Good nt c s.H n0 c s act :=
  ⟨g.inv, g.solo, g.frame, g.ok, g.size, g.defers, .refl _ _ _, g.le0⟩
theorem Good.join {nt n0 : Nat} {c0 c c' : Ctx} {H0 H : Heap} {s : St} {act : Act} (r : Reach c0 H0 n0 c H) (g : Good nt c H n0 c' s act) : Good nt c0 H0 n0 c' s act :=
  ⟨g.inv, g.solo, g.frame, g.ok, g.size, g.defers, r.trans g.reach, g.le0⟩

def MQ (nt : Nat) (c0 : Ctx) (H0 : Heap) (n0 : Nat) (Q : AExit → St → Mu → Prop) : Exit → Act → World → Prop :=
  fun e act w => ∃ c s ae μ, c.w = w ∧ Good nt c0 H0 n0 c s act ∧ MOk c0 c s.H μ ∧ ae.of = e ∧ Q ae s μ

def SemM (P : Program) (nt n0 : Nat) (code : Code) (Q : AExit → St → Mu → Prop) (s : St) (μ : Mu) : Prop :=
  ∀ (c0 : Ctx) (H0 : Heap) (c : Ctx) (act : Act), Good nt c0 H0 n0 c s act → MOk c0 c s.H μ → code.wp P (MQ nt c0 H0 n0 Q) act c.w

def SemLM (P : Program) (nt n0 : Nat) (ops : Array Oper) (l : List Oper) (K : St → Mu → Prop) (s : St) (μ : Mu) : Prop :=
  ∀ (c0 : Ctx) (H0 : Heap) (c : Ctx) (act : Act), Good nt c0 H0 n0 c s act → MOk c0 c s.H μ → ∀ Qx : Exit → Act → World → Prop,
    (∀ c' s' act' μ', Good nt c0 H0 n0 c' s' act' → MOk c0 c' s'.H μ' → K s' μ' → Qx .normal act' c'.w) → wpList P ops Qx l act c.w

section
variable {P : Program} {nt n0 : Nat} {s : St} {μ : Mu} {Q : AExit → St → Mu → Prop}

/-- Code that knows of no map. -/
theorem SemM.of {code : Code} (h : SemC P nt n0 code (fun e s' => Q e s' μ) s) : SemM P nt n0 code Q s μ := by
  intro c0 H0 c act g hm
  refine Code.wp_mono ?_ (h c s.H c act g.rebase)
  rintro e a w ⟨c', s', ae, rfl, g2, rfl, hq⟩
  exact ⟨c', s', ae, μ, rfl, .join g.reach g2, hm.kept g2.reach, rfl, hq⟩

theorem SemM.mono {code : Code} {Q' : AExit → St → Mu → Prop} (h : SemM P nt n0 code Q s μ) (hq : ∀ e s μ, Q e s μ → Q' e s μ) : SemM P nt n0 code Q' s μ :=
  fun c0 H0 c act g hm => Code.wp_mono (fun _ _ _ ⟨c, s, ae, μ, h1, h2, h3, h4, h5⟩ => ⟨c, s, ae, μ, h1, h2, h3, h4, hq _ _ _ h5⟩) (h c0 H0 c act g hm)

theorem SemM.skip (h : Q .normal s μ) : SemM P nt n0 .skip Q s μ := .of (.skip h)
theorem SemM.label {l : Nat} (h : Q .normal s μ) : SemM P nt n0 (.label l) Q s μ := .of (.label h)
theorem SemM.exit {id : Nat} (h : Q (.exit id) s μ) : SemM P nt n0 (.exit id) Q s μ := .of (.exit h)
theorem SemM.ret (h : Q .ret s μ) : SemM P nt n0 .ret Q s μ := .of (.ret h)

def seqM (P : Program) (nt n0 : Nat) (y : Code) (Q : AExit → St → Mu → Prop) : AExit → St → Mu → Prop
  | .normal, s, μ => SemM P nt n0 y Q s μ
  | e, s, μ => Q e s μ

theorem SemM.seq {x y : Code} (h : SemM P nt n0 x (seqM P nt n0 y Q) s μ) : SemM P nt n0 (.seq x y) Q s μ := by
  intro c0 H0 c act g hm
  refine wp_seq (Code.wp_mono ?_ (h c0 H0 c act g hm))
  rintro e a w ⟨c', s', ae, μ', rfl, g', hm', rfl, hq⟩
  cases ae with
  | normal => exact hq c0 H0 c' a g' hm'
  | exit id => exact ⟨c', s', .exit id, μ', rfl, g', hm', rfl, hq⟩
  | ret => exact ⟨c', s', .ret, μ', rfl, g', hm', rfl, hq⟩

theorem SemM.cond {x : Operand} {a b : Code} {t : Bool} (hx : evA s.A x = .sc (.bool t)) (ht : t = true → SemM P nt n0 a Q s μ) (hf : t = false → SemM P nt n0 b Q s μ) : SemM P nt n0 (.cond x a b) Q s μ := by
  intro c0 H0 c act g hm
  have h1 := g.ev x
  rw [hx] at h1
  exact wp_cond_split h1.sc_inv (fun h => ht h c0 H0 c act g hm) (fun h => hf h c0 H0 c act g hm)

def blockM (id : Nat) (Q : AExit → St → Mu → Prop) : AExit → St → Mu → Prop
  | .exit id', s, μ => bif Nat.beq id' id then Q .normal s μ else Q (.exit id') s μ
  | e, s, μ => Q e s μ

theorem SemM.block {id : Nat} {code : Code} (h : SemM P nt n0 code (blockM id Q) s μ) : SemM P nt n0 (.block id code) Q s μ := by
  intro c0 H0 c act g hm
  refine wp_block (Code.wp_mono ?_ (h c0 H0 c act g hm))
  rintro e a w ⟨c', s', ae, μ', rfl, g', hm', rfl, hq⟩
  cases ae with
  | normal => exact ⟨c', s', .normal, μ', rfl, g', hm', rfl, hq⟩
  | exit id' =>
    simp only [blockM] at hq
    simp only [AExit.of, Exit.inBlock]
    by_cases he : id' = id
    · subst he
      simp only [Nat.beq_refl, cond_true] at hq
      rw [if_pos rfl]
      exact ⟨c', s', .normal, μ', rfl, g', hm', rfl, hq⟩
    · have : Nat.beq id' id = false := by rw [← Bool.not_eq_true, Nat.beq_eq]; exact he
      rw [this, cond_false] at hq
      rw [if_neg he]
      exact ⟨c', s', .exit id', μ', rfl, g', hm', rfl, hq⟩
  | ret => exact ⟨c', s', .ret, μ', rfl, g', hm', rfl, hq⟩

theorem SemM.scope {code : Code} (h : SemM P nt n0 code Q s μ) : SemM P nt n0 (.scope code) Q s μ := by
  intro c0 H0 c act g hm
  refine wp_scope_straight (Code.wp_mono ?_ (h c0 H0 c act g hm))
  rintro e a w ⟨c', s', ae, μ', rfl, g', hm', rfl, hq⟩
  cases ae with
  | normal => exact ⟨c', s', .normal, μ', rfl, g', hm', rfl, hq⟩
  | exit id => exact ⟨c', s', .exit id, μ', rfl, g', hm', rfl, hq⟩
  | ret => exact ⟨c', s', .ret, μ', rfl, g', hm', rfl, hq⟩

theorem MOk.weak {c0 c c' : Ctx} {s s' : St} {θ : Nat → Nat} (hw : WeakBy θ n0 s s') (hc : c' = { c with ρ := fun o => c.ρ (θ o) }) (h : MOk c0 c s.H μ) : MOk c0 c' s'.H μ := by
  subst hc
  refine ⟨h.is, fun p hp => ?_, h.nodup⟩
  obtain ⟨a1, a2, a3, a4⟩ := h.away p hp
  refine ⟨a1, a2, fun o x' hx' => ?_, a4⟩
  obtain ⟨x, hx, _⟩ := hw.heap o x' hx'
  exact a3 _ x hx
end
end Go.Av
