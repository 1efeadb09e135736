/- Code: the rules. -/
import Derived.Test.YtioookhnoobpgaaAvSem
namespace Go.Av

inductive AExit where
  | normal
  | exit (id : Nat)
  | ret

def AExit.of : AExit → Exit
  | .normal => .normal
  | .exit id => .exit id
  | .ret => .ret

def CQ (nt : Nat) (c0 : Ctx) (H0 : Heap) (n0 : Nat) (Q : AExit → St → Prop) : Exit → Act → World → Prop :=
  fun e act w => ∃ c s ae, c.w = w ∧ Good nt c0 H0 n0 c s act ∧ ae.of = e ∧ Q ae s

def SemC (P : Program) (nt n0 : Nat) (code : Code) (Q : AExit → St → Prop) (s : St) : Prop :=
  ∀ (c0 : Ctx) (H0 : Heap) (c : Ctx) (act : Act), Good nt c0 H0 n0 c s act → code.wp P (CQ nt c0 H0 n0 Q) act c.w

def SemL (P : Program) (nt n0 : Nat) (ops : Array Oper) (l : List Oper) (Q : St → Prop) (s : St) : Prop :=
  ∀ (c0 : Ctx) (H0 : Heap) (c : Ctx) (act : Act), Good nt c0 H0 n0 c s act → ∀ Qx : Exit → Act → World → Prop,
    (∀ c' s' act', Good nt c0 H0 n0 c' s' act' → Q s' → Qx .normal act' c'.w) → wpList P ops Qx l act c.w

section
variable {P : Program} {nt n0 : Nat} {s : St} {Q : AExit → St → Prop}

theorem SemC.mono {code : Code} {Q' : AExit → St → Prop} (h : SemC P nt n0 code Q s) (hq : ∀ e s, Q e s → Q' e s) : SemC P nt n0 code Q' s :=
  fun c0 H0 c act g => Code.wp_mono (fun _ _ _ ⟨c, s, ae, h1, h2, h3, h4⟩ => ⟨c, s, ae, h1, h2, h3, hq _ _ h4⟩) (h c0 H0 c act g)

theorem SemC.skip (h : Q .normal s) : SemC P nt n0 .skip Q s := fun _ _ c _ g => wp_skip ⟨c, s, .normal, rfl, g, rfl, h⟩
theorem SemC.label {l : Nat} (h : Q .normal s) : SemC P nt n0 (.label l) Q s := fun _ _ c _ g => wp_label ⟨c, s, .normal, rfl, g, rfl, h⟩
theorem SemC.exit {id : Nat} (h : Q (.exit id) s) : SemC P nt n0 (.exit id) Q s := fun _ _ c _ g => wp_exit ⟨c, s, .exit id, rfl, g, rfl, h⟩
theorem SemC.ret (h : Q .ret s) : SemC P nt n0 .ret Q s := fun _ _ c _ g => wp_ret ⟨c, s, .ret, rfl, g, rfl, h⟩

def seqQ (P : Program) (nt n0 : Nat) (y : Code) (Q : AExit → St → Prop) : AExit → St → Prop
  | .normal, s => SemC P nt n0 y Q s
  | e, s => Q e s

theorem SemC.seq {x y : Code} (h : SemC P nt n0 x (seqQ P nt n0 y Q) s) : SemC P nt n0 (.seq x y) Q s := by
  intro c0 H0 c act g
  refine wp_seq (Code.wp_mono ?_ (h c0 H0 c act g))
  rintro e a w ⟨c', s', ae, rfl, g', rfl, hq⟩
  cases ae with
  | normal => exact hq c0 H0 c' a g'
  | exit id => exact ⟨c', s', .exit id, rfl, g', rfl, hq⟩
  | ret => exact ⟨c', s', .ret, rfl, g', rfl, hq⟩

theorem SemC.cond {x : Operand} {a b : Code} {t : Bool} (hx : evA s.A x = .sc (.bool t)) (ht : t = true → SemC P nt n0 a Q s) (hf : t = false → SemC P nt n0 b Q s) : SemC P nt n0 (.cond x a b) Q s := by
  intro c0 H0 c act g
  have h1 := g.ev x
  rw [hx] at h1
  refine wp_cond_split h1.sc_inv (fun h => ht h c0 H0 c act g) (fun h => hf h c0 H0 c act g)

def blockQ (id : Nat) (Q : AExit → St → Prop) : AExit → St → Prop
  | .exit id', s => bif Nat.beq id' id then Q .normal s else Q (.exit id') s
  | e, s => Q e s

theorem SemC.block {id : Nat} {code : Code} (h : SemC P nt n0 code (blockQ id Q) s) : SemC P nt n0 (.block id code) Q s := by
  intro c0 H0 c act g
  refine wp_block (Code.wp_mono ?_ (h c0 H0 c act g))
  rintro e a w ⟨c', s', ae, rfl, g', rfl, hq⟩
  cases ae with
  | normal => exact ⟨c', s', .normal, rfl, g', rfl, hq⟩
  | exit id' =>
    simp only [blockQ] at hq
    simp only [AExit.of, Exit.inBlock]
    by_cases he : id' = id
    · subst he
      simp only [Nat.beq_refl, cond_true] at hq
      rw [if_pos rfl]
      exact ⟨c', s', .normal, rfl, g', rfl, hq⟩
    · have : Nat.beq id' id = false := by rw [← Bool.not_eq_true, Nat.beq_eq]; exact he
      rw [this, cond_false] at hq
      rw [if_neg he]
      exact ⟨c', s', .exit id', rfl, g', rfl, hq⟩
  | ret => exact ⟨c', s', .ret, rfl, g', rfl, hq⟩

/-! A state may be forgotten in part, and its objects named anew. -/

mutual
def AV.ren (θ : Nat → Nat) : AV → AV
  | .agg cs => .agg (AV.rens θ cs)
  | .tup cs => .tup (AV.rens θ cs)
  | .ref o off len => .ref (θ o) off len
  | .ptr o i k => .ptr (θ o) i k
  | .mref o => .mref (θ o)
  | .fn f caps => .fn f (AV.rens θ caps)
  | .cond b v => .cond b (AV.ren θ v)
  | .junk => .junk
  | .sc v => .sc v
  | .nils => .nils
  | .list own es => .list own es
  | .elem own e k => .elem own e k
def AV.rens (θ : Nat → Nat) : List AV → List AV
  | [] => []
  | a :: r => AV.ren θ a :: AV.rens θ r
end

theorem rens_eq (θ : Nat → Nat) (l : List AV) : AV.rens θ l = l.map (AV.ren θ) := by
  induction l with
  | nil => rfl
  | cons a r ih => simp [AV.rens, ih]

theorem VRel.unren {c : Ctx} {θ : Nat → Nat} : ∀ {d : Bool} {a : AV} {v : Value}, VRel c d (a.ren θ) v → VRel { c with ρ := fun o => c.ρ (θ o) } d a v := by
  intro d a v h
  generalize hb : a.ren θ = b at h
  induction h generalizing a with
  | junk => cases a <;> simp [AV.ren] at hb; exact .junk
  | sc => cases a <;> simp [AV.ren] at hb; subst hb; exact .sc
  | nils => cases a <;> simp [AV.ren] at hb; exact .nils
  | @agg d cs vs hl h1 h ih =>
    cases a <;> simp [AV.ren] at hb
    rename_i cs'
    rw [rens_eq] at hb
    subst hb
    refine .agg (by simpa using hl) h1 fun i a v ha hv => ih i (a.ren θ) v (by simp [ha]) hv rfl
  | @tup d cs vs hl h ih =>
    cases a <;> simp [AV.ren] at hb
    rename_i cs'
    rw [rens_eq] at hb
    subst hb
    refine .tup (by simpa using hl) fun i a v ha hv => ih i (a.ren θ) v (by simp [ha]) hv rfl
  | listNil => cases a <;> simp [AV.ren] at hb; obtain ⟨rfl, rfl⟩ := hb; exact .listNil
  | list vf hne hS hn hcap hsz hcell h1 h ih =>
    cases a <;> simp [AV.ren] at hb
    obtain ⟨rfl, rfl⟩ := hb
    refine .list vf hne hS hn hcap hsz hcell h1 fun i e k a he ha => ?_
    have := (h i e k a he ha)
    exact VRel.mono (M := fun _ => False) (c := c) (c' := { c with ρ := fun o => c.ρ (θ o) }) ⟨fun _ h => h.elim, fun _ h => h, fun _ h => h, fun _ _ => rfl, rfl⟩ this (.inl rfl)
  | @ref o off len hle =>
    cases a <;> simp [AV.ren] at hb
    obtain ⟨rfl, rfl, rfl⟩ := hb
    exact @VRel.ref { c with ρ := fun o => c.ρ (θ o) } _ _ _ hle
  | @ptr o i k =>
    cases a <;> simp [AV.ren] at hb
    obtain ⟨rfl, rfl, rfl⟩ := hb
    exact @VRel.ptr { c with ρ := fun o => c.ρ (θ o) } _ _ _
  | elem vf hS hcell h1 h ih =>
    cases a <;> simp [AV.ren] at hb
    obtain ⟨rfl, rfl, rfl⟩ := hb
    refine .elem vf hS hcell h1 fun k a ha => ?_
    exact VRel.mono (M := fun _ => False) (c := c) (c' := { c with ρ := fun o => c.ρ (θ o) }) ⟨fun _ h => h.elim, fun _ h => h, fun _ h => h, fun _ _ => rfl, rfl⟩ (h k a ha) (.inl rfl)
  | @fn f caps vs hl h ih =>
    cases a <;> simp [AV.ren] at hb
    rename_i cs'
    rw [rens_eq] at hb
    obtain ⟨rfl, rfl⟩ := hb
    refine .fn (by simpa using hl) fun i a v ha hv => ih i (a.ren θ) v (by simp [ha]) hv rfl
  | @cond b a' v h hn ih =>
    cases a <;> simp [AV.ren] at hb
    obtain ⟨rfl, rfl⟩ := hb
    exact .cond (fun ht => ih ht rfl) hn
end
end Go.Av
