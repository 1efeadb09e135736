/- Abstract states, and what holds of code that starts in one. -/
import Derived.Test.YtioookhnoobpgaaAvSt
import Derived.Tactics
namespace Go.Av

structure St where
  A : Nat → AV
  H : Heap
  n : Nat

def strip : AV → AV
  | .cond b v => bif b then v else .junk
  | x => x

def evA (A : Nat → AV) : Operand → AV
  | .tmp t => strip (A t)
  | .const v => ofConst v
  | .global g => .sc (.pointer (some ⟨g, 0, none⟩))
  | .func f => .fn f []

/-- What lies between the beginning of a call (c0, H0) and now. -/
structure Reach (c0 : Ctx) (H0 : Heap) (n0 : Nat) (c : Ctx) (H : Heap) : Prop where
  rho : ∀ o, o < n0 → c.ρ o = c0.ρ o
  os : c.w.os = c0.w.os
  tape : c.w.tape = c0.w.tape
  output : c.w.output = c0.w.output
  size : c0.w.heap.size ≤ c.w.heap.size
  block : ∀ b, b < c0.w.heap.size → (∀ o x, H0 o = some x → (c0.ρ o).blk ≠ b) → c.w.heap[b]? = c0.w.heap[b]?
  stable : ∀ b, c0.Sa b ∨ c0.So b → c.w.heap[b]? = c0.w.heap[b]?
  sa : c.Sa = c0.Sa
  so1 : ∀ b, c0.So b → c.So b
  so2 : ∀ b, c.So b → c0.So b ∨ c0.w.heap.size ≤ b
  B : c.B = c0.B
  own : ∀ o x, H o = some x → c0.w.heap.size ≤ (c.ρ o).blk ∨ ∃ o' x', H0 o' = some x' ∧ (c0.ρ o').blk = (c.ρ o).blk

/-- A context and a frame that represent an abstract state. -/
structure Good (nt : Nat) (c0 : Ctx) (H0 : Heap) (n0 : Nat) (c : Ctx) (s : St) (act : Act) : Prop where
  inv : Inv c s.H (· < s.n)
  solo : ∀ o x, s.H o = some x → x.solo = true ∧ x.spent = false
  frame : ∀ t, VRel c false (s.A t) (act.tmps.getD t undef)
  ok : ∀ t, (s.A t).Ok (· < s.n)
  size : act.tmps.size = nt
  defers : act.defers = []
  reach : Reach c0 H0 n0 c s.H
  le0 : n0 ≤ s.n

theorem Reach.refl (c : Ctx) (H : Heap) (n0 : Nat) : Reach c H n0 c H :=
  ⟨fun _ _ => rfl, rfl, rfl, rfl, Nat.le_refl _, fun _ _ _ => rfl, fun _ _ => rfl, rfl, fun _ h => h, fun _ h => .inl h, rfl, fun o x h => .inr ⟨o, x, h, rfl⟩⟩

theorem Reach.step {c0 c c' : Ctx} {H0 H H' : Heap} {n0 : Nat} {M : Nat → Prop} (h : Reach c0 H0 n0 c H) (hle : c.Le M c') (hM : ∀ q, q < n0 → M q) (hsa : c'.Sa = c.Sa) (hso : ∀ b, c'.So b → c.So b ∨ c.w.heap.size ≤ b)
    (hfr : Fr c H c'.w) (hown : OwnRel c H c' H') : Reach c0 H0 n0 c' H' := by
  refine ⟨fun o ho => (hle.rho o (hM o ho)).trans (h.rho o ho), hfr.os.trans h.os, hfr.tape.trans h.tape, hfr.output.trans h.output, Nat.le_trans h.size hfr.size, ?_, ?_, hsa.trans h.sa, fun b hb => hle.so b (h.so1 b hb), ?_, hle.B.trans h.B, ?_⟩
  · intro b hb hn
    rw [hfr.block b (Nat.lt_of_lt_of_le hb h.size) ?_]
    · exact h.block b hb hn
    · intro o x hx he
      rcases h.own o x hx with h1 | ⟨o', x', h1, h2⟩
      · omega
      · exact hn o' x' h1 (h2.trans he)
  · intro b hb
    rw [hle.heap b ?_]
    · exact h.stable b hb
    · exact hb.imp (fun x => by rw [h.sa]; exact x) (h.so1 b)
  · intro b hb
    rcases hso b hb with h1 | h1
    · exact h.so2 b h1
    · exact .inr (Nat.le_trans h.size h1)
  · intro o x hx
    rcases hown o x hx with h1 | ⟨q, y, h1, h2⟩
    · exact .inl (Nat.le_trans h.size h1)
    · rw [← h2]; exact h.own q y h1

theorem strip_rel {c : Ctx} {a : AV} {v : Value} (h : VRel c false a v) : VRel c false (strip a) v := by
  unfold strip
  split
  · rename_i b x
    cases h with
    | cond h hn => cases b with
      | true => exact h rfl
      | false => exact .junk
  · exact h
theorem strip_ok {M : Nat → Prop} {a : AV} (h : a.Ok M) : (strip a).Ok M := by
  unfold strip
  split
  · rename_i b x
    cases h with
    | cond h => cases b with
      | true => exact h
      | false => exact .junk
  · exact h

section
variable {nt n0 : Nat} {c0 c : Ctx} {H0 : Heap} {s : St} {act : Act}
theorem Good.ev (g : Good nt c0 H0 n0 c s act) (x : Operand) : VRel c false (evA s.A x) (act.eval x) := by
  cases x with
  | tmp t => exact strip_rel (g.frame t)
  | const v => exact ofConst_rel c false v
  | global k => exact .sc
  | func f => exact .fn (by simp) (fun i a v ha _ => by simp at ha)
theorem Good.evOk (g : Good nt c0 H0 n0 c s act) (x : Operand) : (evA s.A x).Ok (· < s.n) := by
  cases x with
  | tmp t => exact strip_ok (g.ok t)
  | const v => exact ofConst_ok _ v
  | global k => exact .sc
  | func f => exact .fn (fun a ha => by simp at ha)
end

/-- What a frame is behind an operation. -/
def updO (A : Nat → AV) (d : Option Nat) (a : AV) : Nat → AV :=
  match d with
  | some d => upd A d a
  | none => A

theorem getD_set {tmps : Array Value} {d t : Nat} {v u : Value} (hd : d < tmps.size) : (tmps.setIfInBounds d v).getD t u = if t = d then v else tmps.getD t u := by
  by_cases h : t = d
  · subst h; simp [hd]
  · rw [if_neg h]
    simp only [Array.getD_eq_getD_getElem?]
    rw [Array.getElem?_setIfInBounds_ne (fun e => h e.symm)]

/-- The next state: a later context, a value put into its slot. -/
theorem Good.next {nt n0 : Nat} {c0 c c' : Ctx} {H0 : Heap} {s : St} {act : Act} (g : Good nt c0 H0 n0 c s act) {H' : Heap} {n' : Nat} {dst : Option Nat} {a : AV} {v : Value}
    (hd : ∀ d, dst = some d → d < nt) (hle : c.Le (· < s.n) c') (hsa : c'.Sa = c.Sa) (hso : ∀ b, c'.So b → c.So b ∨ c.w.heap.size ≤ b) (hfr : Fr c s.H c'.w) (hown : OwnRel c s.H c' H')
    (hI : Inv c' H' (· < n')) (hs : ∀ o x, H' o = some x → x.solo = true ∧ x.spent = false) (hn : s.n ≤ n') (hv : VRel c' false a v) (hok : a.Ok (· < n')) :
    Good nt c0 H0 n0 c' ⟨updO s.A dst a, H', n'⟩ (act.put dst v) := by
  refine ⟨hI, hs, ?_, ?_, ?_, ?_, g.reach.step hle (fun q hq => Nat.lt_of_lt_of_le hq g.le0) hsa hso hfr hown, Nat.le_trans g.le0 hn⟩
  · intro t
    cases dst with
    | none => exact (g.frame t).mono hle (.inr (g.ok t))
    | some d =>
      simp only [updO, Act.put]
      rw [getD_set (by rw [g.size]; exact hd d rfl)]
      by_cases h : t = d
      · subst h; rw [if_pos rfl, upd_same]; exact hv
      · rw [if_neg h, upd_other _ _ h]; exact (g.frame t).mono hle (.inr (g.ok t))
  · intro t
    cases dst with
    | none => exact (g.ok t).mono (fun q hq => Nat.lt_of_lt_of_le hq hn)
    | some d =>
      simp only [updO]
      by_cases h : t = d
      · subst h; rw [upd_same]; exact hok
      · rw [upd_other _ _ h]; exact (g.ok t).mono (fun q hq => Nat.lt_of_lt_of_le hq hn)
  · cases dst with
    | none => exact g.size
    | some d => simpa [Act.put] using g.size
  · cases dst with
    | none => exact g.defers
    | some d => exact g.defers

/-- What an operation comes to, wherever it is run: a value, and the heap behind it. -/
def OpR (P : Program) (nt : Nat) (o : Oper) (s : St) (R : AV → Heap → Nat → Prop) : Prop :=
  ∀ (c0 : Ctx) (H0 : Heap) (n0 : Nat) (c : Ctx) (act : Act), Good nt c0 H0 n0 c s act → ∀ (K : Act → World → Prop) (Q : Exit → Act → World → Prop),
    (∀ c' a H' n' v, R a H' n' → (∀ dst : Option Nat, (∀ d, dst = some d → d < nt) → Good nt c0 H0 n0 c' ⟨updO s.A dst a, H', n'⟩ (act.put dst v)) → K (act.put o.dst v) c'.w) →
    o.wp P act c.w K Q

theorem OpR.mono {P : Program} {nt : Nat} {o : Oper} {s : St} {R R' : AV → Heap → Nat → Prop} (h : OpR P nt o s R) (hr : ∀ a H n, R a H n → R' a H n) : OpR P nt o s R' :=
  fun c0 H0 n0 c act g K Q hK => h c0 H0 n0 c act g K Q fun c' a H' n' v hR hg => hK c' a H' n' v (hr _ _ _ hR) hg

section
variable {P : Program} {T : Ty} {nt : Nat} {o : Oper} {s : St}

theorem OpR.pu (hT : TyOk P T) {a : AV} (h : Pu T (evA s.A) s.H o.op a) : OpR P nt o s (fun a' H' n' => a' = a ∧ H' = s.H ∧ n' = s.n) := by
  intro c0 H0 n0 c act g K Q hK
  obtain ⟨v, h1, h2, h3⟩ := pu_ok hT g.inv g.ev g.evOk h
  unfold Oper.wp
  rw [h1]
  exact hK c a s.H s.n v ⟨rfl, rfl, rfl⟩ fun dst hd => g.next hd (.refl c) rfl (fun b hb => .inl hb) (.refl c s.H) (fun q x hx => .inr ⟨q, x, hx, rfl⟩) g.inv g.solo (Nat.le_refl _) h2 h3

def Eff.seq (id : Nat) (H : Heap) : Eff → Heap
  | .none => H
  | .new x => upd H id (some x)
  | .app old x => upd (upd H old Option.none) id (some x)

/-- Objects may be forgotten, and marks on them struck where they lie alone. -/
theorem Inv.forget {c : Ctx} {H H' : Heap} {M : Nat → Prop} (hI : Inv c H M)
    (h : ∀ o x, H' o = some x → ∃ y, H o = some y ∧ y.es = x.es ∧ y.esz = x.esz ∧ (x.spent = false → y.spent = false))
    (hs : ∀ o o' x x', H' o = some x → H' o' = some x' → o ≠ o' → (c.ρ o).blk = (c.ρ o').blk → x.solo = false ∧ (x.spent = false → x'.spent = true)) : Inv c H' M := by
  refine ⟨?_, ?_, ?_, hI.lt, hI.base, hI.own, ?_⟩
  · intro o x hx
    obtain ⟨y, hy, he, hz, _⟩ := h o x hx
    obtain ⟨h1, ⟨h2, h3, h4, h5⟩, h6⟩ := hI.obj o y hy
    rw [he] at h2 h3 h6
    rw [hz] at h5
    exact ⟨h1, ⟨h2, h3, h4, h5⟩, h6⟩
  · intro o o' x x' hx hx' hne hb
    obtain ⟨h1, h2⟩ := hs o o' x x' hx hx' hne hb
    refine ⟨h1, fun hsp => ⟨h2 hsp, ?_⟩⟩
    obtain ⟨y, hy, he, hz, hq⟩ := h o x hx
    obtain ⟨y', hy', he', hz', _⟩ := h o' x' hx'
    have := ((hI.sep o o' y y' hy hy' hne hb).2 (hq hsp)).2
    rw [he, hz, he', hz'] at this
    exact this
  · intro o x hx
    obtain ⟨y, hy, _⟩ := h o x hx
    exact hI.stab o y hy
  · intro o x hx
    obtain ⟨y, hy, _⟩ := h o x hx
    exact hI.low o y hy

theorem OpR.mk (hT : TyOk P T) {a : AV} {e : Eff} (h : Mk T (evA s.A) s.H s.n o.op a e) (hx : ∀ old x, e = .app old x ∨ e = .new x → x.solo = true ∧ x.spent = false) :
    OpR P nt o s (fun a' H' n' => a' = a ∧ H' = e.seq s.n s.H ∧ n' = s.n + 1) := by
  intro c0 H0 n0 c act g K Q hK
  obtain ⟨v, c', h1, hle, hsa, hso, hv, hok, hI, hfr, hown⟩ := mk_ok hT g.inv (fun q x h => h) (Nat.lt_irrefl s.n) g.ev g.evOk h
  unfold Oper.wp
  rw [h1]
  have hlt : ∀ q, (q < s.n ∨ q = s.n) → q < s.n + 1 := fun q hq => by omega
  have hI1 : Inv c' (e.apply s.n s.H) (· < s.n + 1) := hI.more hlt
  have key : Inv c' (e.seq s.n s.H) (· < s.n + 1) ∧ (∀ o x, e.seq s.n s.H o = some x → x.solo = true ∧ x.spent = false) ∧ OwnRel c s.H c' (e.seq s.n s.H) := by
    cases e with
    | none => exact ⟨hI1, g.solo, hown⟩
    | new x =>
      refine ⟨hI1, fun o y hy => ?_, hown⟩
      simp only [Eff.seq] at hy
      by_cases ho : o = s.n
      · subst ho; rw [upd_same] at hy; cases hy; exact hx 0 x (.inr rfl)
      · rw [upd_other _ _ ho] at hy; exact g.solo o y hy
    | app old x =>
      have hxs := hx old x (.inl rfl)
      have hcase : ∀ o y, (Eff.app old x).seq s.n s.H o = some y → (o = s.n ∧ y = x) ∨ (o ≠ s.n ∧ o ≠ old ∧ s.H o = some y) := by
        intro o y hy
        simp only [Eff.seq] at hy
        by_cases ho : o = s.n
        · subst ho; rw [upd_same] at hy; cases hy; exact .inl ⟨rfl, rfl⟩
        · rw [upd_other _ _ ho] at hy
          by_cases hoo : o = old
          · subst hoo; rw [upd_same] at hy; cases hy
          · rw [upd_other _ _ hoo] at hy; exact .inr ⟨ho, hoo, hy⟩
      have hback : ∀ o y, (Eff.app old x).seq s.n s.H o = some y → ∃ z, (Eff.app old x).apply s.n s.H o = some z ∧ z.es = y.es ∧ z.esz = y.esz ∧ (y.spent = false → z.spent = false) := by
        intro o y hy
        rcases hcase o y hy with ⟨rfl, rfl⟩ | ⟨h1, h2, h3⟩
        · exact ⟨_, upd_same _ _ _, rfl, rfl, fun h => h⟩
        · exact ⟨y, by simp only [Eff.apply, upd_other _ _ h1, upd_other _ _ h2]; exact h3, rfl, rfl, fun h => h⟩
      have hsep : ∀ o o' y y', (Eff.app old x).seq s.n s.H o = some y → (Eff.app old x).seq s.n s.H o' = some y' → o ≠ o' → (c'.ρ o).blk ≠ (c'.ρ o').blk := by
        intro o o' y y' hy hy' hne hb
        obtain ⟨z, hz, _, _, hsp⟩ := hback o y hy
        obtain ⟨z', hz', _, _, hsp'⟩ := hback o' y' hy'
        have hy0 : y.spent = false := by rcases hcase o y hy with ⟨_, rfl⟩ | ⟨_, _, h3⟩; exact hxs.2; exact (g.solo o y h3).2
        have hy0' : y'.spent = false := by rcases hcase o' y' hy' with ⟨_, rfl⟩ | ⟨_, _, h3⟩; exact hxs.2; exact (g.solo o' y' h3).2
        have := ((hI1.sep o o' z z' hz hz' hne hb).2 (hsp hy0)).1
        rw [hsp' hy0'] at this
        cases this
      refine ⟨hI1.forget hback fun o o' y y' hy hy' hne hb => absurd hb (hsep o o' y y' hy hy' hne), fun o y hy => ?_, fun o y hy => ?_⟩
      · rcases hcase o y hy with ⟨_, rfl⟩ | ⟨_, _, h3⟩
        · exact hxs
        · exact g.solo o y h3
      · obtain ⟨z, hz, _⟩ := hback o y hy
        exact hown o z hz
  exact hK c' a _ _ v ⟨rfl, rfl, rfl⟩ fun dst hd => g.next hd hle hsa (fun b hb => .inl (by rw [hso] at hb; exact hb)) hfr key.2.2 key.1 key.2.1 (Nat.le_succ _) hv (hok.mono hlt)

theorem StR.solo {T : Ty} {ev : Operand → AV} {H H' : Heap} {op : Op} (h : StR T ev H op H') (hs : ∀ o x, H o = some x → x.solo = true ∧ x.spent = false) :
    ∀ o x, H' o = some x → x.solo = true ∧ x.spent = false := by
  cases h with
  | @store t p x o i k y e ti hp hH hs' he ht hw hsz hle hpos =>
    intro q z hz
    by_cases hq : q = o
    · subst hq; rw [upd_same] at hz; cases hz; exact hs q y hH
    · rw [upd_other _ _ hq] at hz; exact hs q z hz

theorem OpR.st (hT : TyOk P T) {H' : Heap} (h : StR T (evA s.A) s.H o.op H') : OpR P nt o s (fun a' H'' n' => a' = .sc undef ∧ H'' = H' ∧ n' = s.n) := by
  intro c0 H0 n0 c act g K Q hK
  obtain ⟨c', h1, hle, hsa, hso, hI, hfr, hown⟩ := st_ok hT g.inv g.ev g.evOk h
  unfold Oper.wp
  rw [h1]
  have hsolo := h.solo g.solo
  exact hK c' _ _ _ undef ⟨rfl, rfl, rfl⟩ fun dst hd => g.next hd hle hsa (fun b hb => .inl (by rw [hso] at hb; exact hb)) hfr hown hI hsolo (Nat.le_refl _) .sc .sc
end
end Go.Av
