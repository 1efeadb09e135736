/- Steps, in the form in which proofs take them. -/
import Derived.Test.YtioookhnoobpgaaAvLaw
namespace Go.Av

def dstOk (nt : Nat) : Option Nat → Bool
  | some d => Nat.blt d nt
  | none => true

theorem dstOk_lt {nt : Nat} {dst : Option Nat} (h : dstOk nt dst = true) : ∀ d, dst = some d → d < nt := by
  rintro d rfl
  simpa [dstOk] using h

section
variable {P : Program} {T : Ty} {nt n0 : Nat} {s : St} {ops : Array Oper} {l : List Oper} {o : Oper} {K : St → Prop}

theorem stPu {a : AV} (hT : TyOk P T) (h : Pu T (evA s.A) s.H o.op a) (hg : o.guard = none) (hd : dstOk nt o.dst = true) (k : SemL P nt n0 ops l K ⟨updO s.A o.dst a, s.H, s.n⟩) :
    SemL P nt n0 ops (o :: l) K s :=
  SemL.step hg (dstOk_lt hd) (OpR.pu hT h) fun _ _ _ ⟨h1, h2, h3⟩ => by subst h1 h2 h3; exact k

theorem stMk {a : AV} {e : Eff} (hT : TyOk P T) (h : Mk T (evA s.A) s.H s.n o.op a e) (hx : ∀ old x, e = .app old x ∨ e = .new x → x.solo = true ∧ x.spent = false)
    (hg : o.guard = none) (hd : dstOk nt o.dst = true) (k : SemL P nt n0 ops l K ⟨updO s.A o.dst a, e.seq s.n s.H, s.n + 1⟩) : SemL P nt n0 ops (o :: l) K s :=
  SemL.step hg (dstOk_lt hd) (OpR.mk hT h hx) fun _ _ _ ⟨h1, h2, h3⟩ => by subst h1 h2 h3; exact k

theorem stNew {a : AV} {x : Obj} (hT : TyOk P T) (h : Mk T (evA s.A) s.H s.n o.op a (.new x)) (h1 : x.solo = true) (h2 : x.spent = false)
    (hg : o.guard = none) (hd : dstOk nt o.dst = true) (k : SemL P nt n0 ops l K ⟨updO s.A o.dst a, upd s.H s.n (some x), s.n + 1⟩) : SemL P nt n0 ops (o :: l) K s :=
  stMk hT h (fun old y hy => by rcases hy with hy | hy; cases hy; cases hy; exact ⟨h1, h2⟩) hg hd k

theorem stApp {a : AV} {old : Nat} {x : Obj} (hT : TyOk P T) (h : Mk T (evA s.A) s.H s.n o.op a (.app old x)) (h1 : x.solo = true) (h2 : x.spent = false)
    (hg : o.guard = none) (hd : dstOk nt o.dst = true) (k : SemL P nt n0 ops l K ⟨updO s.A o.dst a, upd (upd s.H old none) s.n (some x), s.n + 1⟩) : SemL P nt n0 ops (o :: l) K s :=
  stMk hT h (fun _ y hy => by rcases hy with hy | hy; cases hy; exact ⟨h1, h2⟩; cases hy) hg hd k

theorem stZero {a : AV} (hT : TyOk P T) (h : Mk T (evA s.A) s.H s.n o.op a .none)
    (hg : o.guard = none) (hd : dstOk nt o.dst = true) (k : SemL P nt n0 ops l K ⟨updO s.A o.dst a, s.H, s.n + 1⟩) : SemL P nt n0 ops (o :: l) K s :=
  stMk hT h (fun _ y hy => by rcases hy with hy | hy; cases hy; cases hy) hg hd k

theorem stSt {H' : Heap} (hT : TyOk P T) (h : StR T (evA s.A) s.H o.op H') (hg : o.guard = none) (hd : o.dst = none) (k : SemL P nt n0 ops l K ⟨s.A, H', s.n⟩) : SemL P nt n0 ops (o :: l) K s :=
  SemL.step hg (fun d h => by rw [hd] at h; cases h) (OpR.st hT h) fun _ _ _ ⟨h1, h2, h3⟩ => by subst h1 h2 h3; rw [hd]; exact k

/-- A call of a pure function whose arguments are lists and numbers (no objects are handed over). -/
theorem stPure {x : Operand} {args : Array Operand} {ts : Array Nat} {f : Nat} {bs : List AV} {r : AV} (ho : o.op = .call { callee := .value x, args := args, argTypes := ts }) (hx : evA s.A x = .fn f [])
    (hcv : Cvs false (fun _ => none) (args.toList.map (evA s.A)) bs) (hp : Pure P f bs r) (hg : o.guard = none) (hd : dstOk nt o.dst = true)
    (k : SemL P nt n0 ops l K ⟨updO s.A o.dst r, s.H, s.n⟩) : SemL P nt n0 ops (o :: l) K s :=
  SemL.step (R := fun r' H' n' => r' = r ∧ H' = s.H ∧ n' = s.n) hg (dstOk_lt hd) (OpR.call ho hx (by rw [List.append_nil]; exact HC.of_pure hp hcv (fun _ _ h => by cases h) (.inr fun _ => rfl))) fun _ _ _ ⟨h1, h2, h3⟩ => by subst h1 h2 h3; exact k

/-- A call of a pure function to which objects are lent: its result owns what it reads. -/
theorem stPureH {x : Operand} {args : Array Operand} {ts : Array Nat} {f : Nat} {bs : List AV} {r : AV} (ho : o.op = .call { callee := .value x, args := args, argTypes := ts }) (hx : evA s.A x = .fn f [])
    (hcv : Cvs false s.H (args.toList.map (evA s.A)) bs) (hp : Pure P f bs r) (hr : OwnO r) (hg : o.guard = none) (hd : dstOk nt o.dst = true)
    (k : SemL P nt n0 ops l K ⟨updO s.A o.dst r, s.H, s.n⟩) : SemL P nt n0 ops (o :: l) K s :=
  SemL.step (R := fun r' H' n' => r' = r ∧ H' = s.H ∧ n' = s.n) hg (dstOk_lt hd) (OpR.call ho hx (by rw [List.append_nil]; exact HC.of_pure hp hcv (fun _ _ h => h) (.inl hr))) fun _ _ _ ⟨h1, h2, h3⟩ => by subst h1 h2 h3; exact k

/-- A call that is run over the heap as it is. -/
theorem stCall {x : Operand} {args : Array Operand} {ts : Array Nat} {f : Nat} {caps : List AV} {R : AV → Heap → Nat → Prop} (ho : o.op = .call { callee := .value x, args := args, argTypes := ts })
    (hx : evA s.A x = .fn f caps) (h : HC P f (args.toList.map (evA s.A) ++ caps) s.H s.n R) (hg : o.guard = none) (hd : dstOk nt o.dst = true)
    (k : ∀ r H' n', R r H' n' → SemL P nt n0 ops l K ⟨updO s.A o.dst r, H', n'⟩) : SemL P nt n0 ops (o :: l) K s :=
  SemL.step hg (dstOk_lt hd) (OpR.call ho hx h) k

/-- A guard: it is run, or it is not. -/
theorem stGuard {j t : Nat} {want b : Bool} (hg : o.guard = some (j, want)) (hj : (ops[j]?).bind (·.dst) = some t) (ht : Nat.blt t nt = true) (hb : strip (s.A t) = .sc (.bool b)) (hd : dstOk nt o.dst = true)
    (h : b = want → SemL P nt n0 ops ({ o with guard := none } :: l) K s) (hn : b ≠ want → SemL P nt n0 ops l K ⟨updO s.A o.dst (.sc undef), s.H, s.n⟩) : SemL P nt n0 ops (o :: l) K s := by
  intro c0 H0 c act g Qx hQ
  have hy := yielded_eq g hj (by simpa using ht) hb
  by_cases hbw : b = want
  · have := h hbw c0 H0 c act g Qx hQ
    unfold wpList at this ⊢
    rw [if_pos (by simp [Region.wanted])] at this
    rw [if_pos (by simp [Region.wanted, hg, hy, hbw])]
    exact this
  · have := hn hbw c0 H0 c _ (g.next (dstOk_lt hd) (.refl c) rfl (fun b hb => .inl hb) (.refl c s.H) (fun q x hx => .inr ⟨q, x, hx, rfl⟩) g.inv g.solo (Nat.le_refl _) (v := undef) .sc .sc) Qx hQ
    unfold wpList
    rw [if_neg (by simp [Region.wanted, hg, hy, hbw])]
    exact this
end

/-! Frames and heaps as lists. -/
def fr : List (Nat × AV) → Nat → AV
  | [], _ => .junk
  | (d, v) :: l, t => bif Nat.beq t d then v else fr l t

def hp : List (Nat × Obj) → Heap
  | [], _ => none
  | (d, x) :: l, o => bif Nat.beq o d then some x else hp l o

end Go.Av
