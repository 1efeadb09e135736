/- Parts of the proof, laid together. -/
import Derived.Test.YtoadgjfleafafaaGreatAva
set_option linter.all false

namespace Go.Av
structure X93 (nt : Nat) (c0 : Ctx) (H0 : X0l) (n0 : Nat) (c : Ctx) (A : Nat -> AV) (H : X0l) (M : Nat -> Prop) (act : Act) : Prop where
 inv : Inv c H M
 solo : ∀ o x, H o = some x -> x.solo = true /\ x.spent = false
 frame : ∀ t, X15 c false (A t) (act.tmps.getD t undef)
 ok : ∀ t, (A t).Ok M
 size : act.tmps.size = nt
 reach : Reach c0 H0 n0 c H
 le0 : ∀ q, q < n0 -> M q
inductive X3f where
 | none
 | new (x : Obj)
 | app (old : Nat) (x : Obj)
 | set (o : Nat) (x : Obj)
def X3f.at (id : Nat) (o : Nat) : X3f -> Option (Option Obj)
 | .none => .none
 | .new x => bif Nat.beq o id then some (some x) else .none
 | .app old x => bif Nat.beq o id then some (some x) else bif Nat.beq o old then some .none else .none
 | .set o' x => bif Nat.beq o o' then some (some x) else .none
def X3f.objs (id : Nat) : X3f -> List Nat
 | .none => []
 | .new _ => [id]
 | .app old _ => [id, old]
 | .set o _ => [o]
theorem X3f.at_objs {id o : Nat} {e : X3f} (h : o ∉ e.objs id) : e.at id o = Option.none := by
 cases e <;> simp only [X3f.objs, List.mem_cons, List.not_mem_nil, or_false, not_or, not_false_eq_true, X3f.at] at h ⊢
 ·have : Nat.beq o id = false := by rw [<- Bool.not_eq_true, Nat.beq_eq]; exact h
  rw [this]; rfl
 ·rename_i old _
  have h1 : Nat.beq o id = false := by rw [<- Bool.not_eq_true, Nat.beq_eq]; exact h.1
  have h2 : Nat.beq o old = false := by rw [<- Bool.not_eq_true, Nat.beq_eq]; exact h.2
  rw [h1, h2]; rfl
 ·rename_i q _
  have : Nat.beq o q = false := by rw [<- Bool.not_eq_true, Nat.beq_eq]; exact h
  rw [this]; rfl
def X3f.go (id : Nat) (e : X3f) (H : X0l) : X0l := fun o => (e.at id o).getD (H o)
theorem X3f.go_none (id : Nat) (H : X0l) : X3f.go id .none H = H := rfl
theorem X3f.go_new (id : Nat) (x : Obj) (H : X0l) : X3f.go id (.new x) H = upd H id (some x) := by
 funext o
 simp only [X3f.go, X3f.at]
 by_cases h : o = id
 ·subst h; rw [Xr]; simp
 ·have : Nat.beq o id = false := by rw [<- Bool.not_eq_true, Nat.beq_eq]; exact h
  rw [this, Xo _ _ h]; rfl
theorem X3f.go_app (id old : Nat) (x : Obj) (H : X0l) : X3f.go id (.app old x) H = upd (upd H old Option.none) id (some x) := by
 funext o
 simp only [X3f.go, X3f.at]
 by_cases h : o = id
 ·subst h; rw [Xr]; simp
 ·have h1 : Nat.beq o id = false := by rw [<- Bool.not_eq_true, Nat.beq_eq]; exact h
  rw [h1, Xo _ _ h, cond_false]
  by_cases h2 : o = old
  ·subst h2; rw [Xr]; simp
  ·have h3 : Nat.beq o old = false := by rw [<- Bool.not_eq_true, Nat.beq_eq]; exact h2
   rw [h3, Xo _ _ h2]; rfl
theorem X3f.go_set (id o' : Nat) (x : Obj) (H : X0l) : X3f.go id (.set o' x) H = upd H o' (some x) := by
 funext o
 simp only [X3f.go, X3f.at]
 by_cases h : o = o'
 ·subst h; rw [Xr]; simp
 ·have : Nat.beq o o' = false := by rw [<- Bool.not_eq_true, Nat.beq_eq]; exact h
  rw [this, Xo _ _ h]; rfl
inductive DOp (P : Program) (T : Ty) (A : Nat -> AV) (V : X0l) (id : Nat) (o : Oper) : AV -> X3f -> Prop
 | pu {a} (h : Pu T (evA A) V o.op a) : DOp P T A V id o a .none
 | zero {a} (h : Mk T (evA A) V id o.op a .none) : DOp P T A V id o a .none
 | new {a x} (h : Mk T (evA A) V id o.op a (.new x)) (h1 : x.solo = true) (h2 : x.spent = false) : DOp P T A V id o a (.new x)
 | app {a old x} (h : Mk T (evA A) V id o.op a (.app old x)) (h1 : x.solo = true) (h2 : x.spent = false) : DOp P T A V id o a (.app old x)
 | store {t p x q i k y e ti} (ho : o.op = .store t p x) (hdst : o.dst = none) (hp : evA A p = .ptr q i k) (hH : V q = some y) (he : y.es[i]? = some e) (ht : T t = some ti) (hw : (evA A x).whole = true)
   (hsz : (evA A x).cells.length = ti.size) (hle : k + ti.size <= e.cells.length) (hpos : ti.size ≠ 0) : DOp P T A V id o (.sc undef) (.set q { y with es := y.es.set i (X7f e k (evA A x)) })
 | pure {x args ts f bs r Vr} (ho : o.op = .call { callee := .value x, args := args, argTypes := ts }) (hx : evA A x = .fn f [])
   (hcv : Cvs false Vr (args.toList.map (evA A)) bs) (hp : X16 P f bs r) (hsub : ∀ o x, Vr o = some x -> V o = some x) (hr : Xfh r \/ ((∀ o, Vr o = none) /\ ∀ M, r.Ok M)) : DOp P T A V id o r .none
theorem Xfh.ok {a : AV} (h : Xfh a) (M : Nat -> Prop) : a.Ok M := by
 induction h with
 | sc => exact .sc
 | nils => exact .nils
 | agg _ ih => exact .agg ih
 | tup _ ih => exact .tup ih
 | listNil => exact .list
 | list => exact .list
theorem X93.next {nt n0 : Nat} {c0 c c' : Ctx} {H0 H : X0l} {A : Nat -> AV} {M M' : Nat -> Prop} {act : Act} (g : X93 nt c0 H0 n0 c A H M act) {H' : X0l} {dst : Option Nat} {a : AV} {v : Value}
  (hd : ∀ d, dst = some d -> d < nt) (hle : c.Le M c') (hsa : c'.Sa = c.Sa) (hso : ∀ b, c'.So b -> c.So b \/ c.w.heap.size <= b \/ ∃ o x, H o = some x /\ (c.ρ o).blk = b) (hfr : Fr c H c'.w) (hown : X8i c H c' H')
  (hI : Inv c' H' M') (hs : ∀ o x, H' o = some x -> x.solo = true /\ x.spent = false) (hn : ∀ q, M q -> M' q) (hv : X15 c' false a v) (hok : a.Ok M') :
  X93 nt c0 H0 n0 c' (X81 A dst a) H' M' (act.put dst v) := by
 refine ⟨hI, hs, ?_, ?_, ?_, g.reach.step hle (fun q hq => g.le0 q hq) hsa hso hfr hown, fun q hq => hn q (g.le0 q hq)⟩
 ·intro t
  cases dst with
  | none => exact (g.frame t).mono hle (.inr (g.ok t))
  | some d =>
   simp only [X81, Act.put]
   rw [Xg5 (by rw [g.size]; exact hd d rfl)]
   by_cases h : t = d
   ·subst h; rw [if_pos rfl, Xr]; exact hv
   ·rw [if_neg h, Xo _ _ h]; exact (g.frame t).mono hle (.inr (g.ok t))
 ·intro t
  cases dst with
  | none => exact (g.ok t).mono hn
  | some d =>
   simp only [X81]
   by_cases h : t = d
   ·subst h; rw [Xr]; exact hok
   ·rw [Xo _ _ h]; exact (g.ok t).mono hn
 ·cases dst with
  | none => exact g.size
  | some d => simpa [Act.put] using g.size
section
variable {nt n0 : Nat} {c0 c : Ctx} {H0 H : X0l} {A : Nat -> AV} {M : Nat -> Prop} {act : Act}
theorem X93.junk (g : X93 nt c0 H0 n0 c A H M act) {A' : Nat -> AV} (hA : ∀ t, A' t = A t \/ A' t = .junk) : X93 nt c0 H0 n0 c A' H M act :=
 ⟨g.inv, g.solo, fun t => by rcases hA t with h | h <;> rw [h]; exact g.frame t; exact .junk, fun t => by rcases hA t with h | h <;> rw [h]; exact g.ok t; exact .junk, g.size, g.reach, g.le0⟩
theorem X93.ev (g : X93 nt c0 H0 n0 c A H M act) (x : Operand) : X15 c false (evA A x) (act.eval x) := by
 cases x with
 | tmp t => exact Xgp (g.frame t)
 | const v => exact X62 c false v
 | global k => exact .sc
 | func f => exact .fn (fun _ => rfl) (by simp) (fun i a v ha _ => by simp at ha)
theorem X93.evOk (g : X93 nt c0 H0 n0 c A H M act) (x : Operand) : (evA A x).Ok M := by
 cases x with
 | tmp t => exact Xig (g.ok t)
 | const v => exact X72 _ v
 | global k => exact .sc
 | func f => exact .fn (fun a ha => by simp at ha)
theorem Inv.view (hI : Inv c H M) {V : X0l} (hV : ∀ o x, V o = some x -> H o = some x) : Inv c V M :=
 hI.forget (fun o x hx => ⟨x, hV o x hx, rfl, rfl, fun h => h⟩) (fun o o' x x' hx hx' hne hb => by
   have := hI.sep o o' x x' (hV o x hx) (hV o' x' hx') hne hb
   exact ⟨this.1, fun h => (this.2 h).1⟩)
theorem Xkt {P : Program} {T : Ty} {o : Oper} {a : AV} {e : Eff} {A' : Nat -> AV} {V : X0l} {id : Nat} (hT : X7o P T) (g : X93 nt c0 H0 n0 c A H M act) (hA : ∀ t, A' t = A t \/ A' t = .junk)
  (hV : ∀ o x, V o = some x -> H o = some x) (hid : ¬ M id) (h : Mk T (evA A') V id o.op a e) (hx : ∀ old x, e = .app old x \/ e = .new x -> x.solo = true /\ x.spent = false) (hd : ∀ d, o.dst = some d -> d < nt)
  (K : Act -> World -> Prop) (Q : Exit -> Act -> World -> Prop)
  (hK : ∀ c' v, X93 nt c0 H0 n0 c' (X81 A o.dst a) (e.seq id H) (fun q => M q \/ q = id) (act.put o.dst v) -> K (act.put o.dst v) c'.w) : o.wp P act c.w K Q := by
 have g' := g.junk hA
 obtain ⟨v, c', h1, hle, hsa, hso, hv, hok, hI1, hfr, hown⟩ := Xpm hT g.inv hV hid g'.ev g'.evOk h
 unfold Oper.wp
 rw [h1]
 have key : Inv c' (e.seq id H) (fun q => M q \/ q = id) /\ (∀ o x, e.seq id H o = some x -> x.solo = true /\ x.spent = false) /\ X8i c H c' (e.seq id H) := by
  cases e with
  | none => exact ⟨hI1, g.solo, hown⟩
  | new x =>
   refine ⟨hI1, fun o y hy => ?_, hown⟩
   simp only [Eff.seq] at hy
   by_cases ho : o = id
   ·subst ho; rw [Xr] at hy; cases hy; exact hx 0 x (.inr rfl)
   ·rw [Xo _ _ ho] at hy; exact g.solo o y hy
  | app old x =>
   have hxs := hx old x (.inl rfl)
   have hcase : ∀ o y, (Eff.app old x).seq id H o = some y -> (o = id /\ y = x) \/ (o ≠ id /\ o ≠ old /\ H o = some y) := by
    intro o y hy
    simp only [Eff.seq] at hy
    by_cases ho : o = id
    ·subst ho; rw [Xr] at hy; cases hy; exact .inl ⟨rfl, rfl⟩
    ·rw [Xo _ _ ho] at hy
     by_cases hoo : o = old
     ·subst hoo; rw [Xr] at hy; cases hy
     ·rw [Xo _ _ hoo] at hy; exact .inr ⟨ho, hoo, hy⟩
   have hback : ∀ o y, (Eff.app old x).seq id H o = some y -> ∃ z, (Eff.app old x).apply id H o = some z /\ z.es = y.es /\ z.esz = y.esz /\ (y.spent = false -> z.spent = false) := by
    intro o y hy
    rcases hcase o y hy with ⟨rfl, rfl⟩ | ⟨h1, h2, h3⟩
    ·exact ⟨_, Xr _ _ _, rfl, rfl, fun h => h⟩
    ·exact ⟨y, by simp only [Eff.apply, Xo _ _ h1, Xo _ _ h2]; exact h3, rfl, rfl, fun h => h⟩
   have hsep : ∀ o o' y y', (Eff.app old x).seq id H o = some y -> (Eff.app old x).seq id H o' = some y' -> o ≠ o' -> (c'.ρ o).blk ≠ (c'.ρ o').blk := by
    intro o o' y y' hy hy' hne hb
    obtain ⟨z, hz, _, _, hsp⟩ := hback o y hy
    obtain ⟨z', hz', _, _, hsp'⟩ := hback o' y' hy'
    have hy0 : y.spent = false := by rcases hcase o y hy with ⟨_, rfl⟩ | ⟨_, _, h3⟩; exact hxs.2; exact (g.solo o y h3).2
    have hy0' : y'.spent = false := by rcases hcase o' y' hy' with ⟨_, rfl⟩ | ⟨_, _, h3⟩; exact hxs.2; exact (g.solo o' y' h3).2
    have := ((hI1.sep o o' z z' hz hz' hne hb).2 (hsp hy0)).1
    rw [hsp' hy0'] at this
    cases this
   refine ⟨hI1.forget hback fun o o' y y' hy hy' hne hb => absurd hb (hsep o o' y y' hy hy' hne), fun o y hy => ?_, fun o y hy => ?_⟩
   ·rcases hcase o y hy with ⟨_, rfl⟩ | ⟨_, _, h3⟩
    ·exact hxs
    ·exact g.solo o y h3
   ·obtain ⟨z, hz, _⟩ := hback o y hy
    exact hown o z hz
 exact hK c' v (g.next hd hle hsa (fun b hb => .inl (by rw [hso] at hb; exact hb)) hfr key.2.2 key.1 key.2.1 (fun q => .inl) hv hok)
theorem DOp.step {P : Program} {T : Ty} {o : Oper} {a : AV} {e : X3f} {A' : Nat -> AV} {V : X0l} {id b : Nat} (hT : X7o P T) (g : X93 nt c0 H0 n0 c A H M act) (hM : ∀ q, M q -> q < b) (hA : ∀ t, A' t = A t \/ A' t = .junk)
  (hV : ∀ o x, V o = some x -> H o = some x) (hid : ¬ M id) (h : DOp P T A' V id o a e) (hd : ∀ d, o.dst = some d -> d < nt)
  (K : Act -> World -> Prop) (Q : Exit -> Act -> World -> Prop)
  (hK : ∀ c' v, X93 nt c0 H0 n0 c' (X81 A o.dst a) (e.go id H) (fun q => M q \/ q = id) (act.put o.dst v) -> K (act.put o.dst v) c'.w) : o.wp P act c.w K Q := by
 have g' := g.junk hA
 have more : ∀ {q}, M q -> M q \/ q = id := fun h => .inl h
 cases h with
 | pu h =>
  obtain ⟨v, h1, h2, h3⟩ := Xpk hT (g.inv.view hV) g'.ev g'.evOk h
  unfold Oper.wp
  rw [h1]
  exact hK c v (g.next hd (.refl c) rfl (fun b hb => .inl hb) (.refl c H) (fun q x hx => .inr ⟨q, x, hx, rfl⟩) (g.inv.more fun q h => .inl h) g.solo (fun q => .inl) h2 (h3.mono fun q h => .inl h))
 | zero h =>
  refine Xkt hT g hA hV hid h (fun old x hx => by rcases hx with hx | hx <;> cases hx) hd K Q fun c' v hg => hK c' v ?_
  exact hg
 | @new a x h hs1 hs2 =>
  refine Xkt hT g hA hV hid h (fun old y hx => by rcases hx with hx | hx <;> cases hx; exact ⟨hs1, hs2⟩) hd K Q fun c' v hg => hK c' v ?_
  rw [X3f.go_new]; exact hg
 | @app a old x h hs1 hs2 =>
  refine Xkt hT g hA hV hid h (fun old' y hx => by rcases hx with hx | hx <;> cases hx; exact ⟨hs1, hs2⟩) hd K Q fun c' v hg => hK c' v ?_
  rw [X3f.go_app]; exact hg
 | @store t p x q i k y e ti ho hdst hp hH he ht hw hsz hle hpos =>
  have hst : StR T (evA A') H o.op (upd H q (some { y with es := y.es.set i (X7f e k (evA A' x)) })) := by
   rw [ho]; exact .store hp (hV _ _ hH) (g.solo _ _ (hV _ _ hH)).1 he ht hw hsz hle hpos
  obtain ⟨c', h1, hle', hsa, hso, hI, hfr, hown⟩ := Xpf hT g.inv g'.ev g'.evOk hst
  unfold Oper.wp
  rw [h1]
  have hsolo := hst.solo g.solo
  have := hK c' undef
  rw [hdst, X3f.go_set] at this
  show K (act.put o.dst undef) c'.w
  rw [hdst]
  exact this (g.next (dst := none) (fun d h => by cases h) hle' hsa (fun b hb => .inl (by rw [hso] at hb; exact hb)) hfr hown (hI.more fun q h => .inl h) hsolo (fun q => .inl) (a := .sc undef) .sc .sc)
 | @pure x args ts f bs r Vr ho hx hcv hp hsub hr =>
  have hcall := HC.of_pure (H := H) (n := b) hp hcv (fun o x h => hV o x (hsub o x h)) (hr.imp (fun h => h) (·.1))
  let s : St := ⟨A', H, b⟩
  obtain ⟨⟨fn, code, hfn⟩, hc⟩ := hcall
  have hfx := g'.ev x
  rw [hx] at hfx
  obtain ⟨cv, hcv', hcl, hcr⟩ := hfx.fn_inv
  have hcv0 : cv = #[] := by
   have : cv.size = 0 := by simpa using hcl.symm
   exact Array.eq_empty_of_size_eq_zero this
  subst hcv0
  let vs : Array Value := args.map act.eval
  have hrun : (execOp act.eval o).run P c.w = .ok (.enter f vs) c.w := by
   simp only [execOp, ho, resolve, hcv', Deferred.ofValue, Sem.run_bind, Sem.run_pure, Result.andThen_ok, invoke, callFunc, run_program, hfn.here, hfn.name, hfn.body, Option.isNone_some, Bool.false_eq_true, if_false, Array.empty_append, Array.append_empty]
   rfl
  unfold Oper.wp
  rw [hrun, Oper.upon_enter]
  have hrel : Xd5 c false (args.toList.map (evA A')) vs := by
   refine ⟨by simp [vs], fun i a v ha hv => ?_⟩
   rw [List.getElem?_map] at ha
   simp only [vs, Array.getElem?_map] at hv
   cases hq : args[i]? with
   | none => simp [hq] at hv
   | some q =>
    have hq' : args.toList[i]? = some q := by simpa using hq
    simp only [hq', Option.map_some, Option.some.injEq] at ha
    simp only [hq, Option.map_some, Option.some.injEq] at hv
    subst ha hv
    exact g'.ev q
  have hoks : ∀ a ∈ args.toList.map (evA A'), a.Ok (· < b) := by
   intro a ha
   obtain ⟨q, _, rfl⟩ := List.mem_map.1 ha
   exact (g'.evOk q).mono hM
  refine (hc c vs (g.inv.more hM) g.solo hrel hoks).mono ?_
  rintro e w' ⟨v, r', H', n', c', ⟨rfl, rfl, rfl⟩, rfl, rfl, hle, hsa, hso, hfr, hown, hI, hs, hn, hv, hok⟩
  have hrefs : r'.Ok M := by
   rcases hr with h1 | h1
   ·exact h1.ok M
   ·exact h1.2 M
  refine hK c' v (g.next hd (hle.weaken hM) hsa hso hfr hown ?_ hs (fun q => .inl) hv (hrefs.mono fun q h => .inl h))
  refine ⟨fun o x hx => ?_, hI.sep, hI.stab, hI.lt, hI.base, hI.own, hI.low⟩
  obtain ⟨h1, _, h3⟩ := g.inv.obj o x hx
  exact ⟨.inl h1, (hI.obj o x hx).2.1, fun e he a ha => (h3 e he a ha).mono fun q h => .inl h⟩
end
end Go.Av


namespace Go.Av
def X1h : Op -> Bool
 | .move _ | .assign _ | .pick .. | .binOp .. | .unOp .. | .convert .. | .fieldAddr .. | .field .. | .extract .. | .nilCheck _ | .index .. | .slice _ _ none (some (.const _)) none => true
 | _ => false
def X45 (i mi : Nat) : Nat -> List Oper -> List Nat -> List Nat
 | k, o :: r, m :: ms =>
  let rest := X45 i mi (k + 1) r ms
  match o.dst with
  | none => rest
  | some d => bif Nat.beq k i then rest else bif Nat.blt k i then (bif Nat.testBit mi k then rest else d :: rest) else (bif Nat.testBit m i then rest else d :: rest)
 | _, _, _ => []
def Xim (t : Nat) : List Nat -> Bool
 | [] => false
 | a :: r => Nat.beq t a || Xim t r
theorem Xd8 {t : Nat} {l : List Nat} : Xim t l = true ↔ t ∈ l := by
 induction l with
 | nil => simp [Xim]
 | cons a r ih => simp only [Xim, Bool.or_eq_true, Nat.beq_eq, ih, List.mem_cons]
theorem Xie {i mi : Nat} : ∀ (l : List Oper) (ms : List Nat) (k0 k : Nat) (o : Oper) (m d : Nat), l[k]? = some o -> ms[k]? = some m -> o.dst = some d -> k0 + k ≠ i ->
    (k0 + k < i -> Nat.testBit mi (k0 + k) = false) -> (i < k0 + k -> Nat.testBit m i = false) -> d ∈ X45 i mi k0 l ms := by
  intro l
  induction l with
  | nil => intro ms k0 k o m d ho; simp at ho
  | cons a l ih =>
    intro ms k0 k o m d ho hm hd hne h1 h2
    cases ms with
    | nil => simp at hm
    | cons b ms =>
      cases k with
      | zero =>
        simp at ho hm
        subst ho hm
        simp only [X45, hd]
        have hb : Nat.beq k0 i = false := by rw [<- Bool.not_eq_true, Nat.beq_eq]; simpa using hne
        rw [hb, cond_false]
        by_cases hlt : k0 < i
        · have : Nat.blt k0 i = true := by simpa using hlt
          have h1' : Nat.testBit mi k0 = false := h1 (by simpa using hlt)
          rw [this, cond_true, h1']
          exact List.mem_cons_self ..
        · have : Nat.blt k0 i = false := by rw [<- Bool.not_eq_true]; simpa using hlt
          rw [this, cond_false, h2 (by simp at hne; omega)]
          exact List.mem_cons_self ..
      | succ k =>
        simp at ho hm
        have := ih ms (k0 + 1) k o m d ho hm hd (by omega) (fun h => by have := h1 (by omega); rwa [show k0 + 1 + k = k0 + (k + 1) by omega]) (fun h => h2 (by omega))
        simp only [X45]
        cases a.dst with
        | none => exact this
        | some d' =>
          simp only []
          cases Nat.beq k0 i <;> simp only [cond_true, cond_false] <;> first
            | exact this
            | (cases Nat.blt k0 i <;> simp only [cond_true, cond_false]
               · cases Nat.testBit b i <;> simp only [cond_true, cond_false]
                 · exact List.mem_cons_of_mem _ this
                 · exact this
               · cases Nat.testBit mi k0 <;> simp only [cond_true, cond_false]
                 · exact List.mem_cons_of_mem _ this
                 · exact this)
def frD (bad : List Nat) (A : Nat -> AV) : Nat -> AV := fun t => bif Xim t bad then .junk else A t
def Xd9 (base mi o : Nat) : Nat -> List X3f -> Bool
 | k, e :: es => (Xim o (e.objs (base + k)) && !Nat.testBit mi k) || Xd9 base mi o (k + 1) es
 | _, [] => false
def X9o (base mi : Nat) (hf : Bool) (es : List X3f) (o : Nat) : Bool :=
 hf || (Nat.ble base o && !Nat.testBit mi (o - base)) || Xd9 base mi o 0 es
def hpD (base mi : Nat) (hf : Bool) (es : List X3f) (H : X0l) : X0l := fun o => bif X9o base mi hf es o then none else H o
def X4c (base mk : Nat) (os : List Nat) : Nat -> List (Nat × Bool) -> List X3f -> List X3f -> Bool
 | i, (mi, hf) :: ms, pre, e :: es =>
  (Nat.testBit mk i || os.all (fun o => X9o base mi hf pre o && !Xim o (e.objs (base + i)))) && X4c base mk os (i + 1) ms (pre ++ [e]) es
 | _, _, _, _ => true
theorem Xeu {base mi o : Nat} : ∀ (es : List X3f) (k0 k : Nat) (e : X3f), es[k]? = some e -> Xd9 base mi o k0 es = false -> o ∈ e.objs (base + (k0 + k)) -> Nat.testBit mi (k0 + k) = true := by
 intro es
 induction es with
 | nil => intro k0 k e he; simp at he
 | cons a es ih =>
  intro k0 k e he h ho
  simp only [Xd9, Bool.or_eq_false_iff] at h
  cases k with
  | zero =>
   simp at he; subst he
   have hm : Xim o (a.objs (base + k0)) = true := Xd8.2 (by simpa using ho)
   have := h.1
   rw [hm, Bool.true_and] at this
   simpa using this
  | succ k =>
   simp at he
   have := ih (k0 + 1) k e he h.2 (by rwa [show k0 + 1 + k = k0 + (k + 1) by omega])
   rwa [show k0 + (k + 1) = k0 + 1 + k by omega]
theorem Xgj {base mk : Nat} {os : List Nat} : ∀ (es : List X3f) (i0 : Nat) (ms : List (Nat × Bool)) (pre : List X3f), X4c base mk os i0 ms pre es = true -> ms.length = es.length ->
  ∀ (i : Nat) (e : X3f) (m : Nat × Bool), es[i]? = some e -> ms[i]? = some m -> Nat.testBit mk (i0 + i) = true \/ ∀ o ∈ os, X9o base m.1 m.2 (pre ++ es.take i) o = true /\ o ∉ e.objs (base + (i0 + i)) := by
 intro es
 induction es with
 | nil => intro i0 ms pre h hl i e m he; simp at he
 | cons a es ih =>
  intro i0 ms pre h hl i e m he hm
  cases ms with
  | nil => simp at hl
  | cons b ms =>
   obtain ⟨mi, hf⟩ := b
   simp only [X4c, Bool.and_eq_true] at h
   cases i with
   | zero =>
    simp at he hm
    subst he hm
    rcases Bool.or_eq_true_iff.1 h.1 with h1 | h1
    ·exact .inl h1
    ·right
     intro o ho
     have := List.all_eq_true.1 h1 o ho
     simp only [Bool.and_eq_true, Bool.not_eq_true', <- Bool.not_eq_true, Xd8] at this
     refine ⟨by simpa using this.1, by simpa using this.2⟩
   | succ i =>
    simp at he hm
    have := ih (i0 + 1) ms (pre ++ [a]) h.2 (by simpa using hl) i e m he hm
    rw [show i0 + (i + 1) = i0 + 1 + i by omega]
    simpa using this
def X8g (nt : Nat) (bad : List Nat) : Option Nat -> Bool
 | some d => Nat.blt d nt && !Xim d bad
 | none => true
def Xai (want : Bool) : Value -> Bool
 | .bool b => b == want
 | _ => false
inductive Xk3 (P : Program) (T : Ty) (nt base : Nat) (ops : Array Oper) (ms : List Nat) : Nat -> List Oper -> (Nat -> AV) -> X0l -> List X3f -> (Nat -> AV) -> X0l -> Prop
 | nil {i A H es} : Xk3 P T nt base ops ms i [] A H es A H
 | op {i o l A H es a e A' H'} (hg : o.guard = none) (hd : X8g nt (X45 i (ms.getD i 0) 0 ops.toList ms) o.dst = true)
   (h : DOp P T (frD (X45 i (ms.getD i 0) 0 ops.toList ms) A) (hpD base (ms.getD i 0) (X1h o.op) es H) (base + i) o a e)
   (hw : X4c base (ms.getD i 0) (e.objs (base + i)) 0 ((ms.zip (ops.toList.map fun o => X1h o.op)).take i) [] es = true)
   (k : Xk3 P T nt base ops ms (i + 1) l (X81 A o.dst a) (e.go (base + i) H) (es ++ [e]) A' H') : Xk3 P T nt base ops ms i (o :: l) A H es A' H'
 | run {i o l A H es a e A' H' j t want} (hg : o.guard = some (j, want)) (hd : X8g nt (X45 i (ms.getD i 0) 0 ops.toList ms) o.dst = true) (hj : (ops[j]?).bind (·.dst) = some t) (ht : Nat.blt t nt = true)
   (hb : X5z (frD (X45 i (ms.getD i 0) 0 ops.toList ms) A t) = .sc (.bool want))
   (h : DOp P T (frD (X45 i (ms.getD i 0) 0 ops.toList ms) A) (hpD base (ms.getD i 0) (X1h o.op) es H) (base + i) o a e)
   (hw : X4c base (ms.getD i 0) (e.objs (base + i)) 0 ((ms.zip (ops.toList.map fun o => X1h o.op)).take i) [] es = true)
   (k : Xk3 P T nt base ops ms (i + 1) l (X81 A o.dst a) (e.go (base + i) H) (es ++ [e]) A' H') : Xk3 P T nt base ops ms i (o :: l) A H es A' H'
 | skip {i o l A H es A' H' j t want v} (hg : o.guard = some (j, want)) (hd : X8g nt (X45 i (ms.getD i 0) 0 ops.toList ms) o.dst = true) (hj : (ops[j]?).bind (·.dst) = some t) (ht : Nat.blt t nt = true)
   (hb : X5z (frD (X45 i (ms.getD i 0) 0 ops.toList ms) A t) = .sc v) (hbw : Xai want v = false)
   (k : Xk3 P T nt base ops ms (i + 1) l (X81 A o.dst (.sc undef)) H (es ++ [.none]) A' H') : Xk3 P T nt base ops ms i (o :: l) A H es A' H'
inductive Xox (P : Program) (T : Ty) (nt base : Nat) (ops : Array Oper) (ms : List Nat) (i : Nat) (o : Oper) (A : Nat -> AV) (H : X0l) (es : List X3f) : AV -> X3f -> Prop
 | run {a e} (hg : o.guard = none \/ ∃ j t want, o.guard = some (j, want) /\ (ops[j]?).bind (·.dst) = some t /\ t < nt /\ X5z (frD (X45 i (ms.getD i 0) 0 ops.toList ms) A t) = .sc (.bool want))
   (h : DOp P T (frD (X45 i (ms.getD i 0) 0 ops.toList ms) A) (hpD base (ms.getD i 0) (X1h o.op) es H) (base + i) o a e) : Xox P T nt base ops ms i o A H es a e
 | skip {j t want v} (hg : o.guard = some (j, want)) (hj : (ops[j]?).bind (·.dst) = some t) (ht : t < nt)
   (hb : X5z (frD (X45 i (ms.getD i 0) 0 ops.toList ms) A t) = .sc v) (hbw : Xai want v = false) : Xox P T nt base ops ms i o A H es (.sc undef) .none
def X56 (l : List Oper) (rs : List (AV × X3f)) (k : Nat) (A : Nat -> AV) : Nat -> AV :=
 match l[k]?, rs[k]? with
 | some o, some r => X81 A o.dst r.1
 | _, _ => A
def X5h (base : Nat) (rs : List (AV × X3f)) (k : Nat) (H : X0l) : X0l :=
 match rs[k]? with
 | some r => r.2.go (base + k) H
 | none => H
structure Xoy (P : Program) (T : Ty) (nt base : Nat) (ops : Array Oper) (ms : List Nat) (A : Nat -> AV) (H : X0l) (rs : List (AV × X3f)) : Prop where
 len : rs.length = ops.toList.length
 one : ∀ (i : Nat) o r, ops.toList[i]? = some o -> rs[i]? = some r -> X8g nt (X45 i (ms.getD i 0) 0 ops.toList ms) o.dst = true /\
  Xox P T nt base ops ms i o (X1g (X56 ops.toList rs) (fun _ => true) i A) (X1g (X5h base rs) (fun _ => true) i H) ((rs.take i).map (·.2)) r.1 r.2 /\
  X4c base (ms.getD i 0) (r.2.objs (base + i)) 0 ((ms.zip (ops.toList.map fun o => X1h o.op)).take i) [] ((rs.take i).map (·.2)) = true
theorem Xhh {base mk i : Nat} : ∀ (es : List X3f) (k : Nat) (ms : List (Nat × Bool)) (pre : List X3f), X4c base mk [] k ms pre es = true := by
 intro es
 induction es with
 | nil => intro k ms pre; cases ms <;> simp [X4c]
 | cons a es ih => intro k ms pre; cases ms <;> simp [X4c, ih]
theorem Xe1 {V : Type} {f g : Nat -> V -> V} {S : Nat -> Bool} : ∀ (n : Nat) (v : V), (∀ k, k < n -> ∀ u, f k u = g k u) -> X1g f S n v = X1g g S n v
 | 0, _, _ => rfl
 | n + 1, v, h => by simp only [X1g, Xe1 n v (fun k hk => h k (by omega)), h n (by omega)]
theorem Xk3.all {P : Program} {T : Ty} {nt base : Nat} {ops : Array Oper} {ms : List Nat} {i : Nat} {l : List Oper} {A : Nat -> AV} {H : X0l} {es : List X3f} {A' : Nat -> AV} {H' : X0l}
  (h : Xk3 P T nt base ops ms i l A H es A' H') : ∀ (A0 : Nat -> AV) (H0 : X0l) (rs : List (AV × X3f)), i <= ops.toList.length -> rs.length = i -> es = rs.map (·.2) -> ops.toList.drop i = l -> A = X1g (X56 ops.toList rs) (fun _ => true) i A0 -> H = X1g (X5h base rs) (fun _ => true) i H0 ->
   (∀ (k : Nat) o r, ops.toList[k]? = some o -> rs[k]? = some r -> X8g nt (X45 k (ms.getD k 0) 0 ops.toList ms) o.dst = true /\
    Xox P T nt base ops ms k o (X1g (X56 ops.toList rs) (fun _ => true) k A0) (X1g (X5h base rs) (fun _ => true) k H0) ((rs.take k).map (·.2)) r.1 r.2 /\
    X4c base (ms.getD k 0) (r.2.objs (base + k)) 0 ((ms.zip (ops.toList.map fun o => X1h o.op)).take k) [] ((rs.take k).map (·.2)) = true) ->
   ∃ rs', Xoy P T nt base ops ms A0 H0 rs' /\ A' = X1g (X56 ops.toList rs') (fun _ => true) ops.toList.length A0 /\ H' = X1g (X5h base rs') (fun _ => true) ops.toList.length H0 := by
 have ext : ∀ (i : Nat) (o : Oper) (l : List Oper) (A : Nat -> AV) (H : X0l) (a : AV) (e : X3f) (A0 : Nat -> AV) (H0 : X0l) (rs : List (AV × X3f)), rs.length = i -> ops.toList.drop i = o :: l ->
   A = X1g (X56 ops.toList rs) (fun _ => true) i A0 -> H = X1g (X5h base rs) (fun _ => true) i H0 ->
   X8g nt (X45 i (ms.getD i 0) 0 ops.toList ms) o.dst = true -> Xox P T nt base ops ms i o A H (rs.map (·.2)) a e -> X4c base (ms.getD i 0) (e.objs (base + i)) 0 ((ms.zip (ops.toList.map fun o => X1h o.op)).take i) [] (rs.map (·.2)) = true ->
   (∀ (k : Nat) o r, ops.toList[k]? = some o -> rs[k]? = some r -> X8g nt (X45 k (ms.getD k 0) 0 ops.toList ms) o.dst = true /\
    Xox P T nt base ops ms k o (X1g (X56 ops.toList rs) (fun _ => true) k A0) (X1g (X5h base rs) (fun _ => true) k H0) ((rs.take k).map (·.2)) r.1 r.2 /\
    X4c base (ms.getD k 0) (r.2.objs (base + k)) 0 ((ms.zip (ops.toList.map fun o => X1h o.op)).take k) [] ((rs.take k).map (·.2)) = true) ->
   i + 1 <= ops.toList.length /\ (rs ++ [(a, e)]).length = i + 1 /\ ops.toList.drop (i + 1) = l /\ X81 A o.dst a = X1g (X56 ops.toList (rs ++ [(a, e)])) (fun _ => true) (i + 1) A0 /\ e.go (base + i) H = X1g (X5h base (rs ++ [(a, e)])) (fun _ => true) (i + 1) H0 /\
   (∀ (k : Nat) o r, ops.toList[k]? = some o -> (rs ++ [(a, e)])[k]? = some r -> X8g nt (X45 k (ms.getD k 0) 0 ops.toList ms) o.dst = true /\
    Xox P T nt base ops ms k o (X1g (X56 ops.toList (rs ++ [(a, e)])) (fun _ => true) k A0) (X1g (X5h base (rs ++ [(a, e)])) (fun _ => true) k H0) (((rs ++ [(a, e)]).take k).map (·.2)) r.1 r.2 /\
    X4c base (ms.getD k 0) (r.2.objs (base + k)) 0 ((ms.zip (ops.toList.map fun o => X1h o.op)).take k) [] (((rs ++ [(a, e)]).take k).map (·.2)) = true) := by
  intro i o l A H a e A0 H0 rs hlen hdrop hA hH hd hone hw hall
  have hoi : ops.toList[i]? = some o := by
   have := List.getElem?_drop (xs := ops.toList) (i := i) (j := 0)
   rw [hdrop] at this; simpa using this.symm
  have hget : ∀ k, k < i -> (rs ++ [(a, e)])[k]? = rs[k]? := fun k hk => List.getElem?_append_left (by omega)
  have hA1 : ∀ k, k <= i -> X1g (X56 ops.toList (rs ++ [(a, e)])) (fun _ => true) k A0 = X1g (X56 ops.toList rs) (fun _ => true) k A0 := by
   intro k hk
   refine Xe1 k A0 fun q hq u => ?_
   simp only [X56, hget q (by omega)]
  have hH1 : ∀ k, k <= i -> X1g (X5h base (rs ++ [(a, e)])) (fun _ => true) k H0 = X1g (X5h base rs) (fun _ => true) k H0 := by
   intro k hk
   refine Xe1 k H0 fun q hq u => ?_
   simp only [X5h, hget q (by omega)]
  have hlast : (rs ++ [(a, e)])[i]? = some (a, e) := by rw [<- hlen]; simp
  refine ⟨(List.getElem?_eq_some_iff.1 hoi).1, by simp [hlen], ?_, ?_, ?_, ?_⟩
  ·have := congrArg List.tail hdrop
   rw [List.tail_drop] at this
   simpa using this
  ·show _ = bif true then X56 ops.toList (rs ++ [(a, e)]) i (X1g _ _ i A0) else _
   rw [hA1 i (Nat.le_refl _), <- hA, cond_true]
   simp only [X56, hoi, hlast]
  ·show _ = bif true then X5h base (rs ++ [(a, e)]) i (X1g _ _ i H0) else _
   rw [hH1 i (Nat.le_refl _), <- hH, cond_true]
   simp only [X5h, hlast]
  ·intro k o' r ho' hr
   by_cases hk : k < i
   ·rw [hget k hk] at hr
    have := hall k o' r ho' hr
    rw [hA1 k (by omega), hH1 k (by omega), List.take_append_of_le_length (by omega)]
    exact this
   ·have hke : k = i := by
     have := (List.getElem?_eq_some_iff.1 hr).1
     simp at this; omega
    subst hke
    rw [hlast] at hr
    cases hr
    rw [hoi] at ho'
    cases ho'
    have ht : (rs ++ [(a, e)]).take k = rs := by rw [<- hlen]; simp
    rw [hA1 k (Nat.le_refl _), hH1 k (Nat.le_refl _), <- hA, <- hH, ht]
    exact ⟨hd, hone, hw⟩
 induction h with
 | @nil i A H es =>
  intro A0 H0 rs hile hlen hes hdrop hA hH hall
  have hle : ops.toList.length <= i := List.drop_eq_nil_iff.1 hdrop
  have hi : i = ops.toList.length := by omega
  subst hi
  exact ⟨rs, ⟨hlen, hall⟩, hA, hH⟩
 | @op i o l A H es a e A' H' hg hd h hw k ih =>
  intro A0 H0 rs hile hlen hes hdrop hA hH hall
  subst hes
  obtain ⟨h0, h1, h2, h3, h4, h5⟩ := ext i o l A H a e A0 H0 rs hlen hdrop hA hH hd (.run (.inl hg) h) hw hall
  exact ih A0 H0 _ h0 h1 (by simp) h2 h3 h4 h5
 | @run i o l A H es a e A' H' j t want hg hd hj ht hb h hw k ih =>
  intro A0 H0 rs hile hlen hes hdrop hA hH hall
  subst hes
  obtain ⟨h0, h1, h2, h3, h4, h5⟩ := ext i o l A H a e A0 H0 rs hlen hdrop hA hH hd (.run (.inr ⟨j, t, want, hg, hj, by simpa using ht, hb⟩) h) hw hall
  exact ih A0 H0 _ h0 h1 (by simp) h2 h3 h4 h5
 | @skip i o l A H es A' H' j t want v hg hd hj ht hb hbw k ih =>
  intro A0 H0 rs hile hlen hes hdrop hA hH hall
  subst hes
  obtain ⟨h0, h1, h2, h3, h4, h5⟩ := ext i o l A H (.sc undef) .none A0 H0 rs hlen hdrop hA hH hd (.skip hg hj (by simpa using ht) hb hbw) (Xhh (i := 0) _ _ _ _) hall
  exact ih A0 H0 _ h0 h1 (by simp) h2 h3 h4 h5
end Go.Av


namespace Go.Av
theorem Xit {V : Type} {f : Nat -> V -> V} {i : Nat} : ∀ (n : Nat) (v : V), i <= n -> X1g f (fun k => Nat.blt k i) n v = X1g f (fun _ => true) i v := by
  intro n
  induction n with
  | zero => intro v h; have : i = 0 := by omega
            subst this; rfl
  | succ n ih =>
    intro v h
    by_cases hi : i = n + 1
    · subst hi
      refine X41 _ v fun k hk => .inr ?_
      simpa using hk
    · have : Nat.blt n i = false := by rw [<- Bool.not_eq_true]; simp; omega
      simp only [X1g, this, cond_false]
      exact ih v (by omega)
def gA (l : List Oper) (rs : List (AV × X3f)) (t : Nat) (k : Nat) (v : AV) : AV :=
 match l[k]?, rs[k]? with
 | some o, some r => if o.dst = some t then r.1 else v
 | _, _ => v
def gH (base : Nat) (rs : List (AV × X3f)) (o : Nat) (k : Nat) (u : Option Obj) : Option Obj :=
 match rs[k]? with
 | some r => (r.2.at (base + k) o).getD u
 | none => u
theorem Xd7 (l : List Oper) (rs : List (AV × X3f)) (S : Nat -> Bool) (A0 : Nat -> AV) (t : Nat) : ∀ n, X1g (X56 l rs) S n A0 t = X1g (gA l rs t) S n (A0 t) := by
 intro n
 induction n with
 | zero => rfl
 | succ n ih =>
  simp only [X1g]
  cases S n with
  | false => simpa using ih
  | true =>
   simp only [cond_true]
   rw [<- ih]
   unfold X56 gA
   cases l[n]? with
   | none => rfl
   | some o =>
    cases rs[n]? with
    | none => rfl
    | some r =>
     simp only []
     cases hd : o.dst with
     | none => simp [X81]
     | some d =>
      simp only [X81, Option.some.injEq]
      by_cases h : t = d
      ·subst h; rw [Xr, if_pos rfl]
      ·rw [Xo _ _ h, if_neg (fun e => h e.symm)]
theorem Xay (base : Nat) (rs : List (AV × X3f)) (S : Nat -> Bool) (H0 : X0l) (o : Nat) : ∀ n, X1g (X5h base rs) S n H0 o = X1g (gH base rs o) S n (H0 o) := by
 intro n
 induction n with
 | zero => rfl
 | succ n ih =>
  simp only [X1g]
  cases S n with
  | false => simpa using ih
  | true =>
   simp only [cond_true]
   rw [<- ih]
   unfold X5h gH
   cases rs[n]? with
   | none => rfl
   | some r => rfl
def X4d : Nat -> List Oper -> Bool
 | i, o :: l => (X6o o).all (fun j => Nat.blt j i) && X4d (i + 1) l
 | _, [] => true
theorem X53 : ∀ (l : List Oper) (i0 : Nat), X4d i0 l = true -> ∀ (i : Nat) o, l[i]? = some o -> ∀ j ∈ X6o o, j < i0 + i := by
 intro l
 induction l with
 | nil => intro i0 h i o ho; simp at ho
 | cons a l ih =>
  intro i0 h i o ho j hj
  simp only [X4d, Bool.and_eq_true] at h
  cases i with
  | zero =>
   simp at ho; subst ho
   simpa using List.all_eq_true.1 h.1 j hj
  | succ i =>
   have := ih (i0 + 1) h.2 i o (by simpa using ho) j hj
   omega
section
variable {P : Program} {T : Ty} {nt n0 base : Nat} {ops : Array Oper} {A0 : Nat -> AV} {H0 : X0l} {rs : List (AV × X3f)}
structure Xpy (l : List Oper) (S : Nat -> Bool) : Prop where
 lt : ∀ k, S k = true -> k < l.length
 pre : ∀ (k : Nat), S k = true -> ∀ q, ((X1d l).getD k 0).testBit q = true -> S q = true
theorem Xpc (hall : Xoy P T nt base ops (X1d ops.toList) A0 H0 rs) {S : Nat -> Bool} (hS : Xpy ops.toList S) {i : Nat} (hi : i < ops.toList.length) (hn : S i = false)
  (hr : ∀ q, ((X1d ops.toList).getD i 0).testBit q = true -> S q = true) {t : Nat} (ht : Xim t (X45 i ((X1d ops.toList).getD i 0) 0 ops.toList (X1d ops.toList)) = false) :
  X1g (X56 ops.toList rs) (fun _ => true) i A0 t = X1g (X56 ops.toList rs) S ops.toList.length A0 t := by
 rw [Xd7, Xd7, <- Xit ops.toList.length _ (by omega)]
 refine X41 _ _ fun k hk => ?_
 have ho := List.getElem?_eq_getElem hk
 have hml : k < (X1d ops.toList).length := by rw [(Xb4 _).len]; exact hk
 by_cases hd : (ops.toList[k]).dst = some t
 ·right
  have hnot : t ∉ X45 i ((X1d ops.toList).getD i 0) 0 ops.toList (X1d ops.toList) := fun h => by rw [Xd8.2 h] at ht; cases ht
  have hmk : (X1d ops.toList)[k]? = some ((X1d ops.toList).getD k 0) := by simp [List.getD, hml]
  by_cases hki : k = i
  ·subst hki; rw [hn]; exact (show Nat.blt k k = false by rw [<- Bool.not_eq_true, Nat.blt_eq]; omega)
  ·by_cases hlt : k < i
   ·have hb : Nat.blt k i = true := by simpa using hlt
    rw [hb]
    cases hq : Nat.testBit ((X1d ops.toList).getD i 0) k with
    | true => exact (hr k hq).symm
    | false =>
     exact absurd (Xie (i := i) (mi := (X1d ops.toList).getD i 0) _ _ 0 k _ _ t ho hmk hd (by omega) (fun _ => by simpa using hq) (fun h => by omega)) hnot
   ·have hb : Nat.blt k i = false := by rw [<- Bool.not_eq_true]; simpa using hlt
    rw [hb]
    cases hq : Nat.testBit ((X1d ops.toList).getD k 0) i with
    | true =>
     cases hs : S k with
     | false => rfl
     | true => have := hS.pre k hs i hq; rw [hn] at this; cases this
    | false =>
     exact absurd (Xie (i := i) (mi := (X1d ops.toList).getD i 0) _ _ 0 k _ _ t ho hmk hd (by omega) (fun h => by omega) (fun _ => hq)) hnot
 ·left
  intro u
  unfold gA
  rw [ho]
  cases rs[k]? with
  | none => rfl
  | some r => simp only [if_neg hd]
theorem Xf3 (hall : Xoy P T nt base ops (X1d ops.toList) A0 H0 rs) {k i o : Nat} {r ri : AV × X3f} (hr : rs[k]? = some r) (hri : rs[i]? = some ri) (hik : i < k) (ho : o ∈ r.2.objs (base + k)) :
  Nat.testBit ((X1d ops.toList).getD k 0) i = true \/
   (X9o base ((X1d ops.toList).getD i 0) ((ops.toList[i]?).elim false fun o => X1h o.op) ((rs.take i).map (·.2)) o = true /\ o ∉ ri.2.objs (base + i)) := by
 have hk : k < rs.length := (List.getElem?_eq_some_iff.1 hr).1
 have hkl : k < ops.toList.length := by rw [<- hall.len]; exact hk
 obtain ⟨_, _, hw⟩ := hall.one k _ r (List.getElem?_eq_getElem hkl) hr
 have hml : (X1d ops.toList).length = ops.toList.length := (Xb4 _).len
 have hil : i < ops.toList.length := by omega
 have := Xgj _ 0 _ [] hw (by simp [hml, hall.len]) i ri.2 ((X1d ops.toList).getD i 0, X1h (ops.toList[i]).op) ?_ ?_
 ·simp only [Nat.zero_add, List.nil_append] at this
  refine this.imp id fun h => ?_
  have := h o ho
  rw [<- List.map_take, List.take_take, Nat.min_eq_left (by omega)] at this
  rw [List.getElem?_eq_getElem hil]
  exact this
 ·rw [List.getElem?_map, List.getElem?_take, if_pos hik, hri]; rfl
 ·rw [List.getElem?_take, if_pos hik, List.getElem?_zip_eq_some]
  refine ⟨?_, ?_⟩
  ·have : i < (X1d ops.toList).length := by omega
   simp only [List.getD, List.getElem?_eq_getElem this, Option.getD_some]
  ·rw [List.getElem?_map, List.getElem?_eq_getElem hil]; rfl
theorem Xpb (hall : Xoy P T nt base ops (X1d ops.toList) A0 H0 rs) {S : Nat -> Bool} (hS : Xpy ops.toList S) {i : Nat} (hi : i < ops.toList.length) (hn : S i = false)
  (hr : ∀ q, ((X1d ops.toList).getD i 0).testBit q = true -> S q = true) {o : Nat}
  (ht : X9o base ((X1d ops.toList).getD i 0) (X1h (ops.toList[i]).op) ((rs.take i).map (·.2)) o = false) :
  X1g (X5h base rs) (fun _ => true) i H0 o = X1g (X5h base rs) S ops.toList.length H0 o := by
 rw [Xay, Xay, <- Xit ops.toList.length _ (by omega)]
 refine X41 _ _ fun k hk => ?_
 have hkr : k < rs.length := by rw [hall.len]; exact hk
 have hir : i < rs.length := by rw [hall.len]; exact hi
 have hrk := List.getElem?_eq_getElem hkr
 by_cases hd : o ∈ (rs[k]).2.objs (base + k)
 ·right
  by_cases hki : k = i
  ·subst hki; rw [hn]; exact (show Nat.blt k k = false by rw [<- Bool.not_eq_true, Nat.blt_eq]; omega)
  ·by_cases hlt : k < i
   ·have hb : Nat.blt k i = true := by simpa using hlt
    rw [hb]
    simp only [X9o, Bool.or_eq_false_iff] at ht
    have := Xeu _ 0 k (rs[k]).2 (by rw [List.getElem?_map, List.getElem?_take, if_pos hlt, hrk]; rfl) ht.2 (by simpa using hd)
    exact (hr k (by simpa using this)).symm
   ·have hb : Nat.blt k i = false := by rw [<- Bool.not_eq_true]; simpa using hlt
    rw [hb]
    rcases Xf3 hall hrk (List.getElem?_eq_getElem hir) (by omega) hd with h | h
    ·cases hs : S k with
     | false => rfl
     | true => have := hS.pre k hs i h; rw [hn] at this; cases this
    ·rw [List.getElem?_eq_getElem hi] at h
     have h1 : X9o base ((X1d ops.toList).getD i 0) (X1h (ops.toList[i]).op) ((rs.take i).map (·.2)) o = true := h.1
     rw [ht] at h1; cases h1
 ·left
  intro u
  unfold gH
  rw [hrk]
  simp only [X3f.at_objs hd, Option.getD_none]
theorem Xmd (hall : Xoy P T nt base ops (X1d ops.toList) A0 H0 rs) {S : Nat -> Bool} (hS : Xpy ops.toList S) {i : Nat} (hi : i < ops.toList.length) (hn : S i = false)
  {r : AV × X3f} (hri : rs[i]? = some r) (hdst : X8g nt (X45 i ((X1d ops.toList).getD i 0) 0 ops.toList (X1d ops.toList)) (ops.toList[i]).dst = true) :
  X1g (X56 ops.toList rs) (fun k => S k || Nat.beq k i) ops.toList.length A0 = X81 (X1g (X56 ops.toList rs) S ops.toList.length A0) (ops.toList[i]).dst r.1 := by
 funext t
 rw [Xd7]
 have hoi := List.getElem?_eq_getElem hi
 by_cases hd : (ops.toList[i]).dst = some t
 ·rw [Xch hn _ _ hi]
  ·rw [hd]
   simp only [X81, Xr]
   unfold gA
   rw [hoi, hri]
   simp only [if_pos hd]
  ·intro k hk hs
   by_cases hki : k < i
   ·exact .inr hki
   ·left
    intro u
    have hne : k ≠ i := fun h => by subst h; rw [hn] at hs; cases hs
    have hok := List.getElem?_eq_getElem hk
    have hml : k < (X1d ops.toList).length := by rw [(Xb4 _).len]; exact hk
    have hmk : (X1d ops.toList)[k]? = some ((X1d ops.toList).getD k 0) := by simp [List.getD, hml]
    have hdk : (ops.toList[k]).dst ≠ some t := by
     intro hdk
     rw [hd] at hdst
     simp only [X8g, Bool.and_eq_true, Bool.not_eq_true'] at hdst
     have hnot : t ∉ X45 i ((X1d ops.toList).getD i 0) 0 ops.toList (X1d ops.toList) := fun h => by rw [Xd8.2 h] at hdst; cases hdst.2
     cases hq : Nat.testBit ((X1d ops.toList).getD k 0) i with
     | true => have := hS.pre k hs i hq; rw [hn] at this; cases this
     | false => exact hnot (Xie (i := i) (mi := (X1d ops.toList).getD i 0) _ _ 0 k _ _ t hok hmk hdk (by omega) (fun h => by omega) (fun _ => hq))
    unfold gA
    rw [hok]
    cases rs[k]? with
    | none => rfl
    | some r => simp only [if_neg hdk]
 ·have : X81 (X1g (X56 ops.toList rs) S ops.toList.length A0) (ops.toList[i]).dst r.1 t = X1g (X56 ops.toList rs) S ops.toList.length A0 t := by
   cases h : (ops.toList[i]).dst with
   | none => rfl
   | some d => simp only [X81]; exact Xo _ _ (fun e => hd (by rw [h, e]))
  rw [this, Xd7]
  refine X41 _ _ fun k hk => ?_
  by_cases hki : k = i
  ·subst hki
   left
   intro u
   unfold gA
   rw [hoi, hri]
   simp only [if_neg hd]
  ·right
   have : Nat.beq k i = false := by rw [<- Bool.not_eq_true, Nat.beq_eq]; exact hki
   simp [this]
theorem Xmc (hall : Xoy P T nt base ops (X1d ops.toList) A0 H0 rs) {S : Nat -> Bool} (hS : Xpy ops.toList S) {i : Nat} (hi : i < ops.toList.length) (hn : S i = false)
  {r : AV × X3f} (hri : rs[i]? = some r) :
  X1g (X5h base rs) (fun k => S k || Nat.beq k i) ops.toList.length H0 = r.2.go (base + i) (X1g (X5h base rs) S ops.toList.length H0) := by
 funext o
 rw [Xay]
 by_cases hd : o ∈ r.2.objs (base + i)
 ·rw [Xch hn _ _ hi]
  ·unfold gH
   rw [hri]
   simp only [X3f.go]
   rw [Xay]
   rfl
  ·intro k hk hs
   by_cases hki : k < i
   ·exact .inr hki
   ·left
    intro u
    have hne : k ≠ i := fun h => by subst h; rw [hn] at hs; cases hs
    have hkr : k < rs.length := by rw [hall.len]; exact hk
    have hrk := List.getElem?_eq_getElem hkr
    have hdk : o ∉ (rs[k]).2.objs (base + k) := by
     intro hdk
     rcases Xf3 hall hrk hri (by omega) hdk with h | h
     ·have := hS.pre k hs i h; rw [hn] at this; cases this
     ·exact h.2 hd
    unfold gH
    rw [hrk]
    simp only [X3f.at_objs hdk, Option.getD_none]
 ·have : r.2.go (base + i) (X1g (X5h base rs) S ops.toList.length H0) o = X1g (X5h base rs) S ops.toList.length H0 o := by
   simp only [X3f.go, X3f.at_objs hd, Option.getD_none]
  rw [this, Xay]
  refine X41 _ _ fun k hk => ?_
  by_cases hki : k = i
  ·subst hki
   left
   intro u
   unfold gH
   rw [hri]
   simp only [X3f.at_objs hd, Option.getD_none]
  ·right
   have : Nat.beq k i = false := by rw [<- Bool.not_eq_true, Nat.beq_eq]; exact hki
   simp [this]
theorem Xlv {c0 c : Ctx} {H0 H : X0l} {A : Nat -> AV} {M : Nat -> Prop} {act : Act} (g : X93 nt c0 H0 n0 c A H M act) {j t : Nat} {b : Bool} (hj : (ops[j]?).bind (·.dst) = some t) (ht : t < nt)
  (hb : X5z (A t) = .sc (.bool b)) : yielded ops act.tmps j = some b := by
 have h1 := g.ev (.tmp t)
 simp only [evA, hb] at h1
 have h2 := h1.sc_inv
 simp only [Act.eval] at h2
 have hlt : t < act.tmps.size := by rw [g.size]; exact ht
 unfold yielded
 rw [hj]
 simp only [Option.bind_some, Array.getElem?_eq_getElem hlt]
 have : act.tmps[t] = .bool b := by simpa [hlt] using h2
 rw [this]
def AtS (base : Nat) (S : Nat -> Bool) (q : Nat) : Prop := q < base \/ ∃ k, S k = true /\ q = base + k
theorem X1n {md : Region.Mode} {listed : Array Bool} {i : Nat} : i ∈ Region.ready md ops listed ↔
  i < ops.size /\ listed.getD i true = false /\ ((ops[i]?).map (·.after.all fun e => !Region.binds md e || listed.getD e.on false)).getD false = true := by
 simp [Region.ready]
theorem Xgx {c0 c : Ctx} {H0 H : X0l} {A : Nat -> AV} {M : Nat -> Prop} {act : Act} (g : X93 nt c0 H0 n0 c A H M act) {o : Oper} {j t : Nat} {want : Bool} {v : Value} (hg : o.guard = some (j, want)) (hj : (ops[j]?).bind (·.dst) = some t) (ht : t < nt)
  (hb : X5z (A t) = .sc v) (hv : Xai want v = false) : Region.wanted o (yielded ops act.tmps) = false := by
 have h1 := g.ev (.tmp t)
 simp only [evA, hb] at h1
 have h2 := h1.sc_inv
 simp only [Act.eval] at h2
 have hlt : t < act.tmps.size := by rw [g.size]; exact ht
 have h3 : act.tmps[t] = v := by simpa [hlt] using h2
 unfold Region.wanted yielded
 rw [hg]
 simp only [hj, Option.bind_some, Array.getElem?_eq_getElem hlt, h3]
 cases v <;> first | rfl | (simp only [Xai] at hv; simpa using hv)
theorem Xj7 {c0 c : Ctx} {H0 : X0l} {s : St} {act : Act} (g : X33 nt c0 H0 n0 c s act) {o : Oper} {j t : Nat} {want : Bool} {v : Value} (hg : o.guard = some (j, want)) (hj : (ops[j]?).bind (·.dst) = some t) (ht : t < nt)
  (hb : X5z (s.A t) = .sc v) (hv : Xai want v = false) : Region.wanted o (yielded ops act.tmps) = false :=
 Xgx (M := (· < s.n)) ⟨g.inv, g.solo, g.frame, g.ok, g.size, g.reach, fun q hq => Nat.lt_of_lt_of_le hq g.le0⟩ hg hj ht hb hv
theorem Xpg {s : St} {l : List Oper} {o : Oper} {K : St -> Prop} {j t : Nat} {want : Bool} {v : Value} (hg : o.guard = some (j, want)) (hj : (ops[j]?).bind (·.dst) = some t) (ht : Nat.blt t nt = true) (hb : X5z (s.A t) = .sc v) (hd : Xbb nt o.dst = true)
  (hv : Xai want v = false) (hn : Xec P nt n0 ops l K ⟨X81 s.A o.dst (.sc undef), s.H, s.n⟩) : Xec P nt n0 ops (o :: l) K s := by
 intro c0 H0 c act g Qx hQ R
 have hw := Xj7 g hg hj (by simpa using ht) hb hv
 have := hn c0 H0 c _ (g.next (X4v hd) (.refl c) rfl (fun b hb => .inl hb) (.refl c s.H) (fun q x hx => .inr ⟨q, x, hx, rfl⟩) g.inv g.solo (Nat.le_refl _) (v := undef) .sc .sc) Qx (fun c' s' act' g' hd' => hQ c' s' act' g' (hd'.trans (put_defers _ _ _))) R
 exact Xcb hw this
theorem Xhl {o : Oper} {ys : Nat -> Option Bool} (h : o.guard = none) : Region.wanted o ys = true := by simp [Region.wanted, h]
theorem Xhk {o : Oper} {ys : Nat -> Option Bool} {j : Nat} {want b : Bool} (h : o.guard = some (j, want)) (hy : ys j = some b) : Region.wanted o ys = (b == want) := by
 simp [Region.wanted, h, hy]
theorem Xg8 (hT : X7o P T) (hpre : X4d 0 ops.toList = true) (hall : Xoy P T nt base ops (X1d ops.toList) A0 H0 rs) {Q : X0d -> St -> Prop}
  (hQ : Q .normal ⟨X1g (X56 ops.toList rs) (fun _ => true) ops.toList.length A0, X1g (X5h base rs) (fun _ => true) ops.toList.length H0, base + ops.toList.length⟩)
  {c0 : Ctx} {HH : X0l} {ds : List Deferred} (hb0 : n0 <= base) :
  ∀ (fuel : Nat) (listed : Array Bool) (L : List Nat) (c : Ctx) (act : Act), listed.size = ops.size -> L.length <= fuel -> (∀ k, k < ops.size -> listed.getD k false = false -> k ∈ L) ->
   (∀ (i : Nat) o, ops.toList[i]? = some o -> listed.getD i false = true -> ∀ j ∈ X6o o, listed.getD j false = true) ->
   X93 nt c0 HH n0 c (X1g (X56 ops.toList rs) (fun k => listed.getD k false) ops.toList.length A0) (X1g (X5h base rs) (fun k => listed.getD k false) ops.toList.length H0)
    (AtS base (fun k => listed.getD k false)) act ->
   act.defers = ds -> wpAny P .any ops (CQ nt c0 HH n0 ds Q) fuel listed act c.w := by
 have hlen : ops.toList.length = ops.size := Array.length_toList
 have fin : ∀ (listed : Array Bool) (c : Ctx) (act : Act), listed.size = ops.size -> (∀ (i : Nat) o, ops.toList[i]? = some o -> listed.getD i false = true -> ∀ j ∈ X6o o, listed.getD j false = true) ->
   X93 nt c0 HH n0 c (X1g (X56 ops.toList rs) (fun k => listed.getD k false) ops.toList.length A0) (X1g (X5h base rs) (fun k => listed.getD k false) ops.toList.length H0)
    (AtS base (fun k => listed.getD k false)) act -> Region.ready .any ops listed = [] -> act.defers = ds -> CQ nt c0 HH n0 ds Q .normal act c.w := by
  intro listed c act hsz hdown g hr hds
  have hfull : ∀ k, k < ops.size -> listed.getD k false = true := by
   intro k
   induction k using Nat.strongRecOn with
   | _ k ih =>
    intro hk
    cases hl : listed.getD k false with
    | true => rfl
    | false =>
     have hkl : k < listed.size := by omega
     have hmem : k ∈ Region.ready .any ops listed := by
      rw [X1n]
      refine ⟨hk, ?_, ?_⟩
      ·simp only [Array.getD_eq_getD_getElem?, Array.getElem?_eq_getElem hkl, Option.getD_some] at hl ⊢
       exact hl
      ·rw [Array.getElem?_eq_getElem hk]
       simp only [Option.map_some, Option.getD_some]
       rw [Array.all_eq_true_iff_forall_mem]
       intro e he
       cases hbd : Region.binds .any e with
       | false => rfl
       | true =>
        have hpk : ops.toList[k]? = some ops[k] := by simp [hk]
        have hin : e.on ∈ X6o ops[k] := List.mem_map.2 ⟨e, List.mem_filter.2 ⟨by simpa using he, hbd⟩, rfl⟩
        have hlt := X53 _ 0 hpre k _ hpk e.on hin
        rw [ih e.on (by omega) (by omega)]
        rfl
     rw [hr] at hmem; cases hmem
  have hcongr : ∀ k, k < ops.toList.length -> listed.getD k false = true := fun k hk => hfull k (by omega)
  refine ⟨c, ⟨_, _, _⟩, .normal, rfl, ?_, hds, rfl, hQ⟩
  have hA : X1g (X56 ops.toList rs) (fun k => listed.getD k false) ops.toList.length A0 = X1g (X56 ops.toList rs) (fun _ => true) ops.toList.length A0 :=
   X41 _ _ fun k hk => .inr (hcongr k hk)
  have hH : X1g (X5h base rs) (fun k => listed.getD k false) ops.toList.length H0 = X1g (X5h base rs) (fun _ => true) ops.toList.length H0 :=
   X41 _ _ fun k hk => .inr (hcongr k hk)
  rw [hA, hH] at g
  have hM : ∀ q, AtS base (fun k => listed.getD k false) q -> q < base + ops.toList.length := by
   rintro q (h | ⟨k, hk, rfl⟩)
   ·omega
   ·have : k < listed.size := by
     cases Nat.lt_or_ge k listed.size with
     | inl h => exact h
     | inr h => simp [Array.getD_eq_getD_getElem?, Array.getElem?_eq_none h] at hk
    omega
  exact ⟨g.inv.more hM, g.solo, g.frame, fun t => (g.ok t).mono hM, g.size, g.reach, by show n0 <= base + _; omega⟩
 intro fuel
 induction fuel with
 | zero =>
  intro listed L c act hsz hL hin hdown g hds
  have hnil : L = [] := List.length_eq_zero_iff.1 (by omega)
  subst hnil
  have hr : Region.ready .any ops listed = [] := by
   rw [List.eq_nil_iff_forall_not_mem]
   intro i hi
   rw [X1n] at hi
   obtain ⟨h1, h2, _⟩ := hi
   have := hin i h1 (by
    have hil : i < listed.size := by omega
    simp only [Array.getD_eq_getD_getElem?, Array.getElem?_eq_getElem hil, Option.getD_some] at h2 ⊢
    exact h2)
   cases this
  exact ⟨hr, fin listed c act hsz hdown g hr hds⟩
 | succ fuel ih =>
  intro listed L c act hsz hL hin hdown g hds
  refine ⟨fun hr => fin listed c act hsz hdown g hr hds, fun i hi => ?_⟩
  rw [X1n] at hi
  obtain ⟨h1, h2, h3⟩ := hi
  have hil : i < listed.size := by omega
  have hli : listed.getD i false = false := by
   simp only [Array.getD_eq_getD_getElem?, Array.getElem?_eq_getElem hil, Option.getD_some] at h2 ⊢
   exact h2
  have hi' : i < ops.toList.length := by omega
  have hoi : ops.toList[i]? = some ops.toList[i] := List.getElem?_eq_getElem hi'
  have hoa : ops[i]? = some ops.toList[i] := by rw [<- Array.getElem?_toList]; exact hoi
  have hprei : ∀ j ∈ X6o ops.toList[i], listed.getD j false = true := by
   intro j hj
   obtain ⟨e, he, rfl⟩ := List.mem_map.1 hj
   obtain ⟨he1, he2⟩ := List.mem_filter.1 he
   rw [hoa] at h3
   simp only [Option.map_some, Option.getD_some] at h3
   rw [Array.all_eq_true_iff_forall_mem] at h3
   have := h3 e (by simpa using he1)
   rw [he2] at this
   simpa using this
  have hpl : ∀ (i : Nat) o, ops.toList[i]? = some o -> ∀ j ∈ X6o o, j < i := fun i o ho j hj => by
   have := X53 _ 0 hpre i o ho j hj; omega
  have hcm := Xcj (S := fun k => listed.getD k false) hpl hdown
  have hS : Xpy ops.toList (fun k => listed.getD k false) := by
   refine ⟨fun k hk => ?_, fun k hk q hq => ?_⟩
   ·cases Nat.lt_or_ge k listed.size with
    | inl h => omega
    | inr h => simp [Array.getD_eq_getD_getElem?, Array.getElem?_eq_none h] at hk
   ·have hkl : k < ops.toList.length := by
     cases Nat.lt_or_ge k listed.size with
     | inl h => omega
     | inr h => simp [Array.getD_eq_getD_getElem?, Array.getElem?_eq_none h] at hk
    exact (hcm k _ (List.getElem?_eq_getElem hkl) (hdown k _ (List.getElem?_eq_getElem hkl) hk) q hq).1
  have hri : ∀ q, ((X1d ops.toList).getD i 0).testBit q = true -> listed.getD q false = true := fun q hq => (hcm i _ hoi hprei q hq).1
  have hirs : i < rs.length := by rw [hall.len]; exact hi'
  obtain ⟨hdst, hone, _⟩ := hall.one i _ _ hoi (List.getElem?_eq_getElem hirs)
  have hdlt : ∀ d, (ops.toList[i]).dst = some d -> d < nt := by
   intro d hd
   rw [hd] at hdst
   simp only [X8g, Bool.and_eq_true] at hdst
   simpa using hdst.1
  have hA : ∀ t, frD (X45 i ((X1d ops.toList).getD i 0) 0 ops.toList (X1d ops.toList)) (X1g (X56 ops.toList rs) (fun _ => true) i A0) t = X1g (X56 ops.toList rs) (fun k => listed.getD k false) ops.toList.length A0 t \/
    frD (X45 i ((X1d ops.toList).getD i 0) 0 ops.toList (X1d ops.toList)) (X1g (X56 ops.toList rs) (fun _ => true) i A0) t = .junk := by
   intro t
   unfold frD
   cases ht : Xim t (X45 i ((X1d ops.toList).getD i 0) 0 ops.toList (X1d ops.toList)) with
   | true => exact .inr rfl
   | false => exact .inl (Xpc hall hS hi' hli hri ht)
  have hV : ∀ o x, hpD base ((X1d ops.toList).getD i 0) (X1h (ops.toList[i]).op) ((rs.take i).map (·.2)) (X1g (X5h base rs) (fun _ => true) i H0) o = some x ->
    X1g (X5h base rs) (fun k => listed.getD k false) ops.toList.length H0 o = some x := by
   intro o x hx
   unfold hpD at hx
   cases ht : X9o base ((X1d ops.toList).getD i 0) (X1h (ops.toList[i]).op) ((rs.take i).map (·.2)) o with
   | true => rw [ht] at hx; cases hx
   | false =>
    rw [ht, cond_false] at hx
    rw [<- Xpb hall hS hi' hli hri ht]
    exact hx
  have hid : ¬ AtS base (fun k => listed.getD k false) (base + i) := by
   rintro (h | ⟨k, hk, h⟩)
   ·omega
   ·have : k = i := by omega
    subst this
    have hk' : listed.getD k false = true := hk
    rw [hli] at hk'; cases hk'
  have hMb : ∀ q, AtS base (fun k => listed.getD k false) q -> q < base + ops.toList.length := by
   rintro q (h | ⟨k, hk, rfl⟩)
   ·omega
   ·have := hS.lt k hk; omega
  have hset : ∀ k, (listed.setIfInBounds i true).getD k false = (listed.getD k false || Nat.beq k i) := by
   intro k
   simp only [Array.getD_eq_getD_getElem?]
   by_cases hk : k = i
   ·subst hk
    rw [Array.getElem?_setIfInBounds_self, if_pos hil]
    simp
   ·rw [Array.getElem?_setIfInBounds_ne (fun e => hk e.symm)]
    have : Nat.beq k i = false := by rw [<- Bool.not_eq_true, Nat.beq_eq]; exact hk
    rw [this, Bool.or_false]
  have hfn : (fun k => (listed.setIfInBounds i true).getD k false) = (fun k => listed.getD k false || Nat.beq k i) := funext hset
  have after : ∀ (c' : Ctx) (v : Value) (e : X3f), e = (rs[i]).2 ->
    X93 nt c0 HH n0 c' (X81 (X1g (X56 ops.toList rs) (fun k => listed.getD k false) ops.toList.length A0) (ops.toList[i]).dst (rs[i]).1)
     (e.go (base + i) (X1g (X5h base rs) (fun k => listed.getD k false) ops.toList.length H0)) (fun q => AtS base (fun k => listed.getD k false) q \/ q = base + i) (act.put (ops.toList[i]).dst v) ->
    wpAny P .any ops (CQ nt c0 HH n0 ds Q) fuel (listed.setIfInBounds i true) (act.put (ops.toList[i]).dst v) c'.w := by
   rintro c' v _ rfl g'
   have hiL : i ∈ L := hin i h1 hli
   refine ih _ (L.erase i) c' _ (by simpa using hsz) (by rw [List.length_erase_of_mem hiL]; omega) ?_ ?_ ?_ ((put_defers _ _ _).trans hds)
   ·intro k hk hlk
    rw [hset] at hlk
    have h4 := Bool.or_eq_false_iff.1 hlk
    have hne : k ≠ i := fun h => by subst h; simp at h4
    exact (List.mem_erase_of_ne hne).2 (hin k hk h4.1)
   ·intro k o ho hk j hj
    rw [hset] at hk ⊢
    rcases Bool.or_eq_true_iff.1 hk with hk | hk
    ·rw [hdown k o ho hk j hj]; rfl
    ·have : k = i := by simpa using hk
     subst this
     rw [hoi] at ho; cases ho
     rw [hprei j hj]; rfl
   ·rw [hfn, Xmd hall hS hi' hli (List.getElem?_eq_getElem hirs) hdst, Xmc hall hS hi' hli (List.getElem?_eq_getElem hirs)]
    have hMM : (AtS base fun k => listed.getD k false || Nat.beq k i) = (fun q => AtS base (fun k => listed.getD k false) q \/ q = base + i) := by
     funext q
     apply propext
     constructor
     ·rintro (h | ⟨k, hk, rfl⟩)
      ·exact .inl (.inl h)
      ·rcases Bool.or_eq_true_iff.1 hk with hk | hk
       ·exact .inl (.inr ⟨k, hk, rfl⟩)
       ·have : k = i := by simpa using hk
        exact .inr (by rw [this])
     ·rintro ((h | ⟨k, hk, rfl⟩) | rfl)
      ·exact .inl h
      ·exact .inr ⟨k, by simp [hk], rfl⟩
      ·exact .inr ⟨i, by simp, rfl⟩
    rw [hMM]
    exact g'
  unfold wpOp
  rw [hoa]
  simp only []
  have gj := g.junk hA
  generalize hre : (rs[i]).2 = ef at hone after
  generalize hra : (rs[i]).1 = av at hone after
  cases hone with
  | @run a e hg h =>
   have hw : Region.wanted (ops.toList[i]) (yielded ops act.tmps) = true := by
    rcases hg with hg | ⟨j, t, want, hg, hj, ht, hb⟩
    ·exact Xhl hg
    ·rw [Xhk hg (Xlv gj hj ht hb)]; simp
   rw [if_pos hw]
   left
   refine DOp.step hT g hMb hA hV hid h hdlt _ _ fun c' v g' => ?_
   exact after c' v _ rfl g'
  | @skip j t want v hg hj ht hb hbw =>
   have hw : Region.wanted (ops.toList[i]) (yielded ops act.tmps) = false := Xgx gj hg hj ht hb hbw
   rw [if_neg (by rw [hw]; simp)]
   refine after c undef _ rfl ?_
   rw [X3f.go_none]
   exact g.next hdlt (.refl c) rfl (fun b hb => .inl hb) (.refl c _) (fun q x hx => .inr ⟨q, x, hx, rfl⟩) (g.inv.more fun q h => .inl h) g.solo (fun q => .inl) .sc .sc
theorem X33.drew {c0 c : Ctx} {s : St} {act : Act} {HH : X0l} (g : X33 nt c0 HH n0 c s act) : X33 nt c0 HH n0 { c with w := { c.w with drawn := c.w.drawn + 1 } } s act := by
 have hle : c.Le (fun _ => True) { c with w := { c.w with drawn := c.w.drawn + 1 } } := ⟨fun _ _ => rfl, fun _ h => h, fun _ h => h, fun _ _ => rfl, rfl⟩
 have all : ∀ {a : AV} {M : Nat -> Prop}, a.Ok M -> a.Ok (fun _ => True) := fun h => h.mono fun _ _ => trivial
 have r := g.reach
 refine ⟨⟨fun o x hx => ?_, g.inv.sep, g.inv.stab, g.inv.lt, g.inv.base, g.inv.own, g.inv.low⟩, g.solo, fun t => (g.frame t).mono hle (.inr (all (g.ok t))), g.ok, g.size, ⟨r.rho, r.os, r.tape, r.output, r.size, r.block, r.stable, r.sa, r.so1, r.so2, r.B, r.own⟩, g.le0⟩
 obtain ⟨h1, ⟨⟨cur, hb, hs, hc⟩, h3, h4, h5⟩, h6⟩ := g.inv.obj o x hx
 refine ⟨h1, ⟨⟨cur, hb, hs, fun i e he => ?_⟩, h3, h4, h5⟩, h6⟩
 obtain ⟨g1, g2⟩ := hc i e he
 exact ⟨g1, fun k a ha => by obtain ⟨v, hv, hr, h7⟩ := g2 k a ha; exact ⟨v, hv, hr.mono hle (.inr (all (h6 e (List.mem_of_getElem? he) a (List.mem_of_getElem? ha)))), h7⟩⟩
theorem X6h.drawn {s : St} {id : Nat} {Q : X0d -> St -> Prop} {A' : Nat -> AV} {H' : X0l} (hm : P.follows .mixedOrders = true) (hT : X7o P T) (hpre : X4d 0 ops.toList = true)
  (hrun : Xk3 P T nt s.n ops (X1d ops.toList) 0 ops.toList s.A s.H [] A' H') (hQ : Q .normal ⟨A', H', s.n + ops.toList.length⟩) : X6h P nt n0 (.region id ops true) Q s := by
 obtain ⟨rs, hall, hA, hH⟩ := hrun.all s.A s.H [] (Nat.zero_le _) rfl rfl rfl rfl rfl (fun k o r _ hr => by simp at hr)
 subst hA hH
 intro c0 HH c act g0 R hR
 have g := g0.drew
 obtain rfl := hR rfl
 refine X6v.2 (wp_region_any hm ?_)
 have hz : ∀ k, (Array.replicate ops.size false).getD k false = false := by
  intro k
  simp only [Array.getD_eq_getD_getElem?, Array.getElem?_replicate]
  split <;> rfl
 have hfn : (fun k => (Array.replicate ops.size false).getD k false) = (fun _ => false) := funext hz
 refine Xg8 hT hpre hall hQ g.le0 ops.size _ (List.range ops.size) { c with w := { c.w with drawn := c.w.drawn + 1 } } act (by simp) (by simp) (fun k hk _ => List.mem_range.2 hk) (fun i o _ h => by rw [hz] at h; cases h) ?_ rfl
 rw [hfn, X69, X69]
 have hM : ∀ q, q < s.n -> AtS s.n (fun _ => false) q := fun q h => .inl h
 exact ⟨g.inv.more hM, g.solo, g.frame, fun t => (g.ok t).mono hM, g.size, g.reach, fun q hq => hM q (Nat.lt_of_lt_of_le hq g.le0)⟩
end
end Go.Av


namespace Go.Av
def Xiw (H : X0l) : AV -> Option (AV × Nat)
 | .ptr o i k => match H o with
  | some x => match x.es[i]? with
   | some e => some (e, k)
   | none => none
  | none => none
 | .elem _ e k => some (e, k)
 | _ => none
theorem Xh8 {H : X0l} {p e : AV} {k : Nat} (h : Xiw H p = some (e, k)) : Xhe H p e k := by
 unfold Xiw at h
 split at h
 ·split at h
  ·split at h
   ·cases h; exact .ptr (by assumption) (by assumption)
   ·cases h
  ·cases h
 ·cases h; exact .elem
 ·cases h
def Xq3 (T : Ty) (op : BinOp) (t : Nat) : AV -> AV -> Option AV
 | .sc (.int k a), .sc (.int k' b) =>
  match op with
  | .quo => if k = k' then (if b ≠ 0 then some (.sc (.int k (k.wrap (a.tdiv b)))) else none) else none
  | .rem => if k = k' then (if b ≠ 0 then some (.sc (.int k (a.tmod b))) else none) else none
  | .shl => if 0 <= b then some (.sc (.int k (k.wrap (a * 2 ^ (min b.toNat k.bits))))) else none
  | .shr => if 0 <= b then some (.sc (.int k (a.fdiv (2 ^ (min b.toNat k.bits))))) else none
  | op => if k = k' then (match Xip op k a b with | some v => some (.sc v) | none => none) else none
 | .sc (.bool a), .sc (.bool b) => match T t with
  | some ti => match ti.kind with
   | .bool => match op with
    | .eql => some (.sc (.bool (a == b)))
    | .neq => some (.sc (.bool (!(a == b))))
    | _ => none
   | _ => none
  | none => none
 | .agg xs, .agg ys => match T t with
  | some ti => if ti.eqok = true then (match op with
   | .eql => match eqT T 10000 t (.agg xs) (.agg ys) with | some r => some (.sc (.bool r)) | none => none
   | .neq => match eqT T 10000 t (.agg xs) (.agg ys) with | some r => some (.sc (.bool (!r))) | none => none
   | _ => none) else none
  | none => none
 | _, _ => none
theorem Xln {T : Ty} {ev : Operand -> AV} {H : X0l} {op : BinOp} {t yt : Nat} {x y : Operand} {a : AV} (h : Xq3 T op t (ev x) (ev y) = some a) : Pu T ev H (.binOp op t x y yt) a := by
 generalize hx : ev x = u at h
 generalize hy : ev y = v at h
 unfold Xq3 at h
 split at h
 ·split at h
  ·split at h
   ·rename_i hk; subst hk
    split at h
    ·cases h; exact .quo hx hy (by assumption)
    ·cases h
   ·cases h
  ·split at h
   ·rename_i hk; subst hk
    split at h
    ·cases h; exact .rem hx hy (by assumption)
    ·cases h
   ·cases h
  ·split at h
   ·cases h; exact .shl hx hy (by assumption)
   ·cases h
  ·split at h
   ·cases h; exact .shr hx hy (by assumption)
   ·cases h
  ·split at h
   ·rename_i hk; subst hk
    split at h
    ·cases h; exact .binInt hx hy (by assumption)
    ·cases h
   ·cases h
 ·split at h
  ·split at h
   ·split at h
    ·cases h; exact .boolEq hx hy (by assumption) (by assumption)
    ·cases h; exact .boolNe hx hy (by assumption) (by assumption)
    ·cases h
   ·cases h
  ·cases h
 ·split at h
  ·split at h
   ·split at h
    ·split at h
     ·cases h; exact .aggEq hx hy (by assumption) (by assumption) (by assumption)
     ·cases h
    ·split at h
     ·cases h; exact .aggNe hx hy (by assumption) (by assumption) (by assumption)
     ·cases h
    ·cases h
   ·cases h
  ·cases h
 ·cases h
def unF (op : UnOp) : AV -> Option AV
 | .sc (.int k n) => match op with
  | .neg => some (.sc (.int k (k.wrap (0 - n))))
  | _ => none
 | .sc (.bool b) => match op with
  | .not => some (.sc (.bool (!b)))
  | _ => none
 | _ => none
def Xor (T : Ty) (src dst : Nat) : AV -> Option AV
 | .sc (.int _ n) => match T src with
  | some _ => match T dst with
   | some td => match td.kind with
    | .int k' => some (.sc (.int k' (k'.wrap n)))
    | _ => none
   | none => none
  | none => none
 | .sc (.string s) => match T src with
  | some _ => match T dst with
   | some td => match td.kind with
    | .string => some (.sc (.string s))
    | _ => none
   | none => none
  | none => none
 | _ => none
def Xfe (T : Ty) (s f : Nat) : Option (Nat × TI) :=
 match T s with
 | some ti => match ti.kind with
  | .struct fs => match fs[f]? with
   | some (off, ft) => match T ft with
    | some tf => some (off, tf)
    | none => none
   | none => none
  | _ => none
 | none => none
theorem Xba {T : Ty} {s f off : Nat} {tf : TI} (h : Xfe T s f = some (off, tf)) : ∃ ti fs ft, T s = some ti /\ ti.kind = .struct fs /\ fs[f]? = some (off, ft) /\ T ft = some tf := by
 unfold Xfe at h
 split at h
 ·split at h
  ·split at h
   ·split at h
    ·cases h; exact ⟨_, _, _, by assumption, by assumption, by assumption, by assumption⟩
    ·cases h
   ·cases h
  ·cases h
 ·cases h
def X3i (T : Ty) (t : Nat) : Option TI :=
 match T t with
 | some ti => match ti.kind with
  | .slice et => T et
  | _ => none
 | none => none
theorem X1t {T : Ty} {t : Nat} {te : TI} (h : X3i T t = some te) : ∃ ti et, T t = some ti /\ ti.kind = .slice et /\ T et = some te := by
 unfold X3i at h
 split at h
 ·split at h
  ·exact ⟨_, _, by assumption, by assumption, h⟩
  ·cases h
 ·cases h
def Xex (T : Ty) (t : Nat) : Option (Nat × TI) :=
 match T t with
 | some ti => match ti.kind with
  | .array n et => match T et with
   | some te => some (n, te)
   | none => none
  | _ => none
 | none => none
theorem X7w {T : Ty} {t n : Nat} {te : TI} (h : Xex T t = some (n, te)) : ∃ ti et, T t = some ti /\ ti.kind = .array n et /\ T et = some te := by
 unfold Xex at h
 split at h
 ·split at h
  ·split at h
   ·cases h; exact ⟨_, _, by assumption, by assumption, by assumption⟩
   ·cases h
  ·cases h
 ·cases h
def ixF (T : Ty) (H : X0l) (t : Nat) (x : AV) (i : Int) : Option AV :=
 match x with
 | .list own es => match X3i T t with
  | some te => match es[i.toNat]? with
   | some e => if e.cells.length = te.size then some (.elem own e 0) else none
   | none => none
  | none => none
 | .ref o off len => match X3i T t with
  | some te => if i < len then (match H o with
   | some y => match y.es[off + i.toNat]? with
    | some e => if e.cells.length = te.size then some (.ptr o (off + i.toNat) 0) else none
    | none => none
   | none => none) else none
  | none => none
 | .ptr o j q => match Xex T t with
  | some (n, te) => if i < n then some (.ptr o j (q + i.toNat * te.size)) else none
  | none => none
 | .elem own e q => match Xex T t with
  | some (n, te) => if i < n then some (.elem own e (q + i.toNat * te.size)) else none
  | none => none
 | _ => none
def bdF (ev : Operand -> AV) : Option Operand -> Nat -> Option Nat
 | none, d => some d
 | some x, _ => match ev x with
  | .sc (.int _ z) => if 0 <= z then some z.toNat else none
  | _ => none
theorem X7v {ev : Operand -> AV} {o : Option Operand} {d n : Nat} (h : bdF ev o d = some n) : Bd ev o d n := by
 unfold bdF at h
 split at h
 ·cases h; exact .dflt
 ·split at h
  ·split at h
   ·cases h; exact .given (by assumption) (by assumption)
   ·cases h
  ·cases h
def Xmx (T : Ty) (ev : Operand -> AV) (H : X0l) (t : Nat) (x : AV) (lo hi : Option Operand) : Option AV :=
 match x with
 | .list own es => match X3i T t with
  | some te => match bdF ev lo 0, bdF ev hi es.length with
   | some l, some h => if l <= h then (if h <= es.length then (if es.all (fun e => e.cells.length == te.size) then some (.list own ((es.drop l).take (h - l))) else none) else none) else none
   | _, _ => none
  | none => none
 | .ref o off len => match X3i T t with
  | some te => match bdF ev lo 0, bdF ev hi len with
   | some l, some h => if h <= len then (if l < h then (match H o with
     | some y => if y.es.any (fun e => e.cells.length == te.size) then some (.ref o (off + l) (h - l)) else none
     | none => none)
    else if l = h then some (.list true []) else none) else none
   | _, _ => none
  | none => none
 | .nils => match X3i T t with
  | some _ => match bdF ev lo 0, bdF ev hi 0 with
   | some 0, some 0 => some .nils
   | _, _ => none
  | none => none
 | _ => none
def puF (T : Ty) (ev : Operand -> AV) (H : X0l) : Op -> Option AV
 | .move x => some (ev x)
 | .assign x => some (ev x)
 | .pick c a b => match ev c with
  | .sc (.bool true) => some (ev a)
  | .sc (.bool false) => some (ev b)
  | _ => none
 | .load t x => match T t with
  | some ti => match Xiw H (ev x) with
   | some (e, k) => Xgz ti e k
   | none => none
  | none => none
 | .nilCheck x => match ev x with
  | .ptr o i k => some (.ptr o i k)
  | .elem own e k => some (.elem own e k)
  | .fn f caps => some (.fn f caps)
  | _ => none
 | .binOp op t x y _ => Xq3 T op t (ev x) (ev y)
 | .unOp op _ x => unF op (ev x)
 | .convert src dst x => Xor T src dst (ev x)
 | .fieldAddr s x f => match Xfe T s f with
  | some (off, tf) => if tf.size ≠ 0 then (match ev x with
   | .ptr o i k => some (.ptr o i (k + off))
   | .elem own e k => some (.elem own e (k + off))
   | _ => none) else none
  | none => none
 | .field s x f => match Xfe T s f with
  | some (off, tf) => match ev x with
   | .agg cs => eqT.partA tf cs off
   | _ => none
  | none => none
 | .indexAddr t x ix => match ev ix with
  | .sc (.int _ i) => if 0 <= i then ixF T H t (ev x) i else none
  | _ => none
 | .index t x ix => match ev ix with
  | .sc (.int _ i) => if 0 <= i then (match ev x with
   | .agg cs => match Xex T t with
    | some (n, te) => if i < n then eqT.partA te cs (i.toNat * te.size) else none
    | none => none
   | _ => none) else none
  | _ => none
 | .slice t x lo hi none => Xmx T ev H t (ev x) lo hi
 | .slice t x none (some hi) (some mx) => match X3i T t with
  | some _ => match bdF ev (some hi) 0, bdF ev (some mx) 0 with
   | some 0, some 0 => match ev x with
    | .list _ _ => some .nils
    | .ref _ _ _ => some .nils
    | .nils => some .nils
    | _ => none
   | _, _ => none
  | none => none
 | .extract x i => match ev x with
  | .tup cs => cs[i]?
  | _ => none
 | .makeFunc (.func f) ⟨[]⟩ caps => some (.fn f (caps.toList.map ev))
 | .call { callee := .builtin .len, args := ⟨[x]⟩, argTypes := ⟨[t]⟩ } => match T t with
  | some ti => match ti.kind with
   | .slice _ => match ev x with
    | .list own es => some (.sc (.int .i64 es.length))
    | .ref _ _ n => some (.sc (.int .i64 n))
    | .nils => some (.sc (.int .i64 (0 : Nat)))
    | _ => none
   | .string => match ev x with
    | .sc (.string s) => some (.sc (.int .i64 s.size))
    | _ => none
   | .array n _ => some (.sc (.int .i64 n))
   | _ => none
  | none => none
 | .call { callee := .builtin .min, args := ⟨[x, y]⟩, argTypes := _ } => match ev x, ev y with
  | .sc (.int k a), .sc (.int k' b) => if k = k' then some (.sc (.int k (if b < a then b else a))) else none
  | _, _ => none
 | .call { callee := .builtin .max, args := ⟨[x, y]⟩, argTypes := _ } => match ev x, ev y with
  | .sc (.int k a), .sc (.int k' b) => if k = k' then some (.sc (.int k (if b > a then b else a))) else none
  | _, _ => none
 | .build t ps => match T t with
  | some ti => match X2h ti.zero with
   | .agg cs => match ti.kind with
    | .struct fs => if fs.all (fun p => (T p.2).isSome) then (match Xew (fun i => (fs[i]?).map fun p => (p.1, ((T p.2).map (·.size)).getD 0)) cs (ps.toList.map fun p => (p.1, ev p.2)) with
     | some r => some (.agg r)
     | none => none) else none
    | .array _ et => match T et with
     | some te => match Xew (fun i => some (i * te.size, te.size)) cs (ps.toList.map fun p => (p.1, ev p.2)) with
      | some r => some (.agg r)
      | none => none
     | none => none
    | _ => none
   | _ => none
  | none => none
 | _ => none
theorem Xb2 {T : Ty} {ev : Operand -> AV} {H : X0l} {op : Op} {a : AV} (h : puF T ev H op = some a) : Pu T ev H op a := by
 unfold puF at h
 split at h
 ·cases h; exact .move
 ·cases h; exact .assign
 ·split at h
  ·cases h; exact .pick (by assumption) (fun _ => rfl) (fun h => by cases h)
  ·cases h; exact .pick (by assumption) (fun h => by cases h) (fun _ => rfl)
  ·cases h
 ·split at h
  ·split at h
   ·exact .load (by assumption) (Xh8 (by assumption)) h
   ·cases h
  ·cases h
 ·split at h
  ·rename_i hx; cases h; rw [<- hx]; exact .nilCheckPtr hx
  ·rename_i hx; cases h; rw [<- hx]; exact .nilCheckElem hx
  ·rename_i hx; cases h; rw [<- hx]; exact .nilCheckFn hx
  ·cases h
 ·exact Xln h
 ·unfold unF at h
  split at h
  ·split at h
   ·cases h; exact .neg (by assumption)
   ·cases h
  ·split at h
   ·cases h; exact .not (by assumption)
   ·cases h
  ·cases h
 ·unfold Xor at h
  split at h
  ·split at h
   ·split at h
    ·split at h
     ·cases h; exact .conv (by assumption) (by assumption) (by assumption) (by assumption)
     ·cases h
    ·cases h
   ·cases h
  ·split at h
   ·split at h
    ·split at h
     ·cases h; exact .convStr (by assumption) (by assumption) (by assumption) (by assumption)
     ·cases h
    ·cases h
   ·cases h
  ·cases h
 ·split at h
  ·rename_i hf
   obtain ⟨ti, fs, ft, h1, h2, h3, h4⟩ := Xba hf
   split at h
   ·split at h
    ·cases h; exact .fieldAddrPtr (by assumption) h1 h2 h3 h4 (by assumption)
    ·cases h; exact .fieldAddrElem (by assumption) h1 h2 h3 h4 (by assumption)
    ·cases h
   ·cases h
  ·cases h
 ·split at h
  ·rename_i hf
   obtain ⟨ti, fs, ft, h1, h2, h3, h4⟩ := Xba hf
   split at h
   ·exact .field (by assumption) h1 h2 h3 h4 h
   ·cases h
  ·cases h
 ·split at h
  ·rename_i hix
   split at h
   ·rename_i h0
    unfold ixF at h
    split at h
    ·split at h
     ·rename_i hs
      obtain ⟨ti, et, h1, h2, h3⟩ := X1t hs
      split at h
      ·split at h
       ·cases h; exact .indexList (by assumption) hix h0 h1 h2 h3 (by assumption) (by assumption)
       ·cases h
      ·cases h
     ·cases h
    ·split at h
     ·rename_i hs
      obtain ⟨ti, et, h1, h2, h3⟩ := X1t hs
      split at h
      ·split at h
       ·split at h
        ·split at h
         ·cases h; exact .indexRef (by assumption) hix h0 (by assumption) h1 h2 h3 (by assumption) (by assumption) (by assumption)
         ·cases h
        ·cases h
       ·cases h
      ·cases h
     ·cases h
    ·split at h
     ·rename_i hs
      obtain ⟨ti, et, h1, h2, h3⟩ := X7w hs
      split at h
      ·cases h; exact .indexArr (by assumption) hix h0 (by assumption) h1 h2 h3
      ·cases h
     ·cases h
    ·split at h
     ·rename_i hs
      obtain ⟨ti, et, h1, h2, h3⟩ := X7w hs
      split at h
      ·cases h; exact .indexArrElem (by assumption) hix h0 (by assumption) h1 h2 h3
      ·cases h
     ·cases h
    ·cases h
   ·cases h
  ·cases h
 ·split at h
  ·rename_i hix
   split at h
   ·rename_i h0
    split at h
    ·split at h
     ·rename_i hs
      obtain ⟨ti, et, h1, h2, h3⟩ := X7w hs
      split at h
      ·exact .indexAgg (by assumption) hix h0 (by assumption) h1 h2 h3 h
      ·cases h
     ·cases h
    ·cases h
   ·cases h
  ·cases h
 ·unfold Xmx at h
  split at h
  ·split at h
   ·rename_i hs
    obtain ⟨ti, et, h1, h2, h3⟩ := X1t hs
    split at h
    ·split at h
     ·split at h
      ·split at h
       ·rename_i hall
        cases h
        exact .sliceList (by assumption) (X7v (by assumption)) (X7v (by assumption)) (by assumption) (by assumption) h1 h2 h3 (fun e he => by simpa using List.all_eq_true.1 hall e he)
       ·cases h
      ·cases h
     ·cases h
    ·cases h
   ·cases h
  ·split at h
   ·rename_i hs
    obtain ⟨ti, et, h1, h2, h3⟩ := X1t hs
    split at h
    ·split at h
     ·split at h
      ·split at h
       ·split at h
        ·rename_i hany
         cases h
         obtain ⟨e, he, hc⟩ := List.any_eq_true.1 hany
         exact .sliceRef (by assumption) (X7v (by assumption)) (X7v (by assumption)) (by assumption) (by assumption) h1 h2 h3 (by assumption) ⟨e, he, by simpa using hc⟩
        ·cases h
       ·cases h
      ·split at h
       ·rename_i hl hh hle _ heq
        cases h
        subst heq
        exact .sliceRef0 (by assumption) (X7v hl) (X7v hh) hle h1 h2 h3
       ·cases h
     ·cases h
    ·cases h
   ·cases h
  ·split at h
   ·rename_i hs
    obtain ⟨ti, et, h1, h2, h3⟩ := X1t hs
    split at h
    ·cases h; exact .sliceNils (by assumption) (X7v (by assumption)) (X7v (by assumption)) h1 h2 h3
    ·cases h
   ·cases h
  ·cases h
 ·split at h
  ·rename_i hs
   obtain ⟨ti, et, h1, h2, h3⟩ := X1t hs
   split at h
   ·split at h
    ·rename_i hx; cases h; exact .sliceClone (by rw [hx]; rfl) (fun s => by rw [hx]; simp) (X7v (by assumption)) (X7v (by assumption)) h1 h2 h3
    ·rename_i hx; cases h; exact .sliceClone (by rw [hx]; rfl) (fun s => by rw [hx]; simp) (X7v (by assumption)) (X7v (by assumption)) h1 h2 h3
    ·rename_i hx; cases h; exact .sliceClone (by rw [hx]; rfl) (fun s => by rw [hx]; simp) (X7v (by assumption)) (X7v (by assumption)) h1 h2 h3
    ·cases h
   ·cases h
  ·cases h
 ·split at h
  ·exact .extract (by assumption) h
  ·cases h
 ·cases h; exact .makeFunc
 ·split at h
  ·split at h
   ·split at h
    ·rename_i hx; cases h; exact .lenSlice (by rw [hx]; rfl) (by assumption) (by assumption) (fun s => by rw [hx]; simp)
    ·rename_i hx; cases h; exact .lenSlice (by rw [hx]; rfl) (by assumption) (by assumption) (fun s => by rw [hx]; simp)
    ·rename_i hx; cases h; exact .lenSlice (by rw [hx]; rfl) (by assumption) (by assumption) (fun s => by rw [hx]; simp)
    ·cases h
   ·split at h
    ·cases h; exact .lenStr (by assumption) (by assumption) (by assumption)
    ·cases h
   ·cases h; exact .lenArr (by assumption) (by assumption)
   ·cases h
  ·cases h
 ·split at h
  ·split at h
   ·rename_i hk; subst hk; cases h; exact .min2 (by assumption) (by assumption)
   ·cases h
  ·cases h
 ·split at h
  ·split at h
   ·rename_i hk; subst hk; cases h; exact .max2 (by assumption) (by assumption)
   ·cases h
  ·cases h
 ·split at h
  ·split at h
   ·split at h
    ·split at h
     ·rename_i hall
      split at h
      ·cases h
       refine .buildS (by assumption) (by assumption) (by assumption) (fun p hp => ?_) (by assumption)
       have := List.all_eq_true.1 hall p hp
       exact Option.isSome_iff_exists.1 this
      ·cases h
     ·cases h
    ·split at h
     ·split at h
      ·cases h; exact .buildA (by assumption) (by assumption) (by assumption) (by assumption) (by assumption)
      ·cases h
     ·cases h
    ·cases h
   ·cases h
  ·cases h
 ·cases h
end Go.Av


namespace Go.Av
def Xq8 (H : X0l) : AV -> Option (List AV)
 | .list _ es => some es
 | .nils => some []
 | .ref o off len => match H o with
  | some x => if off + len <= x.es.length then some ((x.es.drop off).take len) else none
  | none => none
 | _ => none
theorem Xdq {H : X0l} {a : AV} {xs : List AV} (h : Xq8 H a = some xs) : Xhf H a xs := by
 unfold Xq8 at h
 split at h
 ·cases h; exact .list
 ·cases h; exact .nils
 ·split at h
  ·split at h
   ·cases h; exact .ref (by assumption) (by assumption)
   ·cases h
  ·cases h
 ·cases h
def mkF (T : Ty) (ev : Operand -> AV) (H : X0l) (id : Nat) : Op -> Option (AV × Eff)
 | .box _ x => if (ev x).whole = true then (match (ev x).cells with
   | [] => none
   | a :: r => some (.ptr id 0 0, .new { es := [ev x], esz := (a :: r).length })) else none
 | .alloc elem => match T elem with
  | some ti => if ti.size ≠ 0 then some (.ptr id 0 0, .new { es := [X2h ti.zero], esz := ti.size }) else none
  | none => none
 | .buildSlice t len ps => match X3i T t with
  | some te => if len = 0 then (match ps with
    | ⟨[]⟩ => some (.nils, .none)
    | _ => none)
   else if te.size ≠ 0 then (if len * te.size <= 2 ^ 24 then (match X8o te.size (List.replicate len (X2h te.zero)) (ps.toList.map fun p => (p.1, ev p.2)) with
    | some es => some (.ref id 0 len, .new { es := es, esz := te.size })
    | none => none) else none) else none
  | none => none
 | .makeSlice t l cc => match X3i T t with
  | some te => match ev l, ev cc with
   | .sc (.int _ n), .sc (.int _ m) => if n = 0 /\ m = 0 then some (.nils, .none) else
     if 0 <= n /\ n <= m /\ 0 < m /\ te.size ≠ 0 /\ te.bytes * m <= 2 ^ 48 /\ m < 2 ^ 62 then some (.ref id 0 n.toNat, .new { es := List.replicate n.toNat (X2h te.zero), esz := te.size }) else none
   | _, _ => none
  | none => none
 | .call { callee := .builtin .append, args := ⟨[s, x]⟩, argTypes := ⟨[t, t']⟩ } => if t = t' then (match X3i T t with
  | some te => match Xq8 H (ev x) with
   | some [] => match ev s with
    | .list own es => some (.list own es, .none)
    | .ref o off n => some (.ref o off n, .none)
    | .nils => some (.nils, .none)
    | _ => none
   | some (e :: r) => if (e :: r).all (fun e => e.cells.length == te.size) then (match ev s with
    | .nils => if te.size ≠ 0 /\ (e :: r).length <= maxLen /\ (e :: r).length * te.bytes <= 140737488355328 then some (.ref id 0 (e :: r).length, .new { es := e :: r, esz := te.size }) else none
    | .ref o 0 n => match H o with
     | some y => if y.es.length = n /\ y.spent = false /\ y.esz = te.size /\ n + (e :: r).length <= maxLen /\ (n + (e :: r).length) * te.bytes <= 140737488355328 then
       some (.ref id 0 (n + (e :: r).length), .app o { es := y.es ++ (e :: r), esz := te.size }) else none
     | none => none
    | _ => none) else none
   | none => none
  | none => none) else none
 | _ => none
theorem Xil {T : Ty} {ev : Operand -> AV} {H : X0l} {id : Nat} {op : Op} {a : AV} {e : Eff} (h : mkF T ev H id op = some (a, e)) :
  Mk T ev H id op a e /\ ∀ old x, e = .app old x \/ e = .new x -> x.solo = true /\ x.spent = false := by
 unfold mkF at h
 split at h
 ·split at h
  ·rename_i hw
   split at h
   ·cases h
   ·rename_i hc
    cases h
    refine ⟨?_, fun old y hy => ?_⟩
    ·rw [<- hc]; exact .box hw (by rw [hc]; simp)
    ·rcases hy with hy | hy <;> cases hy; exact ⟨rfl, rfl⟩
  ·cases h
 ·split at h
  ·split at h
   ·cases h
    exact ⟨.alloc (by assumption) (by assumption), fun old y hy => by rcases hy with hy | hy <;> cases hy; exact ⟨rfl, rfl⟩⟩
   ·cases h
  ·cases h
 ·split at h
  ·rename_i hs
   obtain ⟨ti, et, h1, h2, h3⟩ := X1t hs
   split at h
   ·rename_i h0
    subst h0
    split at h
    ·cases h; exact ⟨.slice0 h1 h2 h3, fun old y hy => by rcases hy with hy | hy <;> cases hy⟩
    ·cases h
   ·split at h
    ·split at h
     ·split at h
      ·cases h; exact ⟨.buildSlice h1 h2 h3 (by assumption) (by assumption) (by assumption) (by assumption), fun old y hy => by rcases hy with hy | hy <;> cases hy; exact ⟨rfl, rfl⟩⟩
      ·cases h
     ·cases h
    ·cases h
  ·cases h
 ·split at h
  ·rename_i hs
   obtain ⟨ti, et, h1, h2, h3⟩ := X1t hs
   split at h
   ·rename_i hl hc
    split at h
    ·rename_i h0
     obtain ⟨rfl, rfl⟩ := h0
     cases h; exact ⟨.make0 hl hc h1 h2 h3, fun old y hy => by rcases hy with hy | hy <;> cases hy⟩
    ·split at h
     ·rename_i hh
      obtain ⟨g1, g2, g3, g4, g5, g6⟩ := hh
      cases h; exact ⟨.make hl hc g1 g2 g3 h1 h2 h3 g4 g5 g6, fun old y hy => by rcases hy with hy | hy <;> cases hy; exact ⟨rfl, rfl⟩⟩
     ·cases h
   ·cases h
  ·cases h
 ·split at h
  ·rename_i ht
   subst ht
   split at h
   ·rename_i hs
    obtain ⟨ti, et, h1, h2, h3⟩ := X1t hs
    split at h
    ·rename_i hx
     split at h
     ·rename_i hv; cases h; rw [<- hv]; exact ⟨.append0 (n := _) (by rw [hv]; rfl) (fun u => by rw [hv]; simp) (Xdq hx) h1 h2 h3, fun old y hy => by rcases hy with hy | hy <;> cases hy⟩
     ·rename_i hv; cases h; rw [<- hv]; exact ⟨.append0 (n := _) (by rw [hv]; rfl) (fun u => by rw [hv]; simp) (Xdq hx) h1 h2 h3, fun old y hy => by rcases hy with hy | hy <;> cases hy⟩
     ·rename_i hv; cases h; rw [<- hv]; exact ⟨.append0 (n := _) (by rw [hv]; rfl) (fun u => by rw [hv]; simp) (Xdq hx) h1 h2 h3, fun old y hy => by rcases hy with hy | hy <;> cases hy⟩
     ·cases h
    ·rename_i e r hx
     split at h
     ·rename_i hall
      have hsz : ∀ e' ∈ e :: r, e'.cells.length = _ := fun e' he => by simpa using List.all_eq_true.1 hall e' he
      split at h
      ·split at h
       ·rename_i hv hh
        obtain ⟨g1, g2, g3⟩ := hh
        cases h
        exact ⟨.appendNil hv (Xdq hx) (by simp) h1 h2 h3 hsz g1 g2 g3, fun old y hy => by rcases hy with hy | hy <;> cases hy; exact ⟨rfl, rfl⟩⟩
       ·cases h
      ·split at h
       ·split at h
        ·rename_i hv _ _ hH hh
         obtain ⟨g1, g2, g3, g4, g5⟩ := hh
         cases h
         exact ⟨.append hv hH g1 g2 g3 (Xdq hx) (by simp) h1 h2 h3 hsz g4 g5, fun old y hy => by rcases hy with hy | hy <;> cases hy; exact ⟨rfl, rfl⟩⟩
        ·cases h
       ·cases h
      ·cases h
     ·cases h
    ·cases h
   ·cases h
  ·cases h
 ·cases h
def Xd2 : List AV -> Nat -> AV
 | [], _ => .sc undef
 | a :: _, 0 => a
 | _ :: l, n + 1 => Xd2 l n
def Xnf : List AV -> Nat -> AV -> List AV
 | [], 0, a => [a]
 | [], n + 1, a => .sc undef :: Xnf [] n a
 | _ :: l, 0, a => a :: l
 | b :: l, n + 1, a => b :: Xnf l n a
theorem Xmg (a : AV) : ∀ (d : Nat) (l : List AV) (t : Nat), Xd2 (Xnf l d a) t = if t = d then a else Xd2 l t := by
 intro d
 induction d with
 | zero => intro l t; cases l <;> cases t <;> simp [Xnf, Xd2]
 | succ d ih => intro l t; cases l <;> cases t <;> simp [Xnf, Xd2, ih]
theorem Xmf (l : List AV) (d : Nat) (a : AV) : Xd2 (Xnf l d a) = upd (Xd2 l) d a := by
 funext t
 rw [Xmg]
 by_cases h : t = d
 ·subst h; rw [if_pos rfl, Xr]
 ·rw [if_neg h, Xo _ _ h]
def Xne (l : List AV) : Option Nat -> AV -> List AV
 | some d, a => Xnf l d a
 | none, _ => l
theorem Xb6 (l : List AV) (d : Option Nat) (a : AV) : Xd2 (Xne l d a) = X81 (Xd2 l) d a := by
 cases d with
 | none => rfl
 | some d => exact Xmf l d a
theorem Xl6 (as : List AV) : Xd2 as = Xhc as := by
 funext t
 unfold Xhc
 induction as generalizing t with
 | nil => rfl
 | cons a l ih =>
  cases t with
  | zero => rfl
  | succ t => simpa [Xd2] using ih t
def Xlg (o : Nat) : List (Nat × Obj) -> List (Nat × Obj)
 | [] => []
 | (q, x) :: l => bif Nat.beq o q then Xlg o l else (q, x) :: Xlg o l
theorem Xl3 (o : Nat) (l : List (Nat × Obj)) : hp (Xlg o l) = upd (hp l) o none := by
 funext q
 induction l with
 | nil =>
  by_cases h : q = o
  ·subst h; rw [Xr]; rfl
  ·rw [Xo _ _ h]; rfl
 | cons p l ih =>
  obtain ⟨d, x⟩ := p
  simp only [Xlg]
  by_cases hd : o = d
  ·subst hd
   rw [show Nat.beq o o = true by simp, cond_true, ih]
   by_cases h : q = o
   ·subst h; rw [Xr, Xr]
   ·rw [Xo _ _ h, Xo _ _ h]
    have : Nat.beq q o = false := by rw [<- Bool.not_eq_true, Nat.beq_eq]; exact h
    simp only [hp, this, cond_false]
  ·have hb : Nat.beq o d = false := by rw [<- Bool.not_eq_true, Nat.beq_eq]; exact hd
   rw [hb, cond_false]
   simp only [hp, ih]
   by_cases h : q = o
   ·subst h; rw [Xr, Xr, hb]; rfl
   ·rw [Xo _ _ h, Xo _ _ h]
theorem Xh2 (o : Nat) (x : Obj) (l : List (Nat × Obj)) : hp ((o, x) :: l) = upd (hp l) o (some x) := by
 funext q
 simp only [hp]
 by_cases h : q = o
 ·subst h; rw [Xr]; simp
 ·have : Nat.beq q o = false := by rw [<- Bool.not_eq_true, Nat.beq_eq]; exact h
  rw [Xo _ _ h, this]; rfl
theorem Xn3 (o : Nat) (x : Obj) (l : List (Nat × Obj)) : hp ((o, x) :: Xlg o l) = upd (hp l) o (some x) := by
 rw [Xh2, Xl3]
 funext q
 by_cases h : q = o
 ·subst h; rw [Xr, Xr]
 ·rw [Xo _ _ h, Xo _ _ h, Xo _ _ h]
def Xr4 (id : Nat) (l : List (Nat × Obj)) : Eff -> List (Nat × Obj)
 | .none => l
 | .new x => (id, x) :: l
 | .app old x => (id, x) :: Xlg old l
theorem Xpt (id : Nat) (l : List (Nat × Obj)) (e : Eff) : hp (Xr4 id l e) = e.seq id (hp l) := by
 cases e with
 | none => rfl
 | new x => exact Xh2 id x l
 | app old x =>
  show hp ((id, x) :: Xlg old l) = upd (upd (hp l) old none) id (some x)
  rw [Xh2, Xl3]
def Xpa (id : Nat) (l : List (Nat × Obj)) : X3f -> List (Nat × Obj)
 | .none => l
 | .new x => (id, x) :: l
 | .app old x => (id, x) :: Xlg old l
 | .set o x => (o, x) :: Xlg o l
theorem Xoh (id : Nat) (l : List (Nat × Obj)) (e : X3f) : hp (Xpa id l e) = e.go id (hp l) := by
 cases e with
 | none => rfl
 | new x => rw [X3f.go_new]; exact Xh2 id x l
 | app old x =>
  rw [X3f.go_app]
  show hp ((id, x) :: Xlg old l) = upd (upd (hp l) old none) id (some x)
  rw [Xh2, Xl3]
 | set o x => rw [X3f.go_set]; exact Xn3 o x l
def stF (T : Ty) (ev : Operand -> AV) (H : X0l) (t : Nat) (p x : Operand) : Option (Nat × Obj) :=
 match T t with
 | some ti => match ev p with
  | .ptr o i k => match H o with
   | some y => match y.es[i]? with
    | some e => if y.solo = true /\ (ev x).whole = true /\ (ev x).cells.length = ti.size /\ k + ti.size <= e.cells.length /\ ti.size ≠ 0 then
      some (o, { y with es := y.es.set i (X7f e k (ev x)) }) else none
    | none => none
   | none => none
  | _ => none
 | none => none
theorem Xmw {T : Ty} {ev : Operand -> AV} {H : X0l} {t : Nat} {p x : Operand} {q : Nat} {z : Obj} (h : stF T ev H t p x = some (q, z)) :
  ∃ i k y e ti, ev p = .ptr q i k /\ H q = some y /\ y.solo = true /\ y.es[i]? = some e /\ T t = some ti /\ (ev x).whole = true /\ (ev x).cells.length = ti.size /\ k + ti.size <= e.cells.length /\ ti.size ≠ 0 /\
   z = { y with es := y.es.set i (X7f e k (ev x)) } := by
 unfold stF at h
 split at h
 ·split at h
  ·split at h
   ·split at h
    ·split at h
     ·rename_i hh
      obtain ⟨g1, g2, g3, g4, g5⟩ := hh
      cases h
      exact ⟨_, _, _, _, _, by assumption, by assumption, g1, by assumption, by assumption, g2, g3, g4, g5, rfl⟩
     ·cases h
    ·cases h
   ·cases h
  ·cases h
 ·cases h
def Xlr (f : AV -> Option AV) : List AV -> Option (List AV)
 | [] => some []
 | a :: l => match f a with
  | some b => match Xlr f l with
   | some r => some (b :: r)
   | none => none
  | none => none
theorem Xbs {f : AV -> Option AV} : ∀ {l r : List AV}, Xlr f l = some r -> l.length = r.length /\ ∀ (i : Nat) a b, l[i]? = some a -> r[i]? = some b -> f a = some b := by
 intro l
 induction l with
 | nil => intro r h; simp [Xlr] at h; subst h; exact ⟨rfl, fun i a b ha => by simp at ha⟩
 | cons x l ih =>
  intro r h
  simp only [Xlr] at h
  split at h
  ·split at h
   ·rename_i hx _ _ hr
    cases h
    obtain ⟨h1, h2⟩ := ih hr
    refine ⟨by simp [h1], fun i a b ha hb => ?_⟩
    cases i with
    | zero => simp at ha hb; subst ha hb; exact hx
    | succ i => simp at ha hb; exact h2 i a b ha hb
   ·cases h
  ·cases h
def elF (f : AV -> Option AV) (e : AV) : Option AV :=
 match e with
 | .agg cs => match Xlr f cs with
  | some r => some (.agg r)
  | none => none
 | e => match f e with
  | some (.agg _) => none
  | r => r
theorem Xiu {f : AV -> Option AV} {e e' : AV} (h : elF f e = some e') : e.cells.length = e'.cells.length /\ ∀ (k : Nat) a b, e.cells[k]? = some a -> e'.cells[k]? = some b -> f a = some b := by
 unfold elF at h
 split at h
 ·split at h
  ·rename_i hm
   cases h
   exact Xbs hm
  ·cases h
 ·rename_i e0 hne
  split at h
  ·cases h
  ·rename_i r hna
   have h1 : e.cells = [e] := by cases e <;> first | rfl | exact (hne _ rfl).elim
   have h2 : e'.cells = [e'] := by
    cases e' <;> first | rfl | exact (hna _ h).elim
   rw [h1, h2]
   refine ⟨rfl, fun k a b ha hb => ?_⟩
   cases k with
   | zero => simp at ha hb; subst ha hb; exact h
   | succ k => simp at ha
def cvF (m : Bool) (H : X0l) : Nat -> AV -> Option AV
 | 0, _ => none
 | n + 1, a => match a with
  | .sc v => some (.sc v)
  | .nils => some (.list m [])
  | .agg cs => match Xlr (cvF m H n) cs with
   | some r => some (.agg r)
   | none => none
  | .tup cs => match Xlr (cvF m H n) cs with
   | some r => some (.tup r)
   | none => none
  | .list own es => match m with
   | true => some (.list own es)
   | false => match Xlr (elF (cvF false H n)) es with
    | some r => some (.list false r)
    | none => none
  | .ref o off len => match H o with
   | some x => if off + len <= x.es.length then (match Xlr (elF (cvF m H n)) ((x.es.drop off).take len) with
    | some r => some (.list m r)
    | none => none) else none
   | none => none
  | _ => none
theorem Xn8 {m : Bool} {H : X0l} : ∀ (n : Nat) (a b : AV), cvF m H n a = some b -> Cv m H a b := by
 intro n
 induction n with
 | zero => intro a b h; cases h
 | succ n ih =>
  intro a b h
  unfold cvF at h
  split at h
  ·cases h; exact .sc
  ·cases h; exact .nils
  ·split at h
   ·rename_i hm
    cases h
    obtain ⟨h1, h2⟩ := Xbs hm
    exact .agg h1 fun i a b ha hb => ih a b (h2 i a b ha hb)
   ·cases h
  ·split at h
   ·rename_i hm
    cases h
    obtain ⟨h1, h2⟩ := Xbs hm
    exact .tup h1 fun i a b ha hb => ih a b (h2 i a b ha hb)
   ·cases h
  ·split at h
   ·cases h; exact .listS rfl
   ·split at h
    ·rename_i hm
     cases h
     obtain ⟨h1, h2⟩ := Xbs hm
     exact .listD rfl h1 (fun i e e' he he' => (Xiu (h2 i e e' he he')).1) (fun i e e' k a b he he' ha hb => ih a b ((Xiu (h2 i e e' he he')).2 k a b ha hb))
    ·cases h
  ·rename_i o off len
   split at h
   ·rename_i x hH
    split at h
    ·rename_i hle
     split at h
     ·rename_i r hm
      cases h
      obtain ⟨h1, h2⟩ := Xbs hm
      have hlen : ∀ (i : Nat) e', r[i]? = some e' -> i < len := fun i e' he' => by
       have := (List.getElem?_eq_some_iff.1 he').1
       rw [<- h1] at this
       simp at this
       omega
      have hget : ∀ (i : Nat) e, i < len -> x.es[off + i]? = some e -> ((x.es.drop off).take len)[i]? = some e := fun i e hi he => by
       rw [List.getElem?_take, if_pos hi, List.getElem?_drop]; exact he
      refine .ref hH hle ?_ (fun i e e' he he' => ?_) (fun i e e' k a b he he' ha hb => ?_)
      ·rw [<- h1]; simp; omega
      ·exact (Xiu (h2 i e e' (hget i e (hlen i e' he') he) he')).1
      ·exact ih a b ((Xiu (h2 i e e' (hget i e (hlen i e' he') he) he')).2 k a b ha hb)
     ·cases h
    ·cases h
   ·cases h
  ·cases h
def Xp1 : Nat -> AV -> Bool
 | 0, _ => false
 | n + 1, a => match a with
  | .sc _ => true
  | .nils => true
  | .agg cs => cs.all (Xp1 n)
  | .tup cs => cs.all (Xp1 n)
  | .list _ [] => true
  | .list own es => own && es.all (fun e => e.cells.all (Xp1 n))
  | _ => false
theorem Xnp : ∀ (n : Nat) (a : AV), Xp1 n a = true -> Xfh a := by
 intro n
 induction n with
 | zero => intro a h; cases h
 | succ n ih =>
  intro a h
  unfold Xp1 at h
  split at h
  ·exact .sc
  ·exact .nils
  ·exact .agg fun a ha => ih a (List.all_eq_true.1 h a ha)
  ·exact .tup fun a ha => ih a (List.all_eq_true.1 h a ha)
  ·exact .listNil
  ·simp only [Bool.and_eq_true] at h
   obtain ⟨h1, h2⟩ := h
   subst h1
   exact .list fun e he a ha => ih a (List.all_eq_true.1 (List.all_eq_true.1 h2 e he) a ha)
  ·cases h
end Go.Av


namespace Go.Av
structure RS where
 F : List AV
 H : List (Nat × Obj)
 n : Nat
def RS.st (s : RS) : St := ⟨Xd2 s.F, hp s.H, s.n⟩
abbrev Rec := Nat -> List AV -> List (Nat × Obj) -> Nat -> Option (AV × List (Nat × Obj) × Nat)
def Xjz (P : Program) (rec : Rec) : Prop :=
 ∀ f as H n r H' n', rec f as H n = some (r, H', n') -> HC P f as (hp H) n (fun r2 H2 n2 => r2 = r /\ H2 = hp H' /\ n2 = n')
def opF (T : Ty) (rec : Rec) (s : RS) (o : Oper) : Option (AV × List (Nat × Obj) × Nat) :=
 match puF T (evA (Xd2 s.F)) (hp s.H) o.op with
 | some a => some (a, s.H, s.n)
 | none => match mkF T (evA (Xd2 s.F)) (hp s.H) s.n o.op with
  | some (a, e) => some (a, Xr4 s.n s.H e, s.n + 1)
  | none => match o.op with
   | .store t p x => match stF T (evA (Xd2 s.F)) (hp s.H) t p x with
    | some (q, z) => some (.sc undef, (q, z) :: Xlg q s.H, s.n)
    | none => none
   | .call { callee := .value x, args := args, argTypes := _ } => match evA (Xd2 s.F) x with
    | .fn f caps => rec f (args.toList.map (evA (Xd2 s.F)) ++ caps) s.H s.n
    | _ => none
   | _ => none
theorem Xpl {P : Program} {T : Ty} {rec : Rec} {nt : Nat} {s : RS} {o : Oper} {a : AV} {H : List (Nat × Obj)} {n : Nat} (hT : X7o P T) (hr : Xjz P rec) (h : opF T rec s o = some (a, H, n)) :
  OpR P nt o s.st (fun a' H' n' => a' = a /\ H' = hp H /\ n' = n) := by
 unfold opF at h
 split at h
 ·rename_i hp'
  cases h
  exact OpR.pu hT (s := s.st) (Xb2 hp')
 ·split at h
  ·rename_i hm
   cases h
   obtain ⟨h1, h2⟩ := Xil hm
   rw [Xpt]
   exact OpR.mk hT (s := s.st) h1 h2
  ·split at h
   ·rename_i ho
    split at h
    ·rename_i hs
     cases h
     obtain ⟨i, k, y, e, ti, g1, g2, g3, g4, g5, g6, g7, g8, g9, rfl⟩ := Xmw hs
     rw [Xn3]
     refine OpR.st hT (s := s.st) ?_
     rw [ho]
     exact .store g1 g2 g3 g4 g5 g6 g7 g8 g9
    ·cases h
   ·rename_i ho
    split at h
    ·rename_i hx
     exact OpR.call (s := s.st) ho hx (hr _ _ _ _ _ _ _ h)
    ·cases h
   ·cases h
def Xfc (nt : Nat) (ops : Array Oper) (A : Nat -> AV) (o : Oper) : Option Bool :=
 match o.guard with
 | none => some true
 | some (j, want) => match (ops[j]?).bind (·.dst) with
  | some t => if Nat.blt t nt = true then (match X5z (A t) with
   | .sc v => some (Xai want v)
   | _ => none) else none
  | none => none
def Xp2 (T : Ty) (rec : Rec) (nt : Nat) (ops : Array Oper) : List Oper -> RS -> Option RS
 | [], s => some s
 | o :: l, s => if Xbb nt o.dst = true then (match Xfc nt ops (Xd2 s.F) o with
  | some true => match opF T rec s o with
   | some (a, H, n) => Xp2 T rec nt ops l ⟨Xne s.F o.dst a, H, n⟩
   | none => none
  | some false => Xp2 T rec nt ops l ⟨Xne s.F o.dst (.sc undef), s.H, s.n⟩
  | none => none) else none
theorem Xnq {P : Program} {T : Ty} {rec : Rec} {nt n0 : Nat} {ops : Array Oper} (hT : X7o P T) (hr : Xjz P rec) : ∀ (l : List Oper) (s r : RS), Xp2 T rec nt ops l s = some r ->
  Xec P nt n0 ops l (fun s' => s' = r.st) s.st := by
 intro l
 induction l with
 | nil => intro s r h; simp [Xp2] at h; subst h; exact Xec.nil rfl
 | cons o l ih =>
  intro s r h
  simp only [Xp2] at h
  split at h
  ·rename_i hd
   have hdlt := X4v hd
   split at h
   ·rename_i hg
    split at h
    ·rename_i a H n hop
     have hR := Xpl (nt := nt) hT hr hop
     have hk := ih _ _ h
     have key : Xec P nt n0 ops ({ o with guard := none } :: l) (fun s' => s' = r.st) s.st := by
      refine Xec.step (R := fun a' H' n' => a' = a /\ H' = hp H /\ n' = n) rfl hdlt hR.noGuard ?_
      rintro a' H' n' ⟨rfl, rfl, rfl⟩
      have : (⟨X81 s.st.A o.dst a', hp H, n'⟩ : St) = (RS.mk (Xne s.F o.dst a') H n').st := by simp only [RS.st, Xb6]
      show Xec P nt n0 ops l (fun s' => s' = r.st) ⟨X81 s.st.A o.dst a', hp H, n'⟩
      rw [this]; exact hk
     unfold Xfc at hg
     split at hg
     ·rename_i hgn
      have ho : ({ o with guard := none } : Oper) = o := by cases o; simp at hgn; subst hgn; rfl
      rw [ho] at key; exact key
     ·rename_i j want hgs
      split at hg
      ·rename_i t hj
       split at hg
       ·rename_i ht
        split at hg
        ·rename_i v hb
         have hv : v = .bool want := by
          cases v <;> simp [Xai] at hg
          rw [hg]
         rw [hv] at hb
         exact Xnb (b := want) hgs hj ht hb hd (fun _ => key) (fun hne => absurd rfl hne)
        ·cases hg
       ·cases hg
      ·cases hg
    ·cases h
   ·rename_i hg
    unfold Xfc at hg
    split at hg
    ·cases hg
    ·rename_i j want hgs
     split at hg
     ·rename_i t hj
      split at hg
      ·rename_i ht
       split at hg
       ·rename_i v hb
        refine Xpg hgs hj ht hb hd (by simpa using hg) ?_
        have hk := ih _ _ h
        have : (⟨X81 s.st.A o.dst (.sc undef), s.st.H, s.st.n⟩ : St) = (RS.mk (Xne s.F o.dst (.sc undef)) s.H s.n).st := by simp only [RS.st, Xb6]
        rw [this]; exact hk
       ·cases hg
      ·cases hg
     ·cases hg
   ·cases h
  ·cases h
def Xm5 (b : RS -> Option (X0d × RS)) : Nat -> RS -> Option (X0d × RS)
 | 0, _ => none
 | m + 1, s => match b s with
  | some (.normal, s') => Xm5 b m s'
  | r => r
open Classical in
theorem X6h.loop0 {P : Program} {nt n0 : Nat} {s : St} {Q : X0d -> St -> Prop} {body : Code} (J : Nat -> St -> Prop) (h0 : ∃ m, J m s)
  (hr : ∀ m s, J m s -> X6h P nt n0 body (fun e s' => match e with | .normal => ∃ m', J m' s' /\ m' < m | e => Q e s') s) : X6h P nt n0 (.loop body) Q s := by
 intro c0 H0 c act g R hR
 let ds := act.defers
 let I' : Nat -> Act -> World -> Prop := fun m act w => ∃ c s, c.w = w /\ X33 nt c0 H0 n0 c s act /\ act.defers = ds /\ J m s
 let I : Act -> World -> Prop := fun act w => ∃ m, I' m act w
 let μ : Act -> World -> Nat := fun act w => if h : ∃ m, I' m act w then Classical.choose (Xer h) else 0
 obtain ⟨m, hJ⟩ := h0
 refine wpIn_loop I μ ⟨m, c, s, rfl, g, rfl, hJ⟩ ?_
 intro a w hI
 have hm : μ a w = Classical.choose (Xer hI) := dif_pos hI
 obtain ⟨c1, s2, rfl, g1, hd1, hJ1⟩ := (Classical.choose_spec (Xer hI)).1
 refine wpIn_mono (hr _ _ hJ1 c0 H0 c1 a g1 R hR.loop) ?_
 rintro e a' w' ⟨c2, s3, ae, rfl, g2, hd2, rfl, hq⟩
 have hd3 : a'.defers = ds := hd2.trans hd1
 cases ae with
 | normal =>
  obtain ⟨m', hJ4, hlt⟩ := hq
  have hI4 : I' m' a' c2.w := ⟨c2, s3, rfl, g2, hd3, hJ4⟩
  refine ⟨⟨m', hI4⟩, ?_⟩
  have : μ a' c2.w = Classical.choose (Xer (⟨m', hI4⟩ : ∃ m, I' m a' c2.w)) := dif_pos (⟨m', hI4⟩ : ∃ m, I' m a' c2.w)
  rw [this, hm]
  exact Nat.lt_of_le_of_lt ((Classical.choose_spec (Xer (⟨m', hI4⟩ : ∃ m, I' m a' c2.w))).2 m' hI4) hlt
 | exit id => exact ⟨c2, s3, .exit id, rfl, g2, hd3, rfl, hq⟩
 | ret => exact ⟨c2, s3, .ret, rfl, g2, hd3, rfl, hq⟩
def Xqq (T : Ty) (rec : Rec) (A : Nat -> AV) (V : X0l) (id : Nat) (o : Oper) : Option (AV × X3f) :=
 match puF T (evA A) V o.op with
 | some a => some (a, .none)
 | none => match mkF T (evA A) V id o.op with
  | some (a, .none) => some (a, .none)
  | some (a, .new x) => some (a, .new x)
  | some (a, .app old x) => some (a, .app old x)
  | none => match o.op with
   | .store t p x => match o.dst with
    | none => match stF T (evA A) V t p x with
     | some (q, z) => some (.sc undef, .set q z)
     | none => none
    | some _ => none
   | .call { callee := .value x, args := args, argTypes := _ } => match evA A x with
    | .fn f [] => match Xlr (cvF false V 100) (args.toList.map (evA A)) with
     | some bs => match rec f bs [] 0 with
      | some (r, H', _) => match cvF true (hp H') 100 r with
       | some r' => if Xp1 100 r' = true then some (r', .none) else none
       | none => none
      | none => none
     | none => none
    | _ => none
   | _ => none
theorem X16.of_hc {P : Program} {f : Nat} {bs : List AV} {r r' : AV} {H' : X0l} {n' : Nat} (h : HC P f bs (fun _ => none) 0 (fun r2 H2 n2 => r2 = r /\ H2 = H' /\ n2 = n')) (hc : Cv true H' r r') : X16 P f bs r' := by
 refine ⟨h.1, fun w S vs hS hv => ?_⟩
 let c : Ctx := ⟨w, pl0, S, fun _ => False, w.heap.size⟩
 have hI : Inv c (fun _ => none) (· < 0) :=
  ⟨fun o x h => (by cases h), fun o o' x x' h => (by cases h), fun o x h => (by cases h), fun b hb => hb.elim (hS b) False.elim, Nat.le_refl _, fun b hb => hb.elim, fun o x h => (by cases h)⟩
 have hvs : Xd5 c false bs vs := ⟨hv.len, fun i a v ha hvv => (hv.rel i a v ha hvv).shallow⟩
 have hok : ∀ a ∈ bs, a.Ok (· < 0) := by
  intro a ha
  obtain ⟨i, hi⟩ := List.getElem?_of_mem ha
  have : i < vs.size := by rw [<- hv.len]; exact (List.getElem?_eq_some_iff.1 hi).1
  exact (hv.rel i a _ hi (Array.getElem?_eq_getElem this)).okDeep
 refine (h.2 c vs hI (fun o x h => by cases h) hvs hok).mono ?_
 rintro e w' ⟨v, r2, H2, n2, c', ⟨rfl, rfl, rfl⟩, rfl, rfl, hle, hsa, hso, hfr, hown, hI', hs, hn, hvr, hokr⟩
 refine ⟨v, rfl, ?_, ⟨hfr.os, hfr.tape, hfr.output, hfr.size, fun k hk => hfr.block k hk (fun o x hx => (by cases hx))⟩⟩
 have hB : c'.B = w.heap.size := hle.B
 refine Xmn hI' (c' := ⟨c'.w, pl0, S, fun b => w.heap.size <= b /\ b < c'.w.heap.size, w.heap.size⟩) rfl (fun b hb => ?_) (fun _ b hb => ?_) (fun o x hx => ?_) hc hvr
 ·rcases hb with hb | hb
  ·exact .inl ⟨rfl, by rw [hsa] at hb; exact hb⟩
  ·exact .inr ⟨by rw [<- hB]; exact hI'.own b hb, hI'.lt b (.inr hb)⟩
 ·exact ⟨by rw [<- hB]; exact hI'.own b hb, hI'.lt b (.inr hb)⟩
 ·obtain ⟨_, ⟨⟨cur, hcb, _⟩, _⟩, _⟩ := hI'.obj o x hx
  exact .inr ⟨by rw [<- hB]; exact hI'.low o x hx, (Array.getElem?_eq_some_iff.1 hcb).1⟩
theorem Xom {P : Program} {T : Ty} {rec : Rec} {A : Nat -> AV} {V : X0l} {id : Nat} {o : Oper} {a : AV} {e : X3f} (hr : Xjz P rec) (h : Xqq T rec A V id o = some (a, e)) : DOp P T A V id o a e := by
 unfold Xqq at h
 split at h
 ·cases h; exact .pu (Xb2 (by assumption))
 ·split at h
  ·rename_i hm; cases h; exact .zero (Xil hm).1
  ·rename_i hm; cases h
   obtain ⟨h1, h2⟩ := Xil hm
   have := h2 0 _ (.inr rfl)
   exact .new h1 this.1 this.2
  ·rename_i hm; cases h
   obtain ⟨h1, h2⟩ := Xil hm
   have := h2 _ _ (.inl rfl)
   exact .app h1 this.1 this.2
  ·split at h
   ·rename_i ho
    split at h
    ·rename_i hd
     split at h
     ·rename_i hs
      cases h
      obtain ⟨i, k, y, e, ti, g1, g2, g3, g4, g5, g6, g7, g8, g9, rfl⟩ := Xmw hs
      exact .store ho hd g1 g2 g4 g5 g6 g7 g8 g9
     ·cases h
    ·cases h
   ·rename_i ho
    split at h
    ·rename_i hx
     split at h
     ·rename_i hm
      split at h
      ·rename_i hrec
       split at h
       ·rename_i hc
        split at h
        ·rename_i hown
         cases h
         obtain ⟨m1, m2⟩ := Xbs hm
         exact .pure ho hx ⟨m1, fun i a b ha hb => Xn8 _ _ _ (m2 i a b ha hb)⟩ (X16.of_hc (hr _ _ _ _ _ _ _ hrec) (Xn8 _ _ _ hc)) (fun _ _ h => h) (.inl (Xnp _ _ hown))
        ·cases h
       ·cases h
      ·cases h
     ·cases h
    ·cases h
   ·cases h
def Xjw (T : Ty) (rec : Rec) (nt base : Nat) (ops : Array Oper) (ms : List Nat) (hs : List (Nat × Bool)) : Nat -> List Oper -> List AV -> List (Nat × Obj) -> List X3f -> Option (List AV × List (Nat × Obj))
 | _, [], F, H, _ => some (F, H)
 | i, o :: l, F, H, es =>
  if X8g nt (X45 i (ms.getD i 0) 0 ops.toList ms) o.dst = true then
   (match Xfc nt ops (frD (X45 i (ms.getD i 0) 0 ops.toList ms) (Xd2 F)) o with
   | some true => match Xqq T rec (frD (X45 i (ms.getD i 0) 0 ops.toList ms) (Xd2 F)) (hpD base (ms.getD i 0) (X1h o.op) es (hp H)) (base + i) o with
    | some (a, e) => if X4c base (ms.getD i 0) (e.objs (base + i)) 0 (hs.take i) [] es = true then
      Xjw T rec nt base ops ms hs (i + 1) l (Xne F o.dst a) (Xpa (base + i) H e) (es ++ [e]) else none
    | none => none
   | some false => Xjw T rec nt base ops ms hs (i + 1) l (Xne F o.dst (.sc undef)) H (es ++ [.none])
   | none => none) else none
theorem Xmk {P : Program} {T : Ty} {rec : Rec} {nt base : Nat} {ops : Array Oper} {ms : List Nat} (hr : Xjz P rec) : ∀ (l : List Oper) (i : Nat) (F : List AV) (H : List (Nat × Obj)) (es : List X3f) (F' : List AV) (H' : List (Nat × Obj)),
  Xjw T rec nt base ops ms (ms.zip (ops.toList.map fun o => X1h o.op)) i l F H es = some (F', H') -> Xk3 P T nt base ops ms i l (Xd2 F) (hp H) es (Xd2 F') (hp H') := by
 intro l
 induction l with
 | nil => intro i F H es F' H' h; simp [Xjw] at h; obtain ⟨rfl, rfl⟩ := h; exact .nil
 | cons o l ih =>
  intro i F H es F' H' h
  simp only [Xjw] at h
  split at h
  ·rename_i hd
   split at h
   ·rename_i hg
    split at h
    ·rename_i a e hop
     split at h
     ·rename_i hw
      have hk := ih _ _ _ _ _ _ h
      rw [Xb6, Xoh] at hk
      have hop' := Xom hr hop
      unfold Xfc at hg
      split at hg
      ·rename_i hgn; exact .op hgn hd hop' hw hk
      ·rename_i j want hgs
       split at hg
       ·rename_i t hj
        split at hg
        ·rename_i ht
         split at hg
         ·rename_i v hb
          have hv : v = .bool want := by
           cases v <;> simp [Xai] at hg
           rw [hg]
          rw [hv] at hb
          exact .run hgs hd hj ht hb hop' hw hk
         ·cases hg
        ·cases hg
       ·cases hg
     ·cases h
    ·cases h
   ·rename_i hg
    have hk := ih _ _ _ _ _ _ h
    rw [Xb6] at hk
    unfold Xfc at hg
    split at hg
    ·cases hg
    ·rename_i j want hgs
     split at hg
     ·rename_i t hj
      split at hg
      ·rename_i ht
       split at hg
       ·rename_i v hb
        exact .skip hgs hd hj ht hb (by simpa using hg) hk
       ·cases hg
      ·cases hg
     ·cases hg
   ·cases h
  ·cases h
end Go.Av


namespace Go.Av
def X86 (P : Program) (T : Ty) (rec : Rec) (nt k : Nat) : Code -> RS -> Option (X0d × RS)
 | .skip, s => some (.normal, s)
 | .label _, s => some (.normal, s)
 | .exit id, s => some (.exit id, s)
 | .ret, s => some (.ret, s)
 | .seq a b, s => match X86 P T rec nt k a s with
  | some (.normal, s') => X86 P T rec nt k b s'
  | r => r
 | .cond x a b, s => match evA (Xd2 s.F) x with
  | .sc (.bool true) => X86 P T rec nt k a s
  | .sc (.bool false) => X86 P T rec nt k b s
  | _ => none
 | .block id c, s => match X86 P T rec nt k c s with
  | some (.exit i, s') => bif Nat.beq i id then some (.normal, s') else some (.exit i, s')
  | r => r
 | .loop b, s => Xm5 (X86 P T rec nt k b) k s
 | .region _ ops false, s => match Xp2 T rec nt ops ops.toList s with
  | some s' => some (.normal, s')
  | none => none
 | .region _ ops true, s => if P.follows .mixedOrders = true /\ X4d 0 ops.toList = true then
   (match Xjw T rec nt s.n ops (X1d ops.toList) ((X1d ops.toList).zip (ops.toList.map fun o => X1h o.op)) 0 ops.toList s.F s.H [] with
   | some (F, H) => some (.normal, ⟨F, H, s.n + ops.toList.length⟩)
   | none => none) else none
 | _, _ => none
theorem Xmp {P : Program} {T : Ty} {rec : Rec} {nt k n0 : Nat} (hT : X7o P T) (hr : Xjz P rec) : ∀ (code : Code) (s : RS) (e : X0d) (r : RS), X86 P T rec nt k code s = some (e, r) ->
  X6h P nt n0 code (fun e' s' => e' = e /\ s' = r.st) s.st := by
 intro code
 induction code with
 | skip => intro s e r h; simp only [X86] at h; cases h; exact X6h.skip ⟨rfl, rfl⟩
 | label l => intro s e r h; simp only [X86] at h; cases h; exact X6h.label ⟨rfl, rfl⟩
 | exit id => intro s e r h; simp only [X86] at h; cases h; exact X6h.exit ⟨rfl, rfl⟩
 | ret => intro s e r h; simp only [X86] at h; cases h; exact X6h.ret ⟨rfl, rfl⟩
 | seq a b iha ihb =>
  intro s e r h
  simp only [X86] at h
  refine X6h.seq ?_
  split at h
  ·rename_i s' ha
   refine (iha _ _ _ ha).mono ?_
   rintro e' s2 ⟨rfl, rfl⟩
   exact ihb _ _ _ h
  ·rename_i hne
   refine (iha _ _ _ h).mono ?_
   rintro e' s2 ⟨rfl, rfl⟩
   cases e' with
   | normal => exact absurd h (hne _)
   | exit id => exact ⟨rfl, rfl⟩
   | ret => exact ⟨rfl, rfl⟩
 | cond x a b iha ihb =>
  intro s e r h
  simp only [X86] at h
  split at h
  ·rename_i hx
   exact X6h.cond (s := s.st) hx (fun _ => iha _ _ _ h) (fun h => by cases h)
  ·rename_i hx
   exact X6h.cond (s := s.st) hx (fun h => by cases h) (fun _ => ihb _ _ _ h)
  ·cases h
 | block id c ih =>
  intro s e r h
  simp only [X86] at h
  refine X6h.block ?_
  split at h
  ·rename_i i s' hc
   refine (ih _ _ _ hc).mono ?_
   rintro e' s2 ⟨rfl, rfl⟩
   simp only [Xlm]
   cases hb : Nat.beq i id with
   | true => rw [hb, cond_true] at h; cases h; exact ⟨rfl, rfl⟩
   | false => rw [hb, cond_false] at h; cases h; exact ⟨rfl, rfl⟩
  ·rename_i hne
   refine (ih _ _ _ h).mono ?_
   rintro e' s2 ⟨rfl, rfl⟩
   cases e' with
   | normal => exact ⟨rfl, rfl⟩
   | exit id => exact absurd h (hne _ _)
   | ret => exact ⟨rfl, rfl⟩
 | loop b ih =>
  intro s e r h
  simp only [X86] at h
  refine X6h.loop0 (fun m s' => ∃ q : RS, s' = q.st /\ Xm5 (X86 P T rec nt k b) m q = some (e, r)) ⟨k, s, rfl, h⟩ ?_
  rintro m _ ⟨q, rfl, hq⟩
  cases m with
  | zero => cases hq
  | succ m =>
   simp only [Xm5] at hq
   split at hq
   ·rename_i s' hb
    refine (ih _ _ _ hb).mono ?_
    rintro e' s2 ⟨rfl, rfl⟩
    exact ⟨m, ⟨s', rfl, hq⟩, Nat.lt_succ_self m⟩
   ·rename_i hne
    refine (ih _ _ _ hq).mono ?_
    rintro e' s2 ⟨rfl, rfl⟩
    cases e' with
    | normal => exact absurd hq (hne _)
    | exit id => exact ⟨rfl, rfl⟩
    | ret => exact ⟨rfl, rfl⟩
 | region id ops draw =>
  intro s e r h
  cases draw with
  | false =>
   simp only [X86] at h
   split at h
   ·rename_i s' hs
    cases h
    refine X6h.region ?_
    intro c0 H0 c act g Qx hQ
    exact Xnq hT hr _ _ _ hs c0 H0 c act g Qx fun c' s'' act' g' hd hq => hQ c' s'' act' g' hd ⟨rfl, hq⟩
   ·cases h
  | true =>
   simp only [X86] at h
   split at h
   ·rename_i hh
    split at h
    ·rename_i F H hd
     cases h
     exact X6h.drawn hh.1 hT hh.2 (Xmk hr _ _ _ _ _ _ _ hd) ⟨rfl, rfl⟩
    ·cases h
   ·cases h
 | _ => intro s e r h; simp only [X86] at h; cases h
def Xmz (T : Ty) (s : RS) : List ResultVar -> Option (List AV)
 | [] => some []
 | .tmp t :: l => match Xmz T s l with
  | some r => some (X5z (Xd2 s.F t) :: r)
  | none => none
 | .cell p t :: l => match T t with
  | some ti => match Xiw (hp s.H) (X5z (Xd2 s.F p)) with
   | some (e, k) => match Xgz ti e k with
    | some a => match Xmz T s l with
     | some r => some (a :: r)
     | none => none
    | none => none
   | none => none
  | none => none
theorem Xnm {T : Ty} {s : RS} : ∀ (l : List ResultVar) (r : List AV), Xmz T s l = some r -> Xau T s.st l r := by
 intro l
 induction l with
 | nil => intro r h; simp [Xmz] at h; subst h; exact .nil
 | cons v l ih =>
  intro r h
  cases v with
  | tmp t =>
   simp only [Xmz] at h
   split at h
   ·rename_i hr; cases h; exact .cons .tmp (ih _ hr)
   ·cases h
  | cell p t =>
   simp only [Xmz] at h
   split at h
   ·split at h
    ·split at h
     ·split at h
      ·rename_i ht _ _ _ hd _ _ hl _ _ hr
       cases h
       exact .cons (.cell ht (Xh8 hd) hl) (ih _ hr)
      ·cases h
     ·cases h
    ·cases h
   ·cases h
abbrev Env := Nat -> Option (Func × Code)
def Xli (P : Program) (T : Ty) (E : Env) (k : Nat) : Nat -> Rec
 | 0 => fun _ _ _ _ => none
 | d + 1 => fun f as H n => match E f with
  | some (fn, code) => if Nat.ble as.length fn.ntmps = true then (match X86 P T (Xli P T E k d) fn.ntmps k code ⟨as, H, n⟩ with
   | some (.exit _, _) => none
   | some (_, s) => match Xmz T s fn.results.toList with
    | some rs => some (X9l rs, s.H, s.n)
    | none => none
   | none => none) else none
  | none => none
def Xpx (P : Program) (E : Env) : Prop := ∀ f fn code, E f = some (fn, code) -> X2w P f fn code
theorem Xmr {P : Program} {T : Ty} {E : Env} {k : Nat} (hT : X7o P T) (hE : Xpx P E) : ∀ d, Xjz P (Xli P T E k d) := by
 intro d
 induction d with
 | zero => intro f as H n r H' n' h; cases h
 | succ d ih =>
  intro f as H n r H' n' h
  simp only [Xli] at h
  split at h
  ·rename_i fn code hf
   split at h
   ·rename_i hle
    have body : ∀ (e : X0d) (s : RS), X86 P T (Xli P T E k d) fn.ntmps k code ⟨as, H, n⟩ = some (e, s) -> (∀ id, e ≠ .exit id) -> (match Xmz T s fn.results.toList with
      | some rs => some (X9l rs, s.H, s.n)
      | none => none) = some (r, H', n') -> HC P f as (hp H) n (fun r2 H2 n2 => r2 = r /\ H2 = hp H' /\ n2 = n') := by
     intro e s hc hne hres
     split at hres
     ·rename_i rs hrs
      cases hres
      have hsem := Xmp (n0 := n) hT ih _ _ _ _ hc
      have hst : (RS.mk as H n).st = ⟨Xhc as, hp H, n⟩ := by simp only [RS.st, Xl6]
      rw [hst] at hsem
      refine HC.of_body hT (hE _ _ _ hf) rfl (by simpa using hle) (hsem.mono ?_)
      rintro e' s' ⟨rfl, rfl⟩
      have hq : ∃ rs', Xau T s.st fn.results.toList rs' /\ (X9l rs' = X9l rs /\ s.st.H = hp s.H /\ s.st.n = s.n) := ⟨rs, Xnm _ _ hrs, rfl, rfl, rfl⟩
      cases e' with
      | exit id => exact absurd rfl (hne id)
      | normal => exact hq
      | ret => exact hq
     ·cases hres
    split at h
    ·cases h
    ·rename_i e s hne hc
     exact body e s hc (fun id he => by subst he; exact hne id rfl) h
    ·cases h
   ·cases h
  ·cases h
theorem run_pure {P : Program} {T : Ty} {E : Env} {k d f : Nat} {as : List AV} {v : Value} (hT : X7o P T) (hE : Xpx P E)
  (h : (match Xli P T E k d f as [] 0 with | some (.sc u, _, _) => some u | _ => none) = some v) : X16 P f as (.sc v) := by
 split at h
 ·rename_i u H' n' hc
  cases h
  exact X16.of_hc (Xmr hT hE d _ _ _ _ _ _ _ hc) .sc
 ·cases h
end Go.Av


namespace Go.Av
theorem X6h.scope {P : Program} {nt n0 : Nat} {s : St} {Q : X0d -> St -> Prop} {c : Code} (h : X6h P nt n0 c Q s) : X6h P nt n0 (.scope c) Q s := by
 intro c0 H0 cx act g R hR
 have hR2 := hR.scope
 obtain rfl := hR rfl
 refine X6v.2 (wp_scope_straight (Code.wp_mono ?_ (X6v.1 (h c0 H0 cx act g none hR2))))
 rintro e a w ⟨c', s', ae, rfl, g', hd, rfl, hq⟩
 cases ae with
 | normal => exact ⟨c', s', .normal, rfl, g', hd, rfl, hq⟩
 | exit id => exact ⟨c', s', .exit id, rfl, g', hd, rfl, hq⟩
 | ret => exact ⟨c', s', .ret, rfl, g', hd, rfl, hq⟩
end Go.Av


namespace Go.Av
def Xk0 (w : World) (b : Nat) (l : List (Value × Value)) : Prop :=
 ∃ es clock, w.heap[b]? = some (.map es clock) /\ es.toList.map (fun e => (e.key, e.val)) = l /\ es.toList.Pairwise (fun x y => x.born < y.born) /\ ∀ e ∈ es.toList, e.born < clock
theorem Xk0.lt {w : World} {b : Nat} {l : List (Value × Value)} (h : Xk0 w b l) : b < w.heap.size := by
 obtain ⟨es, clock, hb, _⟩ := h
 exact (Array.getElem?_eq_some_iff.1 hb).1
inductive MuE where
 | map (l : List (Value × Value))
 | mark
 | blk (o : Go.Obj)
 | loop (r : Loop) (nt m : Nat) (A : Nat -> AV)
instance : Coe (List (Value × Value)) MuE := ⟨.map⟩
abbrev Mu := List (Nat × MuE)
def Xn9 (n0 : Nat) (c : Ctx) (b : Nat) : MuE -> Prop
 | .map l => Xk0 c.w b l
 | .mark => c.w.heap[b]? = some (.deferred (some []))
 | .blk o => c.w.heap[b]? = some o
 | .loop r nt m A => (c.w.heap[b]? = some (.loop r) /\ r.tmps.size = nt) /\ m <= n0 /\ (∀ t, (A t).Ok (· < m)) /\ ∀ t, X15 c false (A t) (r.tmps.getD t undef)
theorem Xn9.lt {n0 : Nat} {c : Ctx} {b : Nat} {x : MuE} (h : Xn9 n0 c b x) : b < c.w.heap.size := by
 cases x with
 | map l => exact Xk0.lt h
 | mark => exact (Array.getElem?_eq_some_iff.1 h).1
 | blk o => exact (Array.getElem?_eq_some_iff.1 h).1
 | loop r nt m A => exact (Array.getElem?_eq_some_iff.1 h.1.1).1
theorem Xn9.le {n0 : Nat} {c c' : Ctx} {b : Nat} {x : MuE} (h : Xn9 n0 c b x) (hb : c'.w.heap[b]? = c.w.heap[b]?) (hle : c.Le (· < n0) c') : Xn9 n0 c' b x := by
 cases x with
 | map l => obtain ⟨es, clock, h1, h2⟩ := h; exact ⟨es, clock, hb.trans h1, h2⟩
 | mark => exact hb.trans h
 | blk o => exact hb.trans h
 | loop r nt m A => exact ⟨⟨hb.trans h.1.1, h.1.2⟩, h.2.1, h.2.2.1, fun t => (h.2.2.2 t).mono hle (.inr ((h.2.2.1 t).mono fun q hq => Nat.lt_of_lt_of_le hq h.2.1))⟩
def Xol : Mu -> List Deferred
 | [] => []
 | (D, .mark) :: μ => { target := .collected D, args := #[] } :: Xol μ
 | (_, .map _) :: μ => Xol μ
 | (_, .blk _) :: μ => Xol μ
 | (_, .loop ..) :: μ => Xol μ
def Xaf : Mu -> Bool
 | [] => true
 | (_, .loop ..) :: _ => false
 | (_, .mark) :: μ => Xaf μ
 | (_, .map _) :: μ => Xaf μ
 | (_, .blk _) :: μ => Xaf μ
structure MOk (n0 : Nat) (c0 c : Ctx) (H : X0l) (μ : Mu) (act : Act) : Prop where
 is : ∀ p ∈ μ, Xn9 n0 c p.1 p.2
 away : ∀ p ∈ μ, ¬ c.Sa p.1 /\ ¬ c.So p.1 /\ (∀ o x, H o = some x -> (c.ρ o).blk ≠ p.1) /\ c0.w.heap.size <= p.1
 nodup : (μ.map (·.1)).Nodup
 ds : act.defers = Xol μ
theorem MOk.nil {n0 : Nat} {c0 c : Ctx} {H : X0l} {act : Act} (h : act.defers = []) : MOk n0 c0 c H [] act := ⟨(fun _ h => by cases h), (fun _ h => by cases h), List.nodup_nil, h⟩
theorem MOk.kept {c0 c c' : Ctx} {H H' : X0l} {n0 : Nat} {μ : Mu} {act act' : Act} (h : MOk n0 c0 c H μ act) (r : Reach c H n0 c' H') (hd : act'.defers = act.defers := by first | rfl | exact put_defers _ _ _) : MOk n0 c0 c' H' μ act' := by
 have hlt : ∀ p ∈ μ, p.1 < c.w.heap.size := fun p hp => (h.is p hp).lt
 have hb : ∀ p ∈ μ, c'.w.heap[p.1]? = c.w.heap[p.1]? := fun p hp => r.block _ (hlt p hp) (h.away p hp).2.2.1
 refine ⟨fun p hp => (h.is p hp).le (hb p hp) r.le, fun p hp => ?_, h.nodup, hd.trans h.ds⟩
 obtain ⟨a1, a2, a3, a4⟩ := h.away p hp
 refine ⟨by rw [r.sa]; exact a1, fun hs => ?_, fun o x hx he => ?_, a4⟩
 ·rcases r.so2 _ hs with h1 | h1 | ⟨o, x, h1, h2⟩
  ·exact a2 h1
  ·have := hlt p hp; omega
  ·exact a3 o x h1 h2
 ·rcases r.own o x hx with h1 | ⟨o', x', h1, h2⟩
  ·have := hlt p hp; omega
  ·exact a3 o' x' h1 (h2.trans he)
theorem MOk.act {n0 : Nat} {c0 c : Ctx} {H : X0l} {μ : Mu} {act act' : Act} (h : MOk n0 c0 c H μ act) (hd : act'.defers = act.defers := by first | rfl | exact put_defers _ _ _) : MOk n0 c0 c H μ act' := ⟨h.is, h.away, h.nodup, hd.trans h.ds⟩
theorem Reach.trans {c0 c c' : Ctx} {H0 H H' : X0l} {n0 : Nat} (h : Reach c0 H0 n0 c H) (k : Reach c H n0 c' H') : Reach c0 H0 n0 c' H' := by
 refine ⟨fun o ho => (k.rho o ho).trans (h.rho o ho), k.os.trans h.os, k.tape.trans h.tape, k.output.trans h.output, Nat.le_trans h.size k.size, ?_, ?_, k.sa.trans h.sa, fun b hb => k.so1 b (h.so1 b hb), ?_, k.B.trans h.B, ?_⟩
 ·intro b hb hn
  rw [k.block b (Nat.lt_of_lt_of_le hb h.size) ?_]
  ·exact h.block b hb hn
  ·intro o x hx he
   rcases h.own o x hx with h1 | ⟨o', x', h1, h2⟩
   ·omega
   ·exact hn o' x' h1 (h2.trans he)
 ·intro b hb
  rw [k.stable b (hb.imp (fun x => by rw [h.sa]; exact x) (h.so1 b))]
  exact h.stable b hb
 ·intro b hb
  rcases k.so2 b hb with h1 | h1 | ⟨q, y, h1, h2⟩
  ·exact h.so2 b h1
  ·exact .inr (.inl (Nat.le_trans h.size h1))
  ·rcases h.own q y h1 with h3 | ⟨q', y', h3, h4⟩
   ·exact .inr (.inl (by omega))
   ·exact .inr (.inr ⟨q', y', h3, h4.trans h2⟩)
 ·intro o x hx
  rcases k.own o x hx with h1 | ⟨q, y, h1, h2⟩
  ·exact .inl (Nat.le_trans h.size h1)
  ·rw [<- h2]; exact h.own q y h1
theorem X33.rebase {nt n0 : Nat} {c0 c : Ctx} {H0 : X0l} {s : St} {act : Act} (g : X33 nt c0 H0 n0 c s act) : X33 nt c s.H n0 c s act :=
 ⟨g.inv, g.solo, g.frame, g.ok, g.size, .refl _ _ _, g.le0⟩
theorem X33.join {nt n0 : Nat} {c0 c c' : Ctx} {H0 H : X0l} {s : St} {act : Act} (r : Reach c0 H0 n0 c H) (g : X33 nt c H n0 c' s act) : X33 nt c0 H0 n0 c' s act :=
 ⟨g.inv, g.solo, g.frame, g.ok, g.size, r.trans g.reach, g.le0⟩
def MQ (nt : Nat) (c0 : Ctx) (H0 : X0l) (n0 : Nat) (Q : X0d -> St -> Mu -> Prop) : Exit -> Act -> World -> Prop :=
 fun e act w => ∃ c s ae μ, c.w = w /\ X33 nt c0 H0 n0 c s act /\ MOk n0 c0 c s.H μ act /\ ae.of = e /\ Q ae s μ
def X3t (P : Program) (nt n0 : Nat) (code : Code) (Q : X0d -> St -> Mu -> Prop) (s : St) (μ : Mu) : Prop :=
 ∀ (c0 : Ctx) (H0 : X0l) (c : Ctx) (act : Act), X33 nt c0 H0 n0 c s act -> MOk n0 c0 c s.H μ act -> ∀ R, RG code R -> wpR R P code (MQ nt c0 H0 n0 Q) act c.w
def X47 (P : Program) (nt n0 : Nat) (ops : Array Oper) (l : List Oper) (K : St -> Mu -> Prop) (s : St) (μ : Mu) : Prop :=
 ∀ (c0 : Ctx) (H0 : X0l) (c : Ctx) (act : Act), X33 nt c0 H0 n0 c s act -> MOk n0 c0 c s.H μ act -> ∀ Qx : Exit -> Act -> World -> Prop,
  (∀ c' s' act' μ', X33 nt c0 H0 n0 c' s' act' -> MOk n0 c0 c' s'.H μ' act' -> K s' μ' -> Qx .normal act' c'.w) -> ∀ R, (R = none -> Xaf μ = true) -> X76 R P ops Qx l act c.w
section
variable {P : Program} {nt n0 : Nat} {s : St} {μ : Mu} {Q : X0d -> St -> Mu -> Prop}
theorem X3t.of {code : Code} (h : X6h P nt n0 code (fun e s' => Q e s' μ) s) : X3t P nt n0 code Q s μ := by
 intro c0 H0 c act g hm R hR
 refine wpIn_mono (h c s.H c act g.rebase R hR) ?_
 rintro e a w ⟨c', s', ae, rfl, g2, hd, rfl, hq⟩
 exact ⟨c', s', ae, μ, rfl, .join g.reach g2, hm.kept g2.reach hd, rfl, hq⟩
theorem X3t.mono {code : Code} {Q' : X0d -> St -> Mu -> Prop} (h : X3t P nt n0 code Q s μ) (hq : ∀ e s μ, Q e s μ -> Q' e s μ) : X3t P nt n0 code Q' s μ :=
 fun c0 H0 c act g hm R hR => wpIn_mono (h c0 H0 c act g hm R hR) (fun _ _ _ ⟨c, s, ae, μ, h1, h2, h3, h4, h5⟩ => ⟨c, s, ae, μ, h1, h2, h3, h4, hq _ _ _ h5⟩)
theorem X3t.skip (h : Q .normal s μ) : X3t P nt n0 .skip Q s μ := .of (.skip h)
theorem X3t.label {l : Nat} (h : Q .normal s μ) : X3t P nt n0 (.label l) Q s μ := .of (.label h)
theorem X3t.exit {id : Nat} (h : Q (.exit id) s μ) : X3t P nt n0 (.exit id) Q s μ := .of (.exit h)
theorem X3t.ret (h : Q .ret s μ) : X3t P nt n0 .ret Q s μ := .of (.ret h)
def Xqu (P : Program) (nt n0 : Nat) (y : Code) (Q : X0d -> St -> Mu -> Prop) : X0d -> St -> Mu -> Prop
 | .normal, s, μ => X3t P nt n0 y Q s μ
 | e, s, μ => Q e s μ
theorem X3t.seq {x y : Code} (h : X3t P nt n0 x (Xqu P nt n0 y Q) s μ) : X3t P nt n0 (.seq x y) Q s μ := by
 intro c0 H0 c act g hm R hR
 refine wpIn_seq (wpIn_mono (h c0 H0 c act g hm R hR.seq1) ?_)
 rintro e a w ⟨c', s', ae, μ', rfl, g', hm', rfl, hq⟩
 cases ae with
 | normal => exact hq c0 H0 c' a g' hm' R hR.seq2
 | exit id => exact ⟨c', s', .exit id, μ', rfl, g', hm', rfl, hq⟩
 | ret => exact ⟨c', s', .ret, μ', rfl, g', hm', rfl, hq⟩
theorem X3t.cond {x : Operand} {a b : Code} {t : Bool} (hx : evA s.A x = .sc (.bool t)) (ht : t = true -> X3t P nt n0 a Q s μ) (hf : t = false -> X3t P nt n0 b Q s μ) : X3t P nt n0 (.cond x a b) Q s μ := by
 intro c0 H0 c act g hm R hR
 have h1 := g.ev x
 rw [hx] at h1
 exact wpIn_cond_split h1.sc_inv (fun h => ht h c0 H0 c act g hm R hR.cond1) (fun h => hf h c0 H0 c act g hm R hR.cond2)
def X6u (id : Nat) (Q : X0d -> St -> Mu -> Prop) : X0d -> St -> Mu -> Prop
 | .exit id', s, μ => bif Nat.beq id' id then Q .normal s μ else Q (.exit id') s μ
 | e, s, μ => Q e s μ
theorem X3t.block {id : Nat} {code : Code} (h : X3t P nt n0 code (X6u id Q) s μ) : X3t P nt n0 (.block id code) Q s μ := by
 intro c0 H0 c act g hm R hR
 refine wpIn_block (wpIn_mono (h c0 H0 c act g hm R hR.block) ?_)
 rintro e a w ⟨c', s', ae, μ', rfl, g', hm', rfl, hq⟩
 cases ae with
 | normal => exact ⟨c', s', .normal, μ', rfl, g', hm', rfl, hq⟩
 | exit id' =>
  simp only [X6u] at hq
  simp only [X0d.of, Exit.inBlock]
  by_cases he : id' = id
  ·subst he
   simp only [Nat.beq_refl, cond_true] at hq
   rw [if_pos rfl]
   exact ⟨c', s', .normal, μ', rfl, g', hm', rfl, hq⟩
  ·have : Nat.beq id' id = false := by rw [<- Bool.not_eq_true, Nat.beq_eq]; exact he
   rw [this, cond_false] at hq
   rw [if_neg he]
   exact ⟨c', s', .exit id', μ', rfl, g', hm', rfl, hq⟩
 | ret => exact ⟨c', s', .ret, μ', rfl, g', hm', rfl, hq⟩
theorem X3t.scope {code : Code} (h : X3t P nt n0 code Q s μ) : X3t P nt n0 (.scope code) Q s μ := by
 intro c0 H0 c act g hm R hR
 have hR2 := hR.scope
 obtain rfl := hR rfl
 refine X6v.2 (wp_scope_straight (Code.wp_mono ?_ (X6v.1 (h c0 H0 c act g hm none hR2))))
 rintro e a w ⟨c', s', ae, μ', rfl, g', hm', rfl, hq⟩
 cases ae with
 | normal => exact ⟨c', s', .normal, μ', rfl, g', hm', rfl, hq⟩
 | exit id => exact ⟨c', s', .exit id, μ', rfl, g', hm', rfl, hq⟩
 | ret => exact ⟨c', s', .ret, μ', rfl, g', hm', rfl, hq⟩
theorem MOk.weak {c0 c c' : Ctx} {s s' : St} {θ : Nat -> Nat} {act : Act} (hw : Xiz θ n0 s s') (hc : c' = { c with ρ := fun o => c.ρ (θ o) }) (h : MOk n0 c0 c s.H μ act) : MOk n0 c0 c' s'.H μ act := by
 subst hc
 refine ⟨fun p hp => (h.is p hp).le rfl ⟨fun o ho => ?_, fun _ hb => hb, fun _ hb => hb, fun _ _ => rfl, rfl⟩, fun p hp => ?_, h.nodup, h.ds⟩
 ·show c.ρ (θ o) = c.ρ o
  rw [hw.fix o ho]
 obtain ⟨a1, a2, a3, a4⟩ := h.away p hp
 refine ⟨a1, a2, fun o x' hx' => ?_, a4⟩
 obtain ⟨x, hx, _⟩ := hw.heap o x' hx'
 exact a3 _ x hx
end
end Go.Av


namespace Go.Av
section
variable {P : Program} {T : Ty} {c : Ctx} {H : X0l} {M : Nat -> Prop} {ev : Operand -> AV} {σ : Operand -> Value}
theorem Xgw (hI : Inv c H M) {o : Nat} {y : Obj} (hH : H o = some y) (hs : y.solo = true) {cur new : Array Value} (hcb : c.w.heap[(c.ρ o).blk]? = some (.cells cur (c.ρ o).ety (0, 0)))
  (hnsz : new.size = cur.size) {es' : List AV} (hlen : es'.length <= (c.ρ o).cap)
  (hrel : ∀ (i : Nat) e, es'[i]? = some e -> e.cells.length = (c.ρ o).esz /\ ∀ (k : Nat) a, e.cells[k]? = some a -> a.Ok M /\ ∃ v, new[i * (c.ρ o).esz + k]? = some v /\ X15 c false a v /\ v.oneCell' = true) :
  let c' : Ctx := ⟨c.w.setRow (c.ρ o).blk new, c.ρ, c.Sa, c.So, c.B⟩
  c.Le M c' /\ Inv c' (upd H o (some { y with es := es' })) M /\ Fr c H c'.w /\ X8i c H c' (upd H o (some { y with es := es' })) := by
 intro c'
 obtain ⟨hMo, ⟨⟨cur0, hcb0, hcs, hcc⟩, hfits, hpos', hsame⟩, hoks⟩ := hI.obj o y hH
 obtain rfl : cur0 = cur := by rw [hcb0] at hcb; cases hcb; rfl
 have hrow : (c.w.setRow (c.ρ o).blk new).heap[(c.ρ o).blk]? = some (.cells new (c.ρ o).ety (0, 0)) := setRow_heap c.w _ cur0 new _ _ hcb
 have hother : ∀ b, b ≠ (c.ρ o).blk -> (c.w.setRow (c.ρ o).blk new).heap[b]? = c.w.heap[b]? := fun b hb => setRow_other c.w _ b new hb
 have hstab := hI.stab o y hH
 have hle' : c.Le M c' :=
  ⟨fun _ _ => rfl, fun b hb => hb, fun b hb => hb, fun b hb => hother b (fun e => by subst e; exact hb.elim hstab.1 hstab.2), rfl⟩
 have hM : ∀ q z, upd H o (some { y with es := es' }) q = some z -> (q = o /\ z = { y with es := es' }) \/ (q ≠ o /\ H q = some z) := by
  intro q z hz
  by_cases hq : q = o
  ·subst hq; rw [Xr] at hz; cases hz; exact .inl ⟨rfl, rfl⟩
  ·rw [Xo _ _ hq] at hz; exact .inr ⟨hq, hz⟩
 have hne : ∀ q z, q ≠ o -> H q = some z -> (c.ρ q).blk ≠ (c.ρ o).blk := by
  intro q z hq hz hb
  have := (hI.sep o q y z hH hz (fun e => hq e.symm) hb.symm).1
  rw [hs] at this; cases this
 refine ⟨hle', ⟨?_, ?_, ?_, fun b hb => by simpa [c'] using hI.lt b hb, by simpa [c'] using hI.base, hI.own, ?_⟩, ⟨rfl, rfl, rfl, by simp [c'], fun b _ hb => hother b (fun e => hb o y hH e.symm)⟩, fun q z hz => by
  rcases hM q z hz with ⟨h1, h2⟩ | ⟨_, hz⟩
  ·subst h1; exact .inr ⟨q, y, hH, rfl⟩
  ·exact .inr ⟨q, z, hz, rfl⟩⟩
 ·intro q z hz
  rcases hM q z hz with ⟨rfl, rfl⟩ | ⟨hq, hz⟩
  ·refine ⟨hMo, ⟨⟨new, hrow, by rw [hnsz]; exact hcs, fun i e he => ?_⟩, hlen, hpos', hsame⟩, fun e he a ha => ?_⟩
   ·obtain ⟨h1, h2⟩ := hrel i e he
    refine ⟨h1, fun k a ha => ?_⟩
    obtain ⟨h3, v, h4, h5, h6⟩ := h2 k a ha
    exact ⟨v, h4, h5.mono hle' (.inr h3), h6⟩
   ·obtain ⟨i, hi⟩ := List.getElem?_of_mem he
    obtain ⟨k, hk⟩ := List.getElem?_of_mem ha
    exact ((hrel i e hi).2 k a hk).1
  ·obtain ⟨h1, ⟨⟨cur1, g1, g2, g3⟩, g4, g5, g6⟩, h3⟩ := hI.obj q z hz
   refine ⟨h1, ⟨⟨cur1, by show (c.w.setRow (c.ρ o).blk new).heap[(c.ρ q).blk]? = _; rw [hother _ (hne q z hq hz)]; exact g1, g2, fun i e he => ?_⟩, g4, g5, g6⟩, h3⟩
   obtain ⟨k1, k2⟩ := g3 i e he
   exact ⟨k1, fun k a ha => by obtain ⟨v, hv, hr, h7⟩ := k2 k a ha; exact ⟨v, hv, hr.mono hle' (.inr (h3 e (List.mem_of_getElem? he) a (List.mem_of_getElem? ha))), h7⟩⟩
 ·intro q q' z z' hz hz' hqq hb
  rcases hM q z hz with ⟨rfl, rfl⟩ | ⟨hq, hz1⟩
  ·rcases hM q' z' hz' with ⟨rfl, rfl⟩ | ⟨hq', hz'⟩
   ·exact absurd rfl hqq
   ·exact absurd hb.symm (hne q' z' hq' hz')
  ·rcases hM q' z' hz' with ⟨rfl, rfl⟩ | ⟨hq', hz2⟩
   ·exact absurd hb (hne q z hq hz1)
   ·exact hI.sep q q' z z' hz1 hz2 hqq hb
 ·intro q z hz
  rcases hM q z hz with ⟨rfl, rfl⟩ | ⟨_, hz⟩
  ·exact hstab
  ·exact hI.stab q z hz
 ·intro q z hz
  rcases hM q z hz with ⟨rfl, rfl⟩ | ⟨_, hz⟩
  ·exact hI.low q y hH
  ·exact hI.low q z hz
theorem Xop (hT : X7o P T) (hI : Inv c H M) (hE : ∀ x, X15 c false (ev x) (σ x)) {d x : Operand} {t t' : Nat} {o off len : Nat} {y : Obj} {xs : List AV} {te : TI} {ti : TI} {et : Nat} (ty : TypeId)
  (hd : ev d = .ref o off len) (hH : H o = some y) (hs : y.solo = true) (hle : off + len <= y.es.length) (hx : Xhf H (ev x) xs) (hn0 : min xs.length len ≠ 0)
  (ht : T t = some ti) (hk : ti.kind = .slice et) (hte : T et = some te) (hsz : ∀ e ∈ xs, e.cells.length = te.size) (hes : y.esz = te.size) :
  ∃ c', (Builtin.copy_ #[t, t'] ty #[σ d, σ x]).run P c.w = .ok (goInt (min xs.length len)) c'.w /\ c.Le M c' /\ c'.Sa = c.Sa /\ c'.So = c.So /\
   Inv c' (upd H o (some { y with es := splice y.es off (xs.take (min xs.length len)) })) M /\ Fr c H c'.w /\ X8i c H c' (upd H o (some { y with es := splice y.es off (xs.take (min xs.length len)) })) := by
 have hdv := hE d
 rw [hd] at hdv
 obtain ⟨hdv, _⟩ := hdv.ref_inv
 have hne : xs ≠ [] := fun h => by subst h; simp at hn0
 obtain ⟨b, so, cap, esz, hsv, hcells⟩ := Xkg hI hx (hE x) hne
 obtain ⟨hMo, ⟨⟨cur, hcb, hcs, hcc⟩, hfits, hpos', hsame⟩, hoks⟩ := hI.obj o y hH
 have hesz : esz = te.size := by
  obtain ⟨e, he⟩ := List.exists_mem_of_ne_nil xs hne
  obtain ⟨i, hi⟩ := List.getElem?_of_mem he
  rw [<- (hcells i e hi).1, hsz e he]
 have hρ : (c.ρ o).esz = te.size := by rw [<- hsame, hes]
 subst hesz
 have htake : ∀ (i : Nat) e, (xs.take (min xs.length len))[i]? = some e -> e.cells.length = te.size /\ EAt c M e b (so + i * te.size) := by
  intro i e he
  rw [List.getElem?_take] at he
  split at he
  ·exact hcells i e he
  ·cases he
 have hlt : (xs.take (min xs.length len)).length = min xs.length len := by simp
 obtain ⟨news, hnl, hnc, hn1, hnr⟩ := Xe2 (by omega) htake
 rw [hlt] at hnl
 have hbound : (off + min xs.length len) * (c.ρ o).esz <= (c.ρ o).cap * (c.ρ o).esz := Nat.mul_le_mul_right _ (by omega)
 rw [Nat.add_mul, hρ] at hbound
 have hl := run_loadCells_list (P := P) c.w ⟨b, so, none⟩ news hnc
 rw [hnl] at hl
 have hst := run_storeCells_at P (c.ρ o).blk (off * te.size) (c.ρ o).ety news 0 cur c.w hcb (by rw [hnl, hcs, hρ]; omega) hn1
 simp only [Nat.add_zero] at hst
 let new : Array Value := (cur.toList.take (off * te.size) ++ news ++ cur.toList.drop (off * te.size + news.length)).toArray
 have hrun : (Builtin.copy_ #[t, t'] ty #[σ d, σ x]).run P c.w = .ok (goInt (min xs.length len)) (c.w.setRow (c.ρ o).blk new) := by
  rw [hdv, hsv, hρ]
  obtain ⟨i, dd, hi, hu, _, _, hsi, _⟩ := X29 (hT et te hte)
  have hu' := X2o (hT t ti ht) hk
  have hmin : Nat.min xs.length len = min xs.length len := rfl
  rw [hsi] at hl hst
  simp [Builtin.copy_, run_underlying hu', Builtin.lenOf, Builtin.firstCells, Go.sizeOf, typeInfo, hi, hsi, hmin, hl, hst, new]
  exact congrArg goInt (by omega)
 have hnsz : new.size = cur.size := by
  simp only [new, List.size_toArray, List.length_append, List.length_take, List.length_drop, Array.length_toList, hnl]
  rw [hcs, hρ]; omega
 have hget : ∀ j, new[j]? = if off * te.size <= j /\ j < off * te.size + min xs.length len * te.size then news[j - off * te.size]? else cur[j]? := by
  intro j
  simp only [new, List.append_assoc, List.getElem?_toArray]
  rw [List.getElem?_append, List.getElem?_append]
  simp only [List.length_take, Array.length_toList, Nat.min_eq_left (show off * te.size <= cur.size by rw [hcs, hρ]; omega)]
  by_cases h1 : j < off * te.size
  ·rw [if_pos h1, if_neg (by omega), List.getElem?_take, if_pos h1]; simp
  ·rw [if_neg h1]
   by_cases h2 : j - off * te.size < news.length
   ·rw [if_pos h2, if_pos (by omega)]
   ·rw [if_neg h2, if_neg (by omega), List.getElem?_drop]
    simp only [Array.getElem?_toList]
    congr 1; omega
 have hsp : off + (xs.take (min xs.length len)).length <= y.es.length := by rw [hlt]; omega
 have hw := Xgw hI hH hs hcb hnsz (es' := splice y.es off (xs.take (min xs.length len))) ?_ ?_
 ·obtain ⟨g1, g2, g3, g4⟩ := hw
  exact ⟨_, hrun, g1, rfl, rfl, g2, g3, g4⟩
 ·unfold splice
  simp only [List.length_append, List.length_take, List.length_drop]
  omega
 ·intro i e he
  rw [getElem?_splice hsp, hlt] at he
  rw [hρ]
  by_cases h1 : off <= i /\ i < off + min xs.length len
  ·rw [if_pos h1] at he
   refine ⟨(htake _ e he).1, fun k a ha => ?_⟩
   obtain ⟨h3, v, h4, h5, h6⟩ := hnr _ e k a he ha
   have hk' : k < te.size := by rw [<- (htake _ e he).1]; exact (List.getElem?_eq_some_iff.1 ha).1
   have hm1 : (i - off) * te.size + off * te.size = i * te.size := by rw [<- Nat.add_mul]; congr 1; omega
   have hm2 : (i - off + 1) * te.size <= min xs.length len * te.size := Nat.mul_le_mul_right _ (by omega)
   rw [Nat.add_mul] at hm2
   refine ⟨h3, v, ?_, h5, h6⟩
   rw [hget, if_pos (by omega), <- h4]
   congr 1; omega
  ·rw [if_neg h1] at he
   obtain ⟨g1, g2⟩ := hcc i e he
   rw [hρ] at g1
   refine ⟨g1, fun k a ha => ?_⟩
   obtain ⟨v, h3, h4, h5⟩ := g2 k a ha
   rw [hρ] at h3
   have hk' : k < te.size := by rw [<- g1]; exact (List.getElem?_eq_some_iff.1 ha).1
   refine ⟨hoks e (List.mem_of_getElem? he) a (List.mem_of_getElem? ha), v, ?_, h4, h5⟩
   rw [hget, if_neg ?_]
   ·exact h3
   ·by_cases h2 : i < off
    ·have : (i + 1) * te.size <= off * te.size := Nat.mul_le_mul_right _ h2
     rw [Nat.add_mul] at this; omega
    ·have : (off + min xs.length len) * te.size <= i * te.size := Nat.mul_le_mul_right _ (by omega)
     rw [Nat.add_mul] at this; omega
end
end Go.Av


namespace Go.Av
section
variable {P : Program} {T : Ty} {nt : Nat} {o : Oper} {s : St}
theorem OpR.copy (hT : X7o P T) {d x : Operand} {t t' q off len : Nat} {y : Obj} {xs : List AV} {te : TI} {ti : TI} {et : Nat} (ho : o.op = .call { callee := .builtin .copy, args := #[d, x], argTypes := #[t, t'] })
  (hd : evA s.A d = .ref q off len) (hH : s.H q = some y) (hle : off + len <= y.es.length) (hx : Xhf s.H (evA s.A x) xs) (hn0 : min xs.length len ≠ 0)
  (ht : T t = some ti) (hk : ti.kind = .slice et) (hte : T et = some te) (hsz : ∀ e ∈ xs, e.cells.length = te.size) (hes : y.esz = te.size) :
  OpR P nt o s (fun a' H' n' => a' = .sc (goInt (min xs.length len)) /\ H' = upd s.H q (some { y with es := splice y.es off (xs.take (min xs.length len)) }) /\ n' = s.n) := by
 intro c0 H0 n0 c act g K Q hK R
 obtain ⟨c', h1, hle', hsa, hso, hI, hfr, hown⟩ := Xop (σ := act.eval) hT g.inv g.ev o.type hd hH (g.solo q y hH).1 hle hx hn0 ht hk hte hsz hes (t' := t')
 have hrun : (execOp act.eval o).run P c.w = .ok (.value (goInt (min xs.length len))) c'.w := by
  simp [execOp, ho, resolve, invoke, builtin, h1]
 refine Oper.wpR (fun d hd => by rw [hd] at ho; cases ho) ?_
 unfold Oper.wp
 rw [hrun]
 have hs : ∀ r z, upd s.H q (some { y with es := splice y.es off (xs.take (min xs.length len)) }) r = some z -> z.solo = true /\ z.spent = false := by
  intro r z hz
  by_cases hr : r = q
  ·subst hr; rw [Xr] at hz; cases hz; exact g.solo r y hH
  ·rw [Xo _ _ hr] at hz; exact g.solo r z hz
 exact hK c' _ _ _ _ ⟨rfl, rfl, rfl⟩ fun dst hd => g.next hd hle' hsa (fun b hb => .inl (by rw [hso] at hb; exact hb)) hfr hown hI hs (Nat.le_refl _) .sc .sc
end
end Go.Av


namespace Go.Av
section
variable {P : Program} {T : Ty} {nt : Nat} {o : Oper} {s : St}
end
end Go.Av


namespace Go.Av
end Go.Av


namespace Go.Av
inductive X4g where
 | el (e : AV)
 | ld (e : AV)
 | no
 | pure (bs : List AV) (r : AV)
 | call (r : AV) (G : List (Nat × Obj)) (n : Nat)
 | go (b : Bool)
 | br (b : Bool)
 | ne (b : Bool)
 | wrap
 | ix (j : Nat)
 | stop (j : Nat)
 | via (a : AV)
 | trunc (o : Nat) (es : List AV)
def X3q : List Prop -> Prop
 | [] => True
 | p :: r => p /\ X3q r
theorem X0w {a b : List Prop} : X3q (a ++ b) ↔ X3q a /\ X3q b := by
 induction a with
 | nil => simp [X3q]
 | cons p a ih => simp [X3q, ih, and_assoc]
def Xgo (g : Bool) : List Prop -> List Prop
 | [] => []
 | p :: r => (g = true -> p) :: Xgo g r
theorem Xdn {g : Bool} {l : List Prop} (h : X3q (Xgo g l)) (hg : g = true) : X3q l := by
 induction l with
 | nil => trivial
 | cons p l ih => exact ⟨h.1 hg, ih h.2⟩
def X8s (v : Value) : AV :=
 match v with
 | .agg ⟨vs⟩ => match vs.all (fun v => v.oneCell') with
  | true => .agg (vs.map Xce)
  | false => .sc (.agg ⟨vs⟩)
 | v => Xce v
theorem X7h (v : Value) : X8s v = X2h v := by
 cases v with
 | agg vs =>
  obtain ⟨vs⟩ := vs
  simp only [X8s, X2h]
  have h1 : (Array.all ⟨vs⟩ fun v => v.oneCell') = vs.all fun v => v.oneCell' := by simp
  rw [h1]
  cases vs.all fun v => v.oneCell' <;> rfl
 | _ => rfl
def rdA (a : AV) : AV × List Prop :=
 match a with
 | .cond g v => (v, [g = true])
 | .junk => (.junk, [])
 | .sc v => (.sc v, [])
 | .nils => (.nils, [])
 | .agg cs => (.agg cs, [])
 | .tup cs => (.tup cs, [])
 | .list o es => (.list o es, [])
 | .ref o f l => (.ref o f l, [])
 | .ptr o i n => (.ptr o i n, [])
 | .elem o e n => (.elem o e n, [])
 | .fn f cs => (.fn f cs, [])
 | .mref o => (.mref o, [])
theorem Xpi {a b : AV} {ps : List Prop} (h : rdA a = (b, ps)) (hp : X3q ps) : X5z a = b := by
 cases a with
 | cond g v =>
  cases h
  simp only [X3q, and_true] at hp
  simp [X5z, hp]
 | _ => cases h; rfl
def rd (L : List (Nat × AV)) (x : Operand) : AV × List Prop :=
 match x with
 | .tmp t => rdA (fr L t)
 | .const v => (X8s v, [])
 | .global g => (.sc (.pointer (some ⟨g, 0, none⟩)), [])
 | .func f => (.fn f [], [])
theorem X13 {L : List (Nat × AV)} {x : Operand} {a : AV} {ps : List Prop} (h : rd L x = (a, ps)) (hp : X3q ps) : evA (fr L) x = a := by
 unfold rd at h
 split at h
 ·exact Xpi h hp
 ·cases h; exact (X7h _).symm
 ·cases h; rfl
 ·cases h; rfl
def rds (L : List (Nat × AV)) : List Operand -> List AV × List Prop
 | [] => ([], [])
 | x :: r => match rd L x, rds L r with
  | (a, p), (l, q) => (a :: l, p ++ q)
theorem Xcd {L : List (Nat × AV)} : ∀ {xs : List Operand} {as : List AV} {ps : List Prop}, rds L xs = (as, ps) -> X3q ps -> xs.map (evA (fr L)) = as := by
 intro xs
 induction xs with
 | nil => intro as ps h _; simp [rds] at h; simp [<- h.1]
 | cons x r ih =>
  intro as ps h hp
  simp only [rds] at h
  cases h
  obtain ⟨h1, h2⟩ := X0w.1 hp
  simp only [List.map_cons]
  rw [X13 (a := (rd L x).1) (ps := (rd L x).2) rfl h1, ih (as := (rds L r).1) (ps := (rds L r).2) rfl h2]
def Xn5 {β : Type} (v : Value) (k : Value -> Option β) : Option β :=
 match v with
 | .int q z => k (.int q z)
 | .bool b => k (.bool b)
 | .string s => k (.string s)
 | v => k v
theorem Xl8 {β : Type} (v : Value) (k : Value -> Option β) : Xn5 v k = k v := by cases v <;> rfl
def Xis {β : Type} (a : AV) (k : AV -> Option β) : Option β :=
 match a with
 | .junk => k .junk
 | .sc v => Xn5 v fun v => k (.sc v)
 | .nils => k .nils
 | .agg cs => k (.agg cs)
 | .tup cs => k (.tup cs)
 | .list o es => k (.list o es)
 | .ref o f l => k (.ref o f l)
 | .ptr o i n => k (.ptr o i n)
 | .elem o e n => k (.elem o e n)
 | .fn f cs => k (.fn f cs)
 | .mref o => k (.mref o)
 | .cond b v => k (.cond b v)
theorem Xh5 {β : Type} (a : AV) (k : AV -> Option β) : Xis a k = k a := by cases a <;> simp [Xis, Xl8]
def Xc2 {β : Type} : List AV -> (List AV -> Option β) -> Option β
 | [], k => k []
 | a :: r, k => Xis a fun a => Xc2 r fun r => k (a :: r)
theorem Xjt {β : Type} : ∀ (l : List AV) (k : List AV -> Option β), Xc2 l k = k l := by
 intro l
 induction l with
 | nil => intro k; rfl
 | cons a r ih => intro k; simp [Xc2, Xh5, ih]
def Xir {β : Type} (a : AV) (k : AV -> Option β) : Option β :=
 match a with
 | .agg cs => Xc2 cs fun cs => k (.agg cs)
 | .tup cs => Xc2 cs fun cs => k (.tup cs)
 | .fn f cs => Xc2 cs fun cs => k (.fn f cs)
 | a => Xis a k
theorem Xh4 {β : Type} (a : AV) (k : AV -> Option β) : Xir a k = k a := by cases a <;> simp [Xir, Xjt, Xh5]
def Xb8 {β : Type} : List AV -> (List AV -> Option β) -> Option β
 | [], k => k []
 | a :: r, k => Xir a fun a => Xb8 r fun r => k (a :: r)
theorem X9p {β : Type} : ∀ (l : List AV) (k : List AV -> Option β), Xb8 l k = k l := by
 intro l
 induction l with
 | nil => intro k; rfl
 | cons a r ih => intro k; simp [Xb8, Xh4, ih]
def X9r {β : Type} (a : AV) (k : AV -> Option β) : Option β :=
 match a with
 | .agg cs => Xb8 cs fun cs => k (.agg cs)
 | .tup cs => Xb8 cs fun cs => k (.tup cs)
 | a => Xir a k
theorem X5p {β : Type} (a : AV) (k : AV -> Option β) : X9r a k = k a := by
 cases a <;> simp [X9r, X9p, Xh4]
abbrev PR := Option (AV × List X4g × List Prop)
def Xqy : List X4g -> Bool
 | .wrap :: _ => true
 | _ => false
def Xmj (k : IntKind) (z : Int) (hs : List X4g) (ps : List Prop) : PR :=
 match hs with
 | .wrap :: hs => some (.sc (.int k (k.wrap z)), hs, ps)
 | hs => some (.sc (.int k z), hs, (k.wrap z = z) :: ps)
theorem Xat {k : IntKind} {z : Int} {hs hs' : List X4g} {ps ps' : List Prop} {a : AV} (h : Xmj k z hs ps = some (a, hs', ps')) (hp : X3q ps') : a = .sc (.int k (k.wrap z)) /\ X3q ps := by
 unfold Xmj at h
 split at h
 ·cases h; exact ⟨rfl, hp⟩
 ·cases h; exact ⟨by rw [hp.1], hp.2⟩
def Xqs (T : Ty) (op : BinOp) (t : Nat) (x y : AV) (hs : List X4g) (ps : List Prop) : PR :=
 match op, x, y with
 | .add, .sc (.int k a), .sc (.int k' b) => if k = k' then Xmj k (a + b) hs ps else none
 | .sub, .sc (.int k a), .sc (.int k' b) => if k = k' then Xmj k (a - b) hs ps else none
 | .mul, .sc (.int k a), .sc (.int k' b) => if k = k' then Xmj k (a * b) hs ps else none
 | .quo, .sc (.int k a), .sc (.int k' b) => if k = k' then Xmj k (a.tdiv b) hs ((b ≠ 0) :: ps) else none
 | .rem, .sc (.int k a), .sc (.int k' b) => if k = k' then some (.sc (.int k (a.tmod b)), hs, (b ≠ 0) :: ps) else none
 | .shl, .sc (.int k a), .sc (.int _ b) => Xmj k (a * 2 ^ (min b.toNat k.bits)) hs ((0 <= b) :: ps)
 | .shr, .sc (.int k a), .sc (.int _ b) => some (.sc (.int k (a.fdiv (2 ^ (min b.toNat k.bits)))), hs, (0 <= b) :: ps)
 | op, x, y => match Xq3 T op t x y with
  | some a => some (a, hs, ps)
  | none => none
theorem Xot {T : Ty} {ev : Operand -> AV} {H : X0l} {op : BinOp} {t yt : Nat} {x y : Operand} {u v : AV} {hs hs' : List X4g} {ps ps' : List Prop} {a : AV} (hx : X3q ps -> ev x = u) (hy : X3q ps -> ev y = v)
  (h : Xqs T op t u v hs ps = some (a, hs', ps')) (hp : X3q ps') : Pu T ev H (.binOp op t x y yt) a := by
 unfold Xqs at h
 split at h
 ·split at h
  ·rename_i hk; subst hk
   obtain ⟨rfl, h2⟩ := Xat h hp; exact .binInt (hx h2) (hy h2) rfl
  ·cases h
 ·split at h
  ·rename_i hk; subst hk
   obtain ⟨rfl, h2⟩ := Xat h hp; exact .binInt (hx h2) (hy h2) rfl
  ·cases h
 ·split at h
  ·rename_i hk; subst hk
   obtain ⟨rfl, h2⟩ := Xat h hp; exact .binInt (hx h2) (hy h2) rfl
  ·cases h
 ·split at h
  ·rename_i hk; subst hk
   obtain ⟨rfl, h2⟩ := Xat h hp; exact .quo (hx h2.2) (hy h2.2) h2.1
  ·cases h
 ·split at h
  ·rename_i hk; subst hk
   cases h; exact .rem (hx hp.2) (hy hp.2) hp.1
  ·cases h
 ·obtain ⟨rfl, h2⟩ := Xat h hp; exact .shl (hx h2.2) (hy h2.2) h2.1
 ·cases h; exact .shr (hx hp.2) (hy hp.2) hp.1
 ·split at h
  ·rename_i hb
   cases h
   rw [<- hx hp, <- hy hp] at hb
   exact Xln hb
  ·cases h
def Xoq (T : Ty) (src dst : Nat) (x : AV) (hs : List X4g) (ps : List Prop) : PR :=
 match x with
 | .sc (.int _ n) => match T src with
  | some _ => match T dst with
   | some td => match td.kind with
    | .int k' => Xmj k' n hs ps
    | _ => none
   | none => none
  | none => none
 | x => match Xor T src dst x with
  | some a => some (a, hs, ps)
  | none => none
def unS (op : UnOp) (x : AV) (hs : List X4g) (ps : List Prop) : PR :=
 match op, x with
 | .neg, .sc (.int k n) => Xmj k (0 - n) hs ps
 | .not, .sc (.bool b) => some (.sc (.bool (!b)), hs, ps)
 | _, _ => none
def Xle (H : X0l) (p : AV) (hs : List X4g) (ps : List Prop) : Option (AV × Nat × List X4g × List Prop) :=
 match p with
 | .elem _ e k => some (e, k, hs, ps)
 | .ptr o i k => match H o with
  | some y => match hs with
   | .ld e :: hs => some (e, k, hs, (y.es[i]? = some e) :: ps)
   | .no :: hs => match y.es[i]? with
    | some e => some (e, k, hs, ps)
    | none => none
   | hs => match y.es[i]? with
    | some e => some (e, k, hs, ps)
    | none => none
  | none => none
 | _ => none
theorem Xld {H : X0l} {p e : AV} {k : Nat} {hs hs' : List X4g} {ps ps' : List Prop} (h : Xle H p hs ps = some (e, k, hs', ps')) (hp : X3q ps') : Xhe H p e k /\ X3q ps := by
 unfold Xle at h
 split at h
 ·cases h; exact ⟨.elem, hp⟩
 ·split at h
  ·rename_i hH
   split at h
   ·cases h; exact ⟨.ptr hH hp.1, hp.2⟩
   ·split at h
    ·rename_i he; cases h; exact ⟨.ptr hH he, hp⟩
    ·cases h
   ·split at h
    ·rename_i he; cases h; exact ⟨.ptr hH he, hp⟩
    ·cases h
  ·cases h
 ·cases h
def ixS (T : Ty) (H : X0l) (t : Nat) (x : AV) (i : Int) (hs : List X4g) (ps : List Prop) : PR :=
 match x, hs with
 | .list own es, .el e :: hs => match X3i T t with
  | some te => if e.cells.length = te.size then some (.elem own e 0, hs, (0 <= i) :: (es[i.toNat]? = some e) :: ps) else none
  | none => none
 | .ref o off len, .el e :: hs => match X3i T t with
  | some te => match H o with
   | some y => if e.cells.length = te.size then some (.ptr o (off + i.toNat) 0, hs, (0 <= i) :: (i < len) :: (y.es[off + i.toNat]? = some e) :: ps) else none
   | none => none
  | none => none
 | .ptr o j q, .ix m :: hs => match Xex T t with
  | some (n, te) => some (.ptr o j (q + m * te.size), hs, (i = (m : Int)) :: (m < n) :: ps)
  | none => none
 | .elem own e q, .ix m :: hs => match Xex T t with
  | some (n, te) => some (.elem own e (q + m * te.size), hs, (i = (m : Int)) :: (m < n) :: ps)
  | none => none
 | .ptr o j q, hs => match Xex T t with
  | some (n, te) => some (.ptr o j (q + i.toNat * te.size), hs, (0 <= i) :: (i < n) :: ps)
  | none => none
 | .elem own e q, hs => match Xex T t with
  | some (n, te) => some (.elem own e (q + i.toNat * te.size), hs, (0 <= i) :: (i < n) :: ps)
  | none => none
 | x, hs => match ixF T H t x i with
  | some a => some (a, hs, (0 <= i) :: ps)
  | none => none
def bdS (L : List (Nat × AV)) (o : Option Operand) (d : Nat) (ps : List Prop) : Option (Nat × List Prop) :=
 match o with
 | none => some (d, ps)
 | some x => match rd L x with
  | (.sc (.int _ z), qs) => some (z.toNat, (0 <= z) :: (qs ++ ps))
  | _ => none
theorem X5x {L : List (Nat × AV)} {o : Option Operand} {d n : Nat} {ps ps' : List Prop} (h : bdS L o d ps = some (n, ps')) (hp : X3q ps') : Bd (evA (fr L)) o d n /\ X3q ps := by
 unfold bdS at h
 split at h
 ·cases h; exact ⟨.dflt, hp⟩
 ·split at h
  ·rename_i hr
   cases h
   obtain ⟨h1, h2⟩ := hp
   obtain ⟨h3, h4⟩ := X0w.1 h2
   exact ⟨.given (X13 hr h3) h1, h4⟩
  ·cases h
def Xki (T : Ty) (L : List (Nat × AV)) (H : X0l) (t : Nat) (x : AV) (lo hi : Option Operand) (hs : List X4g) (ps : List Prop) : PR :=
 match x with
 | .list own es => match X3i T t with
  | some te => match bdS L lo 0 ps with
   | some (l, ps) => match bdS L hi es.length ps with
    | some (h, ps) => match hs with
     | .via (.list _ es') :: hs => some (.list own es', hs, ((es.drop l).take (h - l) = es') :: (l <= h) :: (h <= es.length) :: (∀ e ∈ es, e.cells.length = te.size) :: ps)
     | hs => some (.list own ((es.drop l).take (h - l)), hs, (l <= h) :: (h <= es.length) :: (∀ e ∈ es, e.cells.length = te.size) :: ps)
    | none => none
   | none => none
  | none => none
 | .ref o off len => match X3i T t with
  | some te => match bdS L lo 0 ps with
   | some (l, ps) => match bdS L hi len ps with
    | some (h, ps) => match hs with
     | .ne false :: hs => some (.list true [], hs, (l = h) :: (l <= len) :: ps)
     | .via (.ref _ off' h') :: hs => match H o with
      | some y => if y.esz = te.size then some (.ref o off' h', hs, (off + l = off') :: (h - l = h') :: (l <= h) :: (l = 0 \/ l < h) :: (h <= len \/ off + h <= y.es.length) :: ps) else none
      | none => some (.ref o off' h', hs, (off + l = off') :: (h - l = h') :: (l = 0) :: (h <= len) :: ps)
     | hs => match H o with
      | some y => some (.ref o (off + l) (h - l), hs, (l < h) :: (h <= len) :: (∃ e ∈ y.es, e.cells.length = te.size) :: ps)
      | none => some (.ref o (off + l) (h - l), hs, (l = 0) :: (h <= len) :: ps)
    | none => none
   | none => none
  | none => none
 | .nils => match X3i T t with
  | some _ => match bdS L lo 0 ps with
   | some (l, ps) => match bdS L hi 0 ps with
    | some (h, ps) => some (.nils, hs, (l = 0) :: (h = 0) :: ps)
    | none => none
   | none => none
  | none => none
 | _ => none
theorem Xkh {T : Ty} {L : List (Nat × AV)} {H : X0l} {t : Nat} {x : Operand} {u : AV} {lo hi : Option Operand} {hs hs' : List X4g} {ps ps' : List Prop} {a : AV} (hx : X3q ps -> evA (fr L) x = u)
  (h : Xki T L H t u lo hi hs ps = some (a, hs', ps')) (hp : X3q ps') : Pu T (evA (fr L)) H (.slice t x lo hi none) a := by
 unfold Xki at h
 split at h
 ·split at h
  ·rename_i hs
   obtain ⟨ti, et, h1, h2, h3⟩ := X1t hs
   split at h
   ·rename_i hl
    split at h
    ·rename_i hh
     split at h
     ·cases h
      obtain ⟨p0, p1, p2, p3, p4⟩ := hp
      obtain ⟨b2, q2⟩ := X5x hh p4
      obtain ⟨b1, q1⟩ := X5x hl q2
      rw [<- p0]
      exact .sliceList (hx q1) b1 b2 p1 p2 h1 h2 h3 p3
     ·cases h
      obtain ⟨p1, p2, p3, p4⟩ := hp
      obtain ⟨b2, q2⟩ := X5x hh p4
      obtain ⟨b1, q1⟩ := X5x hl q2
      exact .sliceList (hx q1) b1 b2 p1 p2 h1 h2 h3 p3
    ·cases h
   ·cases h
  ·cases h
 ·split at h
  ·rename_i hs
   obtain ⟨ti, et, h1, h2, h3⟩ := X1t hs
   split at h
   ·rename_i hl
    split at h
    ·rename_i hh
     split at h
     ·cases h
      obtain ⟨rfl, p2, p4⟩ := hp
      obtain ⟨b2, q2⟩ := X5x hh p4
      obtain ⟨b1, q1⟩ := X5x hl q2
      exact .sliceRef0 (hx q1) b1 b2 p2 h1 h2 h3
     ·split at h
      ·rename_i hH
       split at h
       ·rename_i hes
        cases h
        obtain ⟨rfl, rfl, p1, p2, p3, p4⟩ := hp
        obtain ⟨b2, q2⟩ := X5x hh p4
        obtain ⟨b1, q1⟩ := X5x hl q2
        exact .sliceRefV (hx q1) b1 b2 p1 p2 hH p3 h1 h2 h3 hes
       ·cases h
      ·cases h
       obtain ⟨rfl, rfl, p1, p2, p4⟩ := hp
       obtain ⟨b2, q2⟩ := X5x hh p4
       obtain ⟨b1, q1⟩ := X5x hl q2
       exact .sliceRefZ (hx q1) b1 b2 p1 p2 h1 h2 h3
     ·split at h
      ·rename_i hH
       cases h
       obtain ⟨p1, p2, p3, p4⟩ := hp
       obtain ⟨b2, q2⟩ := X5x hh p4
       obtain ⟨b1, q1⟩ := X5x hl q2
       exact .sliceRef (hx q1) b1 b2 p1 p2 h1 h2 h3 hH p3
      ·cases h
       obtain ⟨p1, p2, p4⟩ := hp
       obtain ⟨b2, q2⟩ := X5x hh p4
       obtain ⟨b1, q1⟩ := X5x hl q2
       exact .sliceRefZ (hx q1) b1 b2 p1 p2 h1 h2 h3
    ·cases h
   ·cases h
  ·cases h
 ·split at h
  ·rename_i hs
   obtain ⟨ti, et, h1, h2, h3⟩ := X1t hs
   split at h
   ·rename_i hl
    split at h
    ·rename_i hh
     cases h
     obtain ⟨rfl, rfl, p4⟩ := hp
     obtain ⟨b2, q2⟩ := X5x hh p4
     obtain ⟨b1, q1⟩ := X5x hl q2
     exact .sliceNils (hx q1) b1 b2 h1 h2 h3
    ·cases h
   ·cases h
  ·cases h
 ·cases h
theorem Xpr {T : Ty} {ev : Operand -> AV} {H : X0l} {t : Nat} {x ix : Operand} {u : AV} {q : IntKind} {i : Int} {hs hs' : List X4g} {ps ps' : List Prop} {a : AV} (hx : X3q ps -> ev x = u) (hi : X3q ps -> ev ix = .sc (.int q i))
  (h : ixS T H t u i hs ps = some (a, hs', ps')) (hp : X3q ps') : Pu T ev H (.indexAddr t x ix) a := by
 unfold ixS at h
 split at h
 ·split at h
  ·rename_i hs
   obtain ⟨ti, et, h1, h2, h3⟩ := X1t hs
   split at h
   ·rename_i hsz
    cases h
    exact .indexList (hx hp.2.2) (hi hp.2.2) hp.1 h1 h2 h3 hp.2.1 hsz
   ·cases h
  ·cases h
 ·split at h
  ·rename_i hs
   obtain ⟨ti, et, h1, h2, h3⟩ := X1t hs
   split at h
   ·rename_i hH
    split at h
    ·rename_i hsz
     cases h
     exact .indexRef (hx hp.2.2.2) (hi hp.2.2.2) hp.1 hp.2.1 h1 h2 h3 hH hp.2.2.1 hsz
    ·cases h
   ·cases h
  ·cases h
 ·split at h
  ·rename_i hs
   obtain ⟨ti, et, h1, h2, h3⟩ := X7w hs
   cases h
   have he := hp.1
   subst he
   exact .indexArr (hx hp.2.2) (hi hp.2.2) (Int.natCast_nonneg _) (Int.ofNat_lt.2 hp.2.1) h1 h2 h3
  ·cases h
 ·split at h
  ·rename_i hs
   obtain ⟨ti, et, h1, h2, h3⟩ := X7w hs
   cases h
   have he := hp.1
   subst he
   exact .indexArrElem (hx hp.2.2) (hi hp.2.2) (Int.natCast_nonneg _) (Int.ofNat_lt.2 hp.2.1) h1 h2 h3
  ·cases h
 ·split at h
  ·rename_i hs
   obtain ⟨ti, et, h1, h2, h3⟩ := X7w hs
   cases h
   exact .indexArr (hx hp.2.2) (hi hp.2.2) hp.1 hp.2.1 h1 h2 h3
  ·cases h
 ·split at h
  ·rename_i hs
   obtain ⟨ti, et, h1, h2, h3⟩ := X7w hs
   cases h
   exact .indexArrElem (hx hp.2.2) (hi hp.2.2) hp.1 hp.2.1 h1 h2 h3
  ·cases h
 ·split at h
  ·rename_i hix
   cases h
   refine Xb2 ?_
   simp only [puF, hi hp.2, hx hp.2, if_pos hp.1]
   exact hix
  ·cases h
def Xqc (T : Ty) (t : Nat) (x : AV) : Option AV :=
 match T t with
 | some ti => match ti.kind with
  | .slice _ => match x with
   | .list _ es => some (.sc (.int .i64 es.length))
   | .ref _ _ n => some (.sc (.int .i64 n))
   | .nils => some (.sc (.int .i64 (0 : Nat)))
   | _ => none
  | .string => match x with
   | .sc (.string s) => some (.sc (.int .i64 s.size))
   | _ => none
  | .array n _ => some (.sc (.int .i64 n))
  | _ => none
 | none => none
def Xp3 (hi : Bool) (x y : AV) : Option AV :=
 match x, y with
 | .sc (.int k a), .sc (.int k' b) => if k = k' then some (.sc (.int k (bif hi then (if b > a then b else a) else (if b < a then b else a)))) else none
 | _, _ => none
def Xn0 (L : List (Nat × AV)) : List (Nat × Operand) -> List (Nat × AV) × List Prop
 | [] => ([], [])
 | (i, x) :: r => match rd L x, Xn0 L r with
  | (a, p), (l, q) => ((i, a) :: l, p ++ q)
theorem Xkm {L : List (Nat × AV)} : ∀ {xs : List (Nat × Operand)} {as : List (Nat × AV)} {ps : List Prop}, Xn0 L xs = (as, ps) -> X3q ps -> (xs.map fun p => (p.1, evA (fr L) p.2)) = as := by
 intro xs
 induction xs with
 | nil => intro as ps h _; simp [Xn0] at h; simp [<- h.1]
 | cons x r ih =>
  intro as ps h hp
  obtain ⟨i, x⟩ := x
  simp only [Xn0] at h
  cases h
  obtain ⟨h1, h2⟩ := X0w.1 hp
  simp only [List.map_cons]
  rw [X13 (a := (rd L x).1) (ps := (rd L x).2) rfl h1, ih (as := (Xn0 L r).1) (ps := (Xn0 L r).2) rfl h2]
def buildS (T : Ty) (t : Nat) (vs : List (Nat × AV)) : Option AV :=
 match T t with
 | some ti => match X8s ti.zero with
  | .agg cs => match ti.kind with
   | .struct fs => if fs.all (fun p => (T p.2).isSome) then (match Xew (fun i => (fs[i]?).map fun p => (p.1, ((T p.2).map (·.size)).getD 0)) cs vs with
    | some r => some (.agg r)
    | none => none) else none
   | .array _ et => match T et with
    | some te => match Xew (fun i => some (i * te.size, te.size)) cs vs with
     | some r => some (.agg r)
     | none => none
    | none => none
   | _ => none
  | _ => none
 | none => none
def Xno (L : List (Nat × AV)) (c a b : Operand) (hs : List X4g) : PR :=
 match rd L c with
 | (.sc (.bool t), pc) => match rd L a, rd L b with
  | (.sc (.bool x), pa), (.sc (.bool y), pb) => some (.sc (.bool (bif t then x else y)), hs, pc ++ (Xgo t pa ++ Xgo (!t) pb))
  | (u, pa), (v, pb) => match hs with
   | .go true :: hs => some (u, hs, (t = true) :: (pc ++ pa))
   | .go false :: hs => some (v, hs, (t = false) :: (pc ++ pb))
   | _ => none
 | _ => none
def puS (T : Ty) (L : List (Nat × AV)) (H : X0l) (op : Op) (hs : List X4g) : PR :=
 match op with
 | .move x => match rd L x with
  | (a, ps) => some (a, hs, ps)
 | .assign x => match rd L x with
  | (a, ps) => some (a, hs, ps)
 | .pick c a b => Xno L c a b hs
 | .load t x => match T t with
  | some ti => match rd L x with
   | (p, ps) => match Xle H p hs ps with
    | some (e, k, hs, ps) => match Xgz ti e k with
     | some a => some (a, hs, ps)
     | none => none
    | none => none
  | none => none
 | .nilCheck x => match rd L x with
  | (.ptr o i k, ps) => some (.ptr o i k, hs, ps)
  | (.elem own e k, ps) => some (.elem own e k, hs, ps)
  | (.fn f caps, ps) => some (.fn f caps, hs, ps)
  | _ => none
 | .binOp op t x y _ => match rd L x, rd L y with
  | (a, p), (b, q) => Xqs T op t a b hs (p ++ q)
 | .unOp op _ x => match rd L x with
  | (a, p) => unS op a hs p
 | .convert src dst x => match rd L x with
  | (a, p) => Xoq T src dst a hs p
 | .fieldAddr s x f => match Xfe T s f with
  | some (off, tf) => if tf.size ≠ 0 then (match rd L x with
   | (.ptr o i k, ps) => some (.ptr o i (k + off), hs, ps)
   | (.elem own e k, ps) => some (.elem own e (k + off), hs, ps)
   | _ => none) else none
  | none => none
 | .field s x f => match Xfe T s f with
  | some (off, tf) => match rd L x with
   | (.agg cs, ps) => match eqT.partA tf cs off with
    | some a => some (a, hs, ps)
    | none => none
   | _ => none
  | none => none
 | .indexAddr t x ix => match rd L ix with
  | (.sc (.int _ i), p) => match rd L x with
   | (a, q) => ixS T H t a i hs (p ++ q)
  | _ => none
 | .index t x ix => match rd L ix with
  | (.sc (.int _ i), p) => match rd L x with
   | (.agg cs, q) => match Xex T t with
    | some (n, te) => match hs with
     | .ix m :: hs => match eqT.partA te cs (m * te.size) with
      | some a => some (a, hs, (i = (m : Int)) :: (m < n) :: (p ++ q))
      | none => none
     | hs => match eqT.partA te cs (i.toNat * te.size) with
      | some a => some (a, hs, (0 <= i) :: (i < n) :: (p ++ q))
      | none => none
    | none => none
   | (.sc (.string s), q) => match T t with
    | some ti => match ti.kind with
     | .string => match hs with
      | .el (.sc (.int .u8 b)) :: hs => some (.sc (.int .u8 b), hs, (0 <= i) :: (∃ c, s[i.toNat]? = some c /\ b = c.toNat) :: (p ++ q))
      | hs => match s[i.toNat]? with
       | some b => some (.sc (.int .u8 b.toNat), hs, (0 <= i) :: (p ++ q))
       | none => none
     | _ => none
    | none => none
   | _ => none
  | _ => none
 | .slice t x lo hi none => match rd L x with
  | (a, p) => Xki T L H t a lo hi hs p
 | .slice t x none (some hi) (some mx) => match X3i T t with
  | some _ => match rd L x with
   | (a, p) => match bdS L (some hi) 0 p with
    | some (h, p) => match bdS L (some mx) 0 p with
     | some (m, p) => match a with
      | .list _ _ => some (.nils, hs, (h = 0) :: (m = 0) :: p)
      | .ref _ _ _ => some (.nils, hs, (h = 0) :: (m = 0) :: p)
      | .nils => some (.nils, hs, (h = 0) :: (m = 0) :: p)
      | _ => none
     | none => none
    | none => none
  | none => none
 | .extract x i => match rd L x with
  | (.tup cs, p) => match cs[i]? with
   | some a => some (a, hs, p)
   | none => none
  | _ => none
 | .makeFunc (.func f) ⟨[]⟩ caps => match rds L caps.toList with
  | (l, p) => some (.fn f l, hs, p)
 | .call { callee := .builtin .len, args := ⟨[x]⟩, argTypes := ⟨[t]⟩ } => match rd L x with
  | (a, p) => match Xqc T t a with
   | some r => match hs with
    | .el r' :: hs => some (r', hs, (r = r') :: p)
    | hs => some (r, hs, p)
   | none => none
 | .call { callee := .builtin .min, args := ⟨[x, y]⟩, argTypes := _ } => match rd L x, rd L y with
  | (a, p), (b, q) => match Xp3 false a b with
   | some r => some (r, hs, p ++ q)
   | none => none
 | .call { callee := .builtin .max, args := ⟨[x, y]⟩, argTypes := _ } => match rd L x, rd L y with
  | (a, p), (b, q) => match Xp3 true a b with
   | some r => some (r, hs, p ++ q)
   | none => none
 | .build t ps => match Xn0 L ps.toList with
  | (l, p) => match buildS T t l with
   | some r => some (r, hs, p)
   | none => none
 | _ => none
theorem Xm4 {T : Ty} {L : List (Nat × AV)} {H : X0l} {c a b : Operand} {hs hs' : List X4g} {ps : List Prop} {r : AV} (h : Xno L c a b hs = some (r, hs', ps)) (hp : X3q ps) : Pu T (evA (fr L)) H (.pick c a b) r := by
 unfold Xno at h
 split at h
 ·rename_i t pc hc
  split at h
  ·rename_i x pa y pb ha hb
   cases h
   obtain ⟨h1, h2⟩ := X0w.1 hp
   obtain ⟨h3, h4⟩ := X0w.1 h2
   exact .pickB (X13 hc h1) (fun ht => X13 ha (Xdn h3 ht)) (fun ht => X13 hb (Xdn h4 (by rw [ht]; rfl)))
  ·rename_i u pa v pb _ ha hb
   split at h
   ·cases h
    obtain ⟨h0, h1⟩ := hp
    obtain ⟨h3, h4⟩ := X0w.1 h1
    exact .pick (X13 hc h3) (fun _ => X13 ha h4) (fun ht => by rw [h0] at ht; cases ht)
   ·cases h
    obtain ⟨h0, h1⟩ := hp
    obtain ⟨h3, h4⟩ := X0w.1 h1
    exact .pick (X13 hc h3) (fun ht => by rw [h0] at ht; cases ht) (fun _ => X13 hb h4)
   ·cases h
 ·cases h
theorem Xkv {T : Ty} {ev : Operand -> AV} {H : X0l} {t : Nat} {x : Operand} {r : AV} (h : Xqc T t (ev x) = some r) : Pu T ev H (.call { callee := .builtin .len, args := ⟨[x]⟩, argTypes := ⟨[t]⟩ }) r := by
 refine Xb2 ?_
 unfold Xqc at h
 simp only [puF]
 exact h
theorem Xnr {T : Ty} {ev : Operand -> AV} {H : X0l} {x y : Operand} {ts : Array Nat} {r : AV} (h : Xp3 false (ev x) (ev y) = some r) : Pu T ev H (.call { callee := .builtin .min, args := ⟨[x, y]⟩, argTypes := ts }) r := by
 refine Xb2 ?_
 simp only [puF]
 unfold Xp3 at h
 split at h
 ·rename_i h1 h2; first | (rw [h1, h2]; exact h) | exact h
 ·cases h
theorem Xns {T : Ty} {ev : Operand -> AV} {H : X0l} {x y : Operand} {ts : Array Nat} {r : AV} (h : Xp3 true (ev x) (ev y) = some r) : Pu T ev H (.call { callee := .builtin .max, args := ⟨[x, y]⟩, argTypes := ts }) r := by
 refine Xb2 ?_
 simp only [puF]
 unfold Xp3 at h
 split at h
 ·rename_i h1 h2; first | (rw [h1, h2]; exact h) | exact h
 ·cases h
theorem Xlj {T : Ty} {ev : Operand -> AV} {H : X0l} {t : Nat} {ps : Array (Nat × Operand)} {r : AV} (h : buildS T t (ps.toList.map fun p => (p.1, ev p.2)) = some r) : Pu T ev H (.build t ps) r := by
 refine Xb2 ?_
 unfold buildS at h
 simp only [puF]
 simp only [X7h] at h
 exact h
theorem Xmo {T : Ty} {ev : Operand -> AV} {H : X0l} {src dst : Nat} {x : Operand} {u : AV} {hs hs' : List X4g} {ps ps' : List Prop} {a : AV} (hx : X3q ps -> ev x = u) (h : Xoq T src dst u hs ps = some (a, hs', ps')) (hp : X3q ps') :
  Pu T ev H (.convert src dst x) a := by
 unfold Xoq at h
 split at h
 ·split at h
  ·split at h
   ·split at h
    ·obtain ⟨rfl, h2⟩ := Xat h hp; exact .conv (hx h2) (by assumption) (by assumption) (by assumption)
    ·cases h
   ·cases h
  ·cases h
 ·split at h
  ·rename_i hc
   cases h
   refine Xb2 ?_
   simp only [puF, hx hp]
   exact hc
  ·cases h
theorem Xpd {T : Ty} {ev : Operand -> AV} {H : X0l} {op : UnOp} {t : Nat} {x : Operand} {u : AV} {hs hs' : List X4g} {ps ps' : List Prop} {a : AV} (hx : X3q ps -> ev x = u) (h : unS op u hs ps = some (a, hs', ps')) (hp : X3q ps') :
  Pu T ev H (.unOp op t x) a := by
 unfold unS at h
 split at h
 ·obtain ⟨rfl, h2⟩ := Xat h hp; exact .neg (hx h2)
 ·cases h; exact .not (hx hp)
 ·cases h
theorem Xn1 {T : Ty} {L : List (Nat × AV)} {H : X0l} {op : Op} {hs hs' : List X4g} {ps : List Prop} {a : AV} (h : puS T L H op hs = some (a, hs', ps)) (hp : X3q ps) : Pu T (evA (fr L)) H op a := by
  unfold puS at h
  split at h
  · rename_i x
    rcases hr : rd L x with ⟨a1, p1⟩
    rw [hr] at h
    cases h
    rw [<- X13 hr hp]; exact .move
  · rename_i x
    rcases hr : rd L x with ⟨a1, p1⟩
    rw [hr] at h
    cases h
    rw [<- X13 hr hp]; exact .assign
  · exact Xm4 h hp
  · split at h
    · rename_i ht
      split at h
      rename_i hr
      split at h
      · rename_i hd
        split at h
        · rename_i hl
          cases h
          obtain ⟨h1, h2⟩ := Xld hd hp
          rw [<- X13 hr h2] at h1
          exact .load ht h1 hl
        · cases h
      · cases h
    · cases h
  · split at h
    · rename_i hr; cases h
      have := X13 hr hp
      rw [<- this]; exact .nilCheckPtr this
    · rename_i hr; cases h
      have := X13 hr hp
      rw [<- this]; exact .nilCheckElem this
    · rename_i hr; cases h
      have := X13 hr hp
      rw [<- this]; exact .nilCheckFn this
    · cases h
  · exact Xot (fun hq => X13 rfl (X0w.1 hq).1) (fun hq => X13 rfl (X0w.1 hq).2) h hp
  · exact Xpd (fun hq => X13 rfl hq) h hp
  · exact Xmo (fun hq => X13 rfl hq) h hp
  · split at h
    · rename_i hf
      obtain ⟨ti, fs, ft, g1, g2, g3, g4⟩ := Xba hf
      split at h
      · rename_i hz
        split at h
        · rename_i hr; cases h; exact .fieldAddrPtr (X13 hr hp) g1 g2 g3 g4 hz
        · rename_i hr; cases h; exact .fieldAddrElem (X13 hr hp) g1 g2 g3 g4 hz
        · cases h
      · cases h
    · cases h
  · split at h
    · rename_i hf
      obtain ⟨ti, fs, ft, g1, g2, g3, g4⟩ := Xba hf
      split at h
      · rename_i hr
        split at h
        · rename_i ha; cases h; exact .field (X13 hr hp) g1 g2 g3 g4 ha
        · cases h
      · cases h
    · cases h
  · split at h
    · rename_i hr
      exact Xpr (fun hq => X13 rfl (X0w.1 hq).2) (fun hq => X13 hr (X0w.1 hq).1) h hp
    · cases h
  · split at h
    · rename_i hi
      split at h
      · rename_i hr
        split at h
        · rename_i ha
          obtain ⟨ti, et, h1, h2, h3⟩ := X7w ha
          split at h
          · split at h
            · rename_i hpa
              cases h
              obtain ⟨p1, p2, p3⟩ := hp
              obtain ⟨p4, p5⟩ := X0w.1 p3
              subst p1
              exact .indexAgg (X13 hr p5) (X13 hi p4) (Int.natCast_nonneg _) (Int.ofNat_lt.2 p2) h1 h2 h3 hpa
            · cases h
          · split at h
            · rename_i hpa
              cases h
              obtain ⟨p1, p2, p3⟩ := hp
              obtain ⟨p4, p5⟩ := X0w.1 p3
              exact .indexAgg (X13 hr p5) (X13 hi p4) p1 p2 h1 h2 h3 hpa
            · cases h
        · cases h
      · rename_i hr
        split at h
        · rename_i ht
          split at h
          · rename_i hk
            split at h
            · cases h
              obtain ⟨p1, ⟨c, p2, rfl⟩, p3⟩ := hp
              obtain ⟨p4, p5⟩ := X0w.1 p3
              exact .indexStr (X13 hr p5) (X13 hi p4) p1 ht hk p2
            · split at h
              · rename_i hb
                cases h
                obtain ⟨p1, p3⟩ := hp
                obtain ⟨p4, p5⟩ := X0w.1 p3
                exact .indexStr (X13 hr p5) (X13 hi p4) p1 ht hk hb
              · cases h
          · cases h
        · cases h
      · cases h
    · cases h
  · exact Xkh (fun hq => X13 rfl hq) h hp
  · split at h
    · rename_i hs
      obtain ⟨ti, et, h1, h2, h3⟩ := X1t hs
      split at h
      rename_i a1 p1 hr
      split at h
      · rename_i hb1
        split at h
        · rename_i hb2
          split at h
          all_goals first
            | (cases h
               obtain ⟨rfl, rfl, p4⟩ := hp
               obtain ⟨b2, q2⟩ := X5x hb2 p4
               obtain ⟨b1, q1⟩ := X5x hb1 q2
               have hx := X13 hr q1
               exact .sliceClone (by rw [hx]; rfl) (fun s hs => by rw [hx] at hs; cases hs) b1 b2 h1 h2 h3)
            | cases h
        · cases h
      · cases h
    · cases h
  · split at h
    · rename_i hr
      split at h
      · rename_i hi
        cases h
        exact .extract (X13 hr hp) hi
      · cases h
    · cases h
  · split at h
    rename_i hr
    cases h
    have := Xcd hr hp
    refine Xb2 ?_
    simp only [puF, this]
  · split at h
    rename_i hr
    split at h
    · rename_i hl
      split at h
      · cases h
        obtain ⟨rfl, hp⟩ := hp
        rw [<- X13 hr hp] at hl
        exact Xkv hl
      · cases h
        rw [<- X13 hr hp] at hl
        exact Xkv hl
    · cases h
  · split at h
    rename_i hx hy
    split at h
    · rename_i hl
      cases h
      obtain ⟨p1, p2⟩ := X0w.1 hp
      rw [<- X13 hx p1, <- X13 hy p2] at hl
      exact Xnr hl
    · cases h
  · split at h
    rename_i hx hy
    split at h
    · rename_i hl
      cases h
      obtain ⟨p1, p2⟩ := X0w.1 hp
      rw [<- X13 hx p1, <- X13 hy p2] at hl
      exact Xns hl
    · cases h
  · split at h
    rename_i hr
    split at h
    · rename_i hl
      cases h
      rw [<- Xkm hr hp] at hl
      exact Xlj hl
    · cases h
  · cases h
end Go.Av


namespace Go.Av
def Xq7 (H : X0l) (a : AV) (ps : List Prop) : Option (List AV × List Prop) :=
 match a with
 | .list _ es => some (es, ps)
 | .nils => some ([], ps)
 | .ref o off len => match H o with
  | some x => some ((x.es.drop off).take len, (off + len <= x.es.length) :: ps)
  | none => none
 | _ => none
theorem X4x {H : X0l} {a : AV} {xs : List AV} {ps ps' : List Prop} (h : Xq7 H a ps = some (xs, ps')) (hp : X3q ps') : Xhf H a xs /\ X3q ps := by
 unfold Xq7 at h
 split at h
 ·cases h; exact ⟨.list, hp⟩
 ·cases h; exact ⟨.nils, hp⟩
 ·split at h
  ·rename_i hH; cases h; exact ⟨.ref hH hp.1, hp.2⟩
  ·cases h
 ·cases h
abbrev MR := Option (AV × Eff × List X4g × List Prop)
def Xp6 (H : X0l) (id : Nat) (te : TI) (s : AV) (xs : List AV) (hs : List X4g) (ps : List Prop) : MR :=
 match s with
 | .nils => if te.size ≠ 0 then some (.ref id 0 xs.length, .new { es := xs, esz := te.size }, hs,
   (xs ≠ []) :: (xs.length <= maxLen) :: (xs.length * te.bytes <= 140737488355328) :: (∀ e ∈ xs, e.cells.length = te.size) :: ps) else none
 | .ref o 0 n => match H o with
  | some y => match y.spent with
   | false => if y.esz = te.size then some (.ref id 0 (n + xs.length), .app o { es := y.es ++ xs, esz := te.size }, hs,
     (y.es.length = n) :: (xs ≠ []) :: (n + xs.length <= maxLen) :: ((n + xs.length) * te.bytes <= 140737488355328) :: (∀ e ∈ xs, e.cells.length = te.size) :: ps) else none
   | true => none
  | none => none
 | _ => none
def X9i : AV -> Bool
 | .list .. | .ref .. | .nils => true
 | _ => false
theorem X8n {a : AV} (h : X9i a = true) : (∃ n, Xho a = some n) /\ ∀ u, a ≠ .sc (.string u) := by
 cases a <;> simp [X9i] at h <;> exact ⟨⟨_, rfl⟩, fun u hu => by cases hu⟩
def mkS (T : Ty) (L : List (Nat × AV)) (H : X0l) (id : Nat) (op : Op) (hs : List X4g) : MR :=
 match op with
 | .box _ x => match rd L x with
  | (a, ps) => match a.whole with
   | true => match a.cells with
    | [] => none
    | _ :: _ => some (.ptr id 0 0, .new { es := [a], esz := a.cells.length }, hs, ps)
   | false => none
 | .alloc elem => match T elem with
  | some ti => if ti.size ≠ 0 then X9r (X8s ti.zero) fun z => some (.ptr id 0 0, .new { es := [z], esz := ti.size }, hs, []) else none
  | none => none
 | .buildSlice t len ps => match X3i T t with
  | some te => if len = 0 then (match ps with
    | ⟨[]⟩ => some (.nils, .none, hs, [])
    | _ => none)
   else if te.size ≠ 0 then (if len * te.size <= 2 ^ 24 then (match Xn0 L ps.toList with
    | (vs, qs) => match X8o te.size (List.replicate len (X8s te.zero)) vs with
     | some es => Xb8 es fun es => some (.ref id 0 len, .new { es := es, esz := te.size }, hs, qs)
     | none => none) else none) else none
  | none => none
 | .makeSlice t l cc => match X3i T t with
  | some te => match rd L l, rd L cc with
   | (.sc (.int _ n), p), (.sc (.int _ m), q) => match hs with
    | .ne false :: hs => some (.nils, .none, hs, (n = 0) :: (m = 0) :: (p ++ q))
    | hs => if te.size ≠ 0 then some (.ref id 0 n.toNat, .new { es := List.replicate n.toNat (X8s te.zero), esz := te.size }, hs,
      (0 <= n) :: (n <= m) :: (0 < m) :: (te.bytes * m <= 2 ^ 48) :: (m < 2 ^ 62) :: (p ++ q)) else none
   | _, _ => none
  | none => none
 | .call { callee := .builtin .append, args := ⟨[s, x]⟩, argTypes := ⟨[t, t']⟩ } => if t = t' then (match X3i T t with
  | some te => match rd L s, rd L x with
   | (a, p), (b, q) => match Xq7 H b (p ++ q) with
    | some (xs, ps) => match hs with
     | .ne false :: hs => match X9i a with
      | true => some (a, .none, hs, (xs = []) :: ps)
      | false => none
     | .ne true :: hs => Xp6 H id te a xs hs ps
     | .via (.list _ xs') :: hs => Xp6 H id te a xs' hs ((xs = xs') :: ps)
     | .stop _ :: _ => none
     | .no :: hs => Xb8 xs fun xs => match xs with
      | [] => match X9i a with
       | true => some (a, .none, hs, ps)
       | false => none
      | e :: r => Xp6 H id te a (e :: r) hs ps
     | hs => Xb8 xs fun xs => match xs with
      | [] => match X9i a with
       | true => some (a, .none, hs, ps)
       | false => none
      | e :: r => Xp6 H id te a (e :: r) hs ps
    | none => none
  | none => none) else none
 | _ => none
theorem Xge {T : Ty} {ev : Operand -> AV} {H : X0l} {id : Nat} {s x : Operand} {t : Nat} {ti te : TI} {et : Nat} {u : AV} {xs : List AV} {hs hs' : List X4g} {ps ps' : List Prop} {a : AV} {e : Eff}
  (ht : T t = some ti) (hk : ti.kind = .slice et) (hte : T et = some te) (hsu : X3q ps -> ev s = u) (hx : X3q ps -> Xhf H (ev x) xs) (h : Xp6 H id te u xs hs ps = some (a, e, hs', ps')) (hp : X3q ps') :
  Mk T ev H id (.call { callee := .builtin .append, args := #[s, x], argTypes := #[t, t] }) a e /\ ∀ old x, e = .app old x \/ e = .new x -> x.solo = true /\ x.spent = false := by
 unfold Xp6 at h
 split at h
 ·split at h
  ·rename_i hz
   cases h
   obtain ⟨p1, p2, p3, p4, p5⟩ := hp
   refine ⟨.appendNil (hsu p5) (hx p5) p1 ht hk hte p4 hz p2 p3, fun old y hy => by rcases hy with hy | hy <;> cases hy; exact ⟨rfl, rfl⟩⟩
  ·cases h
 ·split at h
  ·rename_i hH
   split at h
   ·rename_i hsp
    split at h
    ·rename_i hes
     cases h
     obtain ⟨p0, p1, p2, p3, p4, p5⟩ := hp
     refine ⟨.append (hsu p5) hH p0 hsp hes (hx p5) p1 ht hk hte p4 p2 p3, fun old y hy => by rcases hy with hy | hy <;> cases hy; exact ⟨rfl, rfl⟩⟩
    ·cases h
   ·cases h
  ·cases h
 ·cases h
theorem Xik {T : Ty} {L : List (Nat × AV)} {H : X0l} {id : Nat} {op : Op} {hs hs' : List X4g} {ps : List Prop} {a : AV} {e : Eff} (h : mkS T L H id op hs = some (a, e, hs', ps)) (hp : X3q ps) :
  Mk T (evA (fr L)) H id op a e /\ ∀ old x, e = .app old x \/ e = .new x -> x.solo = true /\ x.spent = false := by
 unfold mkS at h
 split at h
 ·split at h
  rename_i hr
  split at h
  ·rename_i hw
   split at h
   ·cases h
   ·rename_i hc
    cases h
    have := X13 hr hp
    rw [<- this]
    exact ⟨.box (by rw [this]; exact hw) (by rw [this, hc]; simp), fun old y hy => by rcases hy with hy | hy <;> cases hy; exact ⟨rfl, rfl⟩⟩
  ·cases h
 ·split at h
  ·rename_i ht
   split at h
   ·rename_i hz
    rw [X5p, X7h] at h
    cases h
    exact ⟨.alloc ht hz, fun old y hy => by rcases hy with hy | hy <;> cases hy; exact ⟨rfl, rfl⟩⟩
   ·cases h
  ·cases h
 ·split at h
  ·rename_i hs
   obtain ⟨ti, et, h1, h2, h3⟩ := X1t hs
   split at h
   ·rename_i hl
    subst hl
    split at h
    ·cases h
     exact ⟨.slice0 h1 h2 h3, fun old y hy => by rcases hy with hy | hy <;> cases hy⟩
    ·cases h
   ·rename_i hl
    split at h
    ·rename_i hz
     split at h
     ·rename_i hb
      split at h
      rename_i hr
      split at h
      ·rename_i hsp
       rw [X9p] at h
       cases h
       rw [<- Xkm hr hp, X7h] at hsp
       exact ⟨.buildSlice h1 h2 h3 hl hz hb hsp, fun old y hy => by rcases hy with hy | hy <;> cases hy; exact ⟨rfl, rfl⟩⟩
      ·cases h
     ·cases h
    ·cases h
  ·cases h
 ·split at h
  ·rename_i hs
   obtain ⟨ti, et, h1, h2, h3⟩ := X1t hs
   split at h
   ·rename_i hl hc
    split at h
    ·cases h
     obtain ⟨rfl, rfl, p3⟩ := hp
     obtain ⟨q1, q2⟩ := X0w.1 p3
     exact ⟨.make0 (X13 hl q1) (X13 hc q2) h1 h2 h3, fun old y hy => by rcases hy with hy | hy <;> cases hy⟩
    ·split at h
     ·rename_i hz
      cases h
      obtain ⟨p1, p2, p3, p4, p5, p6⟩ := hp
      obtain ⟨q1, q2⟩ := X0w.1 p6
      rw [X7h]
      exact ⟨.make (X13 hl q1) (X13 hc q2) p1 p2 p3 h1 h2 h3 hz p4 p5, fun old y hy => by rcases hy with hy | hy <;> cases hy; exact ⟨rfl, rfl⟩⟩
     ·cases h
   ·cases h
  ·cases h
 ·split at h
  ·rename_i htt
   subst htt
   split at h
   ·rename_i hs
    obtain ⟨ti, et, h1, h2, h3⟩ := X1t hs
    split at h
    rename_i hra hrb
    split at h
    ·rename_i hsrc
     split at h
     ·split at h
      ·rename_i hsl
       cases h
       obtain ⟨rfl, p2⟩ := hp
       obtain ⟨s1, s2⟩ := X4x hsrc p2
       obtain ⟨q1, q2⟩ := X0w.1 s2
       have e1 := X13 hra q1
       have e2 := X13 hrb q2
       obtain ⟨⟨n, hn⟩, hu⟩ := X8n hsl
       rw [<- e1] at hn hu ⊢
       rw [<- e2] at s1
       exact ⟨.append0 hn hu s1 h1 h2 h3, fun old y hy => by rcases hy with hy | hy <;> cases hy⟩
      ·cases h
     ·refine Xge h1 h2 h3 (fun hq => ?_) (fun hq => ?_) h hp
      ·exact X13 hra (X0w.1 (X4x hsrc hq).2).1
      ·rw [X13 hrb (X0w.1 (X4x hsrc hq).2).2]; exact (X4x hsrc hq).1
     ·refine Xge h1 h2 h3 (fun hq => ?_) (fun hq => ?_) h hp
      ·exact X13 hra (X0w.1 (X4x hsrc hq.2).2).1
      ·rw [X13 hrb (X0w.1 (X4x hsrc hq.2).2).2, <- hq.1]; exact (X4x hsrc hq.2).1
     ·cases h
     ·rw [X9p] at h
      split at h
      ·split at h
       ·rename_i hsl
        cases h
        obtain ⟨s1, s2⟩ := X4x hsrc hp
        obtain ⟨q1, q2⟩ := X0w.1 s2
        have e1 := X13 hra q1
        have e2 := X13 hrb q2
        obtain ⟨⟨n, hn⟩, hu⟩ := X8n hsl
        rw [<- e1] at hn hu ⊢
        rw [<- e2] at s1
        exact ⟨.append0 hn hu s1 h1 h2 h3, fun old y hy => by rcases hy with hy | hy <;> cases hy⟩
       ·cases h
      ·refine Xge h1 h2 h3 (fun hq => ?_) (fun hq => ?_) h hp
       ·exact X13 hra (X0w.1 (X4x hsrc hq).2).1
       ·rw [X13 hrb (X0w.1 (X4x hsrc hq).2).2]; exact (X4x hsrc hq).1
     ·rw [X9p] at h
      split at h
      ·split at h
       ·rename_i hsl
        cases h
        obtain ⟨s1, s2⟩ := X4x hsrc hp
        obtain ⟨q1, q2⟩ := X0w.1 s2
        have e1 := X13 hra q1
        have e2 := X13 hrb q2
        obtain ⟨⟨n, hn⟩, hu⟩ := X8n hsl
        rw [<- e1] at hn hu ⊢
        rw [<- e2] at s1
        exact ⟨.append0 hn hu s1 h1 h2 h3, fun old y hy => by rcases hy with hy | hy <;> cases hy⟩
       ·cases h
      ·refine Xge h1 h2 h3 (fun hq => ?_) (fun hq => ?_) h hp
       ·exact X13 hra (X0w.1 (X4x hsrc hq).2).1
       ·rw [X13 hrb (X0w.1 (X4x hsrc hq).2).2]; exact (X4x hsrc hq).1
    ·cases h
   ·cases h
  ·cases h
 ·cases h
def Xk2 (o : Nat) : List (Nat × Obj) -> List (Nat × Obj)
 | [] => []
 | (d, x) :: l => bif Nat.beq d o then Xk2 o l else (d, x) :: Xk2 o l
theorem Xgb (o : Nat) : ∀ G : List (Nat × Obj), hp (Xk2 o G) = upd (hp G) o none := by
 intro G
 funext q
 induction G with
 | nil => simp [Xk2, hp, upd]
 | cons a l ih =>
  obtain ⟨d, x⟩ := a
  simp only [Xk2]
  cases hb : Nat.beq d o with
  | true =>
   have hd : d = o := Nat.eq_of_beq_eq_true hb
   subst hd
   simp only [cond_true, ih, hp]
   by_cases hq : q = d
   ·subst hq; rw [Xr, Xr]
   ·have : Nat.beq q d = false := by rw [<- Bool.not_eq_true, Nat.beq_eq]; exact hq
    rw [Xo _ _ hq, Xo _ _ hq]; simp only [this, cond_false]
  | false =>
   have hd : d ≠ o := fun e => by rw [e, Nat.beq_refl] at hb; cases hb
   simp only [cond_false, hp, ih]
   by_cases hq : q = o
   ·subst hq
    have : Nat.beq q d = false := by rw [<- Bool.not_eq_true, Nat.beq_eq]; exact fun e => hd e.symm
    rw [this, Xr, cond_false, Xr]
   ·rw [Xo _ _ hq, Xo _ _ hq]
theorem Xg1 (o : Nat) (x : Obj) (G : List (Nat × Obj)) : hp ((o, x) :: G) = upd (hp G) o (some x) := rfl
theorem Xia (o : Nat) (x : Obj) (G : List (Nat × Obj)) : hp ((o, x) :: Xk2 o G) = upd (hp G) o (some x) := by
 rw [Xg1, Xgb]
 funext q
 by_cases hq : q = o
 ·subst hq; rw [Xr, Xr]
 ·rw [Xo _ _ hq, Xo _ _ hq, Xo _ _ hq]
def Xqp (id : Nat) (G : List (Nat × Obj)) : Eff -> List (Nat × Obj)
 | .none => G
 | .new x => (id, x) :: G
 | .app old x => (id, x) :: Xk2 old G
theorem Xok (id : Nat) (G : List (Nat × Obj)) (e : Eff) : hp (Xqp id G e) = e.seq id (hp G) := by
 cases e with
 | none => rfl
 | new x => rfl
 | app old x => simp only [Xqp, Eff.seq, Xg1, Xgb]
structure X22 (P : Program) (f : Nat) (H : X0l) (as bs : List AV) (r : AV) : Prop where
 isPure : X16 P f bs r
 lends : ∃ Hr, Cvs false Hr as bs /\ (∀ o x, Hr o = some x -> H o = some x) /\ (Xfh r \/ ∀ o, Hr o = none)
structure Xow (P : Program) (f : Nat) (as : List AV) (G : List (Nat × Obj)) (n : Nat) (r : AV) (G' : List (Nat × Obj)) (n' : Nat) : Prop where
 hc : HC P f as (hp G) n (fun r2 H2 n2 => r2 = r /\ H2 = hp G' /\ n2 = n')
def stO (T : Ty) (L : List (Nat × AV)) (G : List (Nat × Obj)) (t : Nat) (p x : Operand) (hs : List X4g) : Option (Nat × Obj × List X4g × List Prop) :=
 match T t with
 | some ti => match rd L p, rd L x with
  | (.ptr o i k, p1), (v, p2) => match hp G o with
   | some y => match y.solo, v.whole with
    | true, true => match hs with
     | .ld e :: hs => if v.cells.length = ti.size then (if k + ti.size <= e.cells.length then (if ti.size ≠ 0 then
       some (o, { y with es := y.es.set i (X7f e k v) }, hs, (y.es[i]? = some e) :: (p1 ++ p2)) else none) else none) else none
     | hs => match y.es[i]? with
      | some e => if v.cells.length = ti.size then (if k + ti.size <= e.cells.length then (if ti.size ≠ 0 then
       X9r (X7f e k v) fun w => Xb8 (y.es.set i w) fun es => some (o, { y with es := es }, hs, p1 ++ p2) else none) else none) else none
      | none => none
    | _, _ => none
   | none => none
  | _, _ => none
 | none => none
theorem Xmv {T : Ty} {L : List (Nat × AV)} {G : List (Nat × Obj)} {t q : Nat} {z : Obj} {p x : Operand} {hs hs' : List X4g} {ps : List Prop} (h : stO T L G t p x hs = some (q, z, hs', ps)) (hp' : X3q ps) :
  ∃ i k y e ti, evA (fr L) p = .ptr q i k /\ hp G q = some y /\ y.solo = true /\ y.es[i]? = some e /\ T t = some ti /\ (evA (fr L) x).whole = true /\ (evA (fr L) x).cells.length = ti.size /\ k + ti.size <= e.cells.length /\ ti.size ≠ 0 /\
   z = { y with es := y.es.set i (X7f e k (evA (fr L) x)) } := by
 unfold stO at h
 split at h
 ·rename_i ht
  split at h
  ·rename_i hrp hrx
   split at h
   ·rename_i hH
    split at h
    ·rename_i hs1 hw1
     split at h
     ·split at h
      ·rename_i c1
       split at h
       ·rename_i c2
        split at h
        ·rename_i c3
         cases h
         obtain ⟨q1, q2⟩ := hp'
         obtain ⟨q3, q4⟩ := X0w.1 q2
         have e1 := X13 hrp q3
         have e2 := X13 hrx q4
         rw [<- e2] at hw1 c1
         exact ⟨_, _, _, _, _, e1, hH, hs1, q1, ht, hw1, c1, c2, c3, by rw [e2]⟩
        ·cases h
       ·cases h
      ·cases h
     ·split at h
      ·rename_i he
       split at h
       ·rename_i c1
        split at h
        ·rename_i c2
         split at h
         ·rename_i c3
          rw [X5p, X9p] at h
          cases h
          obtain ⟨q3, q4⟩ := X0w.1 hp'
          have e1 := X13 hrp q3
          have e2 := X13 hrx q4
          rw [<- e2] at hw1 c1
          exact ⟨_, _, _, _, _, e1, hH, hs1, he, ht, hw1, c1, c2, c3, by rw [e2]⟩
         ·cases h
        ·cases h
       ·cases h
      ·cases h
    ·cases h
   ·cases h
  ·cases h
 ·cases h
def stS (T : Ty) (L : List (Nat × AV)) (G : List (Nat × Obj)) (t : Nat) (p x : Operand) (hs : List X4g) : Option (List (Nat × Obj) × List X4g × List Prop) :=
 match stO T L G t p x hs with
 | some (o, z, hs, ps) => some ((o, z) :: Xk2 o G, hs, ps)
 | none => none
theorem Xph {T : Ty} {L : List (Nat × AV)} {G G' : List (Nat × Obj)} {t : Nat} {p x : Operand} {hs hs' : List X4g} {ps : List Prop} (h : stS T L G t p x hs = some (G', hs', ps)) (hp' : X3q ps) :
  StR T (evA (fr L)) (hp G) (.store t p x) (hp G') := by
 unfold stS at h
 split at h
 ·rename_i ho
  cases h
  obtain ⟨i, k, y, e, ti, h1, h2, h3, h4, h5, h6, h7, h8, h9, rfl⟩ := Xmv ho hp'
  rw [Xia]
  exact .store h1 h2 h3 h4 h5 h6 h7 h8 h9
 ·cases h
abbrev OR := Option (AV × List (Nat × Obj) × Nat × List X4g × List Prop)
def quS (P : Program) (T : Ty) (L : List (Nat × AV)) (G : List (Nat × Obj)) (op : Op) (hs : List X4g) : PR :=
 match op with
 | .call { callee := .value x, args := args, argTypes := _ } => match hs with
  | .pure bs r :: hs => match rd L x with
   | (.fn f caps, p) => match rds L args.toList with
    | (as, q) => some (r, hs, X22 P f (hp G) (as ++ caps) bs r :: (p ++ q))
   | _ => none
  | _ => none
 | op => puS T L (hp G) op hs
theorem Xko {P : Program} {T : Ty} {nt : Nat} {L : List (Nat × AV)} {G : List (Nat × Obj)} {n : Nat} {o : Oper} {hs hs' : List X4g} {ps : List Prop} {a : AV} (hT : X7o P T)
  (h : quS P T L G o.op hs = some (a, hs', ps)) (hp' : X3q ps) : OpR P nt o ⟨fr L, hp G, n⟩ (fun a' H' n2 => a' = a /\ H' = hp G /\ n2 = n) := by
 unfold quS at h
 split at h
 ·rename_i ho
  split at h
  ·split at h
   ·rename_i hx
    split at h
    rename_i hargs
    cases h
    obtain ⟨⟨p1, Hr, p2, p3, p4⟩, q⟩ := hp'
    obtain ⟨q1, q2⟩ := X0w.1 q
    refine OpR.call (s := ⟨fr L, hp G, n⟩) ho (X13 hx q1) ?_
    rw [Xcd hargs q2]
    exact HC.of_pure p1 p2 p3 p4
   ·cases h
  ·cases h
 ·exact OpR.pu hT (s := ⟨fr L, hp G, n⟩) (Xn1 h hp')
def opS (P : Program) (T : Ty) (L : List (Nat × AV)) (G : List (Nat × Obj)) (n : Nat) (op : Op) (hs : List X4g) : OR :=
 match op with
 | .store t p x => match stS T L G t p x hs with
  | some (G, hs, ps) => some (.sc undef, G, n, hs, ps)
  | none => none
 | .call { callee := .value x, args := args, argTypes := ts } => match hs with
  | .call r G' n' :: hs => match rd L x with
   | (.fn f caps, p) => match rds L args.toList with
    | (as, q) => some (r, G', n', hs, Xow P f (as ++ caps) G n r G' n' :: (p ++ q))
   | _ => none
  | hs => match quS P T L G (.call { callee := .value x, args := args, argTypes := ts }) hs with
   | some (a, hs, ps) => some (a, G, n, hs, ps)
   | none => none
 | op => match quS P T L G op hs with
  | some (a, hs, ps) => some (a, G, n, hs, ps)
  | none => match mkS T L (hp G) n op hs with
   | some (a, e, hs, ps) => some (a, Xqp n G e, n + 1, hs, ps)
   | none => none
theorem Xn2 {P : Program} {T : Ty} {nt : Nat} {L : List (Nat × AV)} {G G' : List (Nat × Obj)} {n n' : Nat} {o : Oper} {hs hs' : List X4g} {ps : List Prop} {a : AV} (hT : X7o P T)
  (h : opS P T L G n o.op hs = some (a, G', n', hs', ps)) (hp' : X3q ps) : OpR P nt o ⟨fr L, hp G, n⟩ (fun a' H' n2 => a' = a /\ H' = hp G' /\ n2 = n') := by
 unfold opS at h
 split at h
 ·rename_i ho
  split at h
  ·rename_i hs
   cases h
   have := Xph hs hp'
   exact OpR.st hT (s := ⟨fr L, hp G, n⟩) (by rw [ho]; exact this)
  ·cases h
 ·rename_i ho
  split at h
  ·split at h
   ·rename_i hx
    split at h
    rename_i hargs
    cases h
    obtain ⟨p1, q⟩ := hp'
    obtain ⟨q1, q2⟩ := X0w.1 q
    refine OpR.call (s := ⟨fr L, hp G, n⟩) ho (X13 hx q1) ?_
    rw [Xcd hargs q2]
    exact p1.hc
   ·cases h
  ·split at h
   ·rename_i hq
    cases h
    rw [<- ho] at hq
    exact Xko hT hq hp'
   ·cases h
 ·split at h
  ·rename_i hpu
   cases h
   exact Xko hT hpu hp'
  ·split at h
   ·rename_i hmk
    cases h
    obtain ⟨h1, h2⟩ := Xik hmk hp'
    rw [Xok]
    exact OpR.mk hT (s := ⟨fr L, hp G, n⟩) h1 h2
   ·cases h
end Go.Av


namespace Go.Av
def Xed (R : Option Nat) (P : Program) (c : Code) (Q : Exit -> Act -> World -> Prop) (a : Act) (w : World) : Prop :=
 ∀ (b : Frame) (k : List Item) (cs : List Frame), b.roundOf = R -> ∃ e a' w', Q e a' w' /\ ArrivesIn (Machine.fenced P (FR R)) P (lone (b.atR a (.code c :: .inLoop c :: k)) cs w) b k cs e a' w'
theorem Xed.start {R : Option Nat} {P : Program} {c : Code} {Q : Exit -> Act -> World -> Prop} {a : Act} {w : World} (h : Xed R P c Q a w) : wpR R P (Code.loop c) Q a w := by
 intro b k cs hro hb hr
 obtain ⟨e, a', w', hq, harr⟩ := h b k cs hro
 exact ⟨e, a', w', hq, .of_steps (.one (Xh7 P R _) stepR_loop) harr⟩
theorem Xed.round {R : Option Nat} {P : Program} {c : Code} {Q : Exit -> Act -> World -> Prop} {a : Act} {w : World} (h : wpR R P c (Exit.then (Xed R P c Q) Q) a w) : Xed R P c Q a w := by
 intro b k cs hro
 obtain ⟨e, a₁, w₁, hq, harr⟩ := h b (.inLoop c :: k) cs hro trivial (Xnl R _)
 cases e with
 | normal =>
  obtain ⟨e₂, a₂, w₂, hq₂, harr₂⟩ := hq b k cs hro
  exact ⟨e₂, a₂, w₂, hq₂, .of_steps (StepsIn.trans harr (.one (Xh7 P R _) stepR_inLoop)) harr₂⟩
 | exit id => exact ⟨_, a₁, w₁, hq, .pass (x := .inLoop c) rfl (fun _ _ => .inl (by simp)) harr⟩
 | goto l => exact ⟨_, a₁, w₁, hq, .pass (x := .inLoop c) rfl (fun _ _ => .inl (by simp)) harr⟩
 | ret => exact ⟨_, a₁, w₁, hq, .pass (x := .inLoop c) rfl (fun _ _ => .inl (by simp)) harr⟩
 | panic ch => exact ⟨_, a₁, w₁, hq, .pass (x := .inLoop c) rfl (fun _ _ => .inl (by simp)) harr⟩
 | outgrown => exact ⟨_, a₁, w₁, hq, .pass (x := .inLoop c) rfl (fun _ _ => .inl (by simp)) harr⟩
def X6s (P : Program) (nt n0 : Nat) (b : Code) (Q : X0d -> St -> Mu -> Prop) (s : St) (μ : Mu) : Prop :=
 ∀ (c0 : Ctx) (H0 : X0l) (c : Ctx) (act : Act), X33 nt c0 H0 n0 c s act -> MOk n0 c0 c s.H μ act -> ∀ R, RG b R -> Xed R P b (MQ nt c0 H0 n0 Q) act c.w
def Xqw (P : Program) (nt n0 : Nat) (b : Code) (Q : X0d -> St -> Mu -> Prop) : X0d -> St -> Mu -> Prop
 | .normal, s, μ => X6s P nt n0 b Q s μ
 | e, s, μ => Q e s μ
theorem X3t.loop {P : Program} {nt n0 : Nat} {b : Code} {Q : X0d -> St -> Mu -> Prop} {s : St} {μ : Mu} (h : X6s P nt n0 b Q s μ) : X3t P nt n0 (.loop b) Q s μ :=
 fun c0 H0 c act g hm R hR => (h c0 H0 c act g hm R hR).start
theorem X6s.round {P : Program} {nt n0 : Nat} {b : Code} {Q : X0d -> St -> Mu -> Prop} {s : St} {μ : Mu} (h : X3t P nt n0 b (Xqw P nt n0 b Q) s μ) : X6s P nt n0 b Q s μ := by
 intro c0 H0 c act g hm R hR
 refine Xed.round (wpIn_mono (h c0 H0 c act g hm R hR) ?_)
 rintro e a w ⟨c', s', ae, μ', rfl, g', hm', rfl, hq⟩
 cases ae with
 | normal => exact hq c0 H0 c' a g' hm' R hR
 | exit id => exact ⟨c', s', .exit id, μ', rfl, g', hm', rfl, hq⟩
 | ret => exact ⟨c', s', .ret, μ', rfl, g', hm', rfl, hq⟩
section
variable {P : Program} {nt n0 : Nat} {s : St} {μ : Mu} {ops : Array Oper} {l : List Oper} {o : Oper} {K : St -> Mu -> Prop}
theorem X47.nil (h : K s μ) : X47 P nt n0 ops [] K s μ := fun _ _ c act g hm Qx hQ _ _ => Xdj (hQ c s act μ g hm h)
theorem X47.step {R : AV -> X0l -> Nat -> Prop} (hw : ∀ (c0 c : Ctx) (H0 : X0l) (act : Act), X33 nt c0 H0 n0 c s act -> Region.wanted o (yielded ops act.tmps) = true) (hd : ∀ d, o.dst = some d -> d < nt) (h : OpR P nt o s R)
  (hn : ∀ a H' n', R a H' n' -> X47 P nt n0 ops l K ⟨X81 s.A o.dst a, H', n'⟩ μ) : X47 P nt n0 ops (o :: l) K s μ := by
 intro c0 H0 c act g hm Qx hQ R hR
 refine X34 fun K' hK' => ?_
 rw [if_pos (hw c0 c H0 act g)]
 refine h c s.H n0 c act g.rebase K' Qx (fun c' a H' n' v hr hgood => ?_) R
 have g2 := hgood o.dst hd
 exact hK' _ _ (hn a H' n' hr c0 H0 c' _ (.join g.reach g2) (hm.kept g2.reach) Qx hQ R hR)
theorem X47.plain {R : AV -> X0l -> Nat -> Prop} (hg : o.guard = none) (hd : ∀ d, o.dst = some d -> d < nt) (h : OpR P nt o s R)
  (hn : ∀ a H' n', R a H' n' -> X47 P nt n0 ops l K ⟨X81 s.A o.dst a, H', n'⟩ μ) : X47 P nt n0 ops (o :: l) K s μ :=
 X47.step (fun _ _ _ _ _ => by simp [Region.wanted, hg]) hd h hn
def gdS (want : Bool) : AV -> Option Bool
 | .sc (.bool b) => match want with
  | true => some b
  | false => some (!b)
 | .cond g (.sc (.bool b)) => match want with
  | true => some (g && b)
  | false => some (g && !b)
 | _ => none
theorem X9e {j t : Nat} {want g : Bool} (hg : o.guard = some (j, want)) (hj : (ops[j]?).bind (·.dst) = some t) (ht : Nat.blt t nt = true) (hb : gdS want (s.A t) = some g)
  {c0 c : Ctx} {H0 : X0l} {act : Act} (gd : X33 nt c0 H0 n0 c s act) : Region.wanted o (yielded ops act.tmps) = g := by
 have hlt : t < act.tmps.size := by rw [gd.size]; simpa using ht
 have hf := gd.frame t
 have hy : ∀ v, act.tmps.getD t undef = v -> yielded ops act.tmps j = (match v with | .bool b => some b | _ => none) := by
  intro v hv
  unfold yielded
  rw [hj]
  simp only [Option.bind_some, Array.getElem?_eq_getElem hlt]
  have : act.tmps[t] = v := by simpa [hlt] using hv
  rw [this]
  cases v <;> rfl
 unfold gdS at hb
 split at hb
 ·rename_i b hA
  rw [hA] at hf
  have := hy _ hf.sc_inv
  simp only at this
  unfold Region.wanted
  rw [hg]
  simp only [this]
  cases b <;> (split at hb <;> cases hb <;> rfl)
 ·rename_i q b hA
  rw [hA] at hf
  cases hf with
  | cond h hn =>
   cases q with
   | true =>
    have := hy _ (h rfl).sc_inv
    simp only at this
    unfold Region.wanted
    rw [hg]
    simp only [this]
    cases b <;> (split at hb <;> cases hb <;> rfl)
   | false =>
    have := hy _ (hn rfl)
    have hu : yielded ops act.tmps j = none := this
    unfold Region.wanted
    rw [hg]
    simp only [hu]
    split at hb <;> cases hb <;> rfl
 ·cases hb
theorem X47.skip {j t : Nat} {want : Bool} (hg : o.guard = some (j, want)) (hj : (ops[j]?).bind (·.dst) = some t) (ht : Nat.blt t nt = true) (hb : gdS want (s.A t) = some false)
  (hd : ∀ d, o.dst = some d -> d < nt) (hn : X47 P nt n0 ops l K ⟨X81 s.A o.dst (.cond false (.sc (.bool false))), s.H, s.n⟩ μ) : X47 P nt n0 ops (o :: l) K s μ := by
 intro c0 H0 c act g hm Qx hQ R hR
 refine X34 fun K' hK' => ?_
 rw [if_neg (by rw [X9e hg hj ht hb g]; simp)]
 have g2 : X33 nt c s.H n0 c _ _ := g.rebase.next hd (.refl c) rfl (fun b hb => .inl hb) (.refl c s.H) (fun q x hx => .inr ⟨q, x, hx, rfl⟩) g.inv g.solo (Nat.le_refl _) (v := undef) (a := .cond false (.sc (.bool false))) (.cond (fun h => by cases h) (fun _ => rfl)) (.cond .sc)
 exact hK' _ _ (hn c0 H0 c _ (.join g.reach g2) (hm.kept g2.reach) Qx hQ R hR)
theorem X47.quiet {j t : Nat} {want b : Bool} {a : AV} (hg : o.guard = some (j, want)) (hj : (ops[j]?).bind (·.dst) = some t) (ht : Nat.blt t nt = true) (hb : gdS want (s.A t) = some b)
  (hd : ∀ d, o.dst = some d -> d < nt) (hok : a.Ok (· < s.n)) (h : b = true -> OpR P nt o s (fun a' H' n' => a' = a /\ H' = s.H /\ n' = s.n))
  (hn : X47 P nt n0 ops l K ⟨X81 s.A o.dst (.cond b a), s.H, s.n⟩ μ) : X47 P nt n0 ops (o :: l) K s μ := by
 cases b with
 | true =>
  refine X47.step (fun c0 c H0 act g => X9e hg hj ht hb g) hd (R := fun a' H' n' => (a' = .cond true a) /\ H' = s.H /\ n' = s.n) ?_ ?_
  ·intro c0 H0 n0 c act g K Q hK R
   refine h rfl c0 H0 n0 c act g K Q (fun c' a' H' n' v hR hgood => ?_) R
   obtain ⟨rfl, rfl, rfl⟩ := hR
   refine hK c' (.cond true a') _ _ v ⟨rfl, rfl, rfl⟩ fun dst hd => ?_
   have g2 := hgood dst hd
   refine ⟨g2.inv, g2.solo, fun q => ?_, fun q => ?_, g2.size, g2.reach, g2.le0⟩
   ·have h1 := g2.frame q
    cases dst with
    | none => exact h1
    | some d =>
     simp only [X81] at h1 ⊢
     by_cases hq : q = d
     ·subst hq; rw [Xr] at h1 ⊢; exact .cond (fun _ => h1) (fun h => by cases h)
     ·rw [Xo _ _ hq] at h1 ⊢; exact h1
   ·have h1 := g2.ok q
    cases dst with
    | none => exact h1
    | some d =>
     simp only [X81] at h1 ⊢
     by_cases hq : q = d
     ·subst hq; rw [Xr] at h1 ⊢; exact .cond h1
     ·rw [Xo _ _ hq] at h1 ⊢; exact h1
  ·rintro _ _ _ ⟨rfl, rfl, rfl⟩
   exact hn
 | false =>
  intro c0 H0 c act g hm Qx hQ R hR
  refine X34 fun K' hK' => ?_
  rw [if_neg (by rw [X9e hg hj ht hb g]; simp)]
  have g2 : X33 nt c s.H n0 c _ _ := g.rebase.next hd (.refl c) rfl (fun b hb => .inl hb) (.refl c s.H) (fun q x hx => .inr ⟨q, x, hx, rfl⟩) g.inv g.solo (Nat.le_refl _) (v := undef) (a := .cond false a) (.cond (fun h => by cases h) (fun _ => rfl)) (.cond hok)
  exact hK' _ _ (hn c0 H0 c _ (.join g.reach g2) (hm.kept g2.reach) Qx hQ R hR)
theorem X3t.region {id : Nat} {Q : X0d -> St -> Mu -> Prop} (h : X47 P nt n0 ops ops.toList (fun s μ => Q .normal s μ) s μ) : X3t P nt n0 (.region id ops false) Q s μ := by
 intro c0 H0 c act g hm R _
 exact wpIn_region_list (h c0 H0 c act g hm _ (fun c' s' act' μ' g' hm' hq => ⟨c', s', .normal, μ', rfl, g', hm', rfl, hq⟩) (some R) (fun h => by cases h))
end
mutual
theorem Xij (M : Nat -> Bool) : ∀ (a : AV), AV.okB M a = true -> a.Ok (fun o => M o = true)
 | .junk => fun _ => .junk
 | .sc _ => fun _ => .sc
 | .nils => fun _ => .nils
 | .agg cs => fun h => .agg (Xfr M cs h)
 | .tup cs => fun h => .tup (Xfr M cs h)
 | .list .. => fun _ => .list
 | .ref .. => fun h => .ref h
 | .ptr .. => fun h => .ptr h
 | .elem .. => fun _ => .elem
 | .fn _ caps => fun h => .fn (Xfr M caps h)
 | .mref _ => fun h => .mref h
 | .cond _ v => fun h => .cond (Xij M v h)
theorem Xfr (M : Nat -> Bool) : ∀ (l : List AV), AV.oksB M l = true -> ∀ a ∈ l, a.Ok (fun o => M o = true)
 | [] => fun _ _ h => by cases h
 | a :: r => fun h x hx => by
  have h' : (AV.okB M a && AV.oksB M r) = true := h
  simp only [Bool.and_eq_true] at h'
  rcases List.mem_cons.1 hx with he | hx
  ·rw [he]; exact Xij M a h'.1
  ·exact Xfr M r h'.2 x hx
end
theorem Xrc {n : Nat} {a : AV} (h : AV.okB (fun o => Nat.blt o n) a = true) : a.Ok (· < n) := (Xij _ a h).mono fun o ho => by simpa using ho
inductive Kn where
 | seq (c : Code)
 | block (id : Nat)
 | loop (b : Code)
inductive Cf where
 | code (c : Code)
 | exit (e : X0d)
 | ops (ops : Array Oper) (l : List Oper)
 | loop (b : Code)
def Cl (nt n0 : Nat) (Q : X0d -> St -> Mu -> Prop) : X0d -> St -> Mu -> Prop := fun e s μ =>
 ∀ (c0 : Ctx) (H0 : X0l) (c : Ctx) (act : Act), X33 nt c0 H0 n0 c s act -> MOk n0 c0 c s.H μ act -> ∃ c' s', c'.w = c.w /\ X33 nt c0 H0 n0 c' s' act /\ MOk n0 c0 c' s'.H μ act /\ Q e s' μ
theorem Cl.mk {nt n0 : Nat} {Q : X0d -> St -> Mu -> Prop} {e : X0d} {s : St} {μ : Mu} (h : Q e s μ) : Cl nt n0 Q e s μ := fun _ _ c _ g hm => ⟨c, s, rfl, g, hm, h⟩
theorem X3t.ofCl {P : Program} {nt n0 : Nat} {Q : X0d -> St -> Mu -> Prop} {code : Code} {s : St} {μ : Mu} (h : X3t P nt n0 code (Cl nt n0 Q) s μ) : X3t P nt n0 code Q s μ := by
 intro c0 H0 c act g hm R hR
 refine wpIn_mono (h c0 H0 c act g hm R hR) ?_
 rintro e a w ⟨c', s', ae, μ', rfl, g', hm', rfl, hq⟩
 obtain ⟨c2, s2, h1, h2, h3, h4⟩ := hq c0 H0 c' a g' hm'
 exact ⟨c2, s2, ae, μ', h1, h2, h3, rfl, h4⟩
def Xav (P : Program) (nt n0 : Nat) (Q : X0d -> St -> Mu -> Prop) : List Kn -> X0d -> St -> Mu -> Prop
 | [] => Cl nt n0 Q
 | .seq c :: K => Xqu P nt n0 c (Xav P nt n0 Q K)
 | .block id :: K => X6u id (Xav P nt n0 Q K)
 | .loop b :: K => Xqw P nt n0 b (Xav P nt n0 Q K)
def Xa (P : Program) (nt n0 : Nat) (Q : X0d -> St -> Mu -> Prop) (cf : Cf) (K : List Kn) (s : St) (μ : Mu) : Prop :=
 match cf with
 | .code c => X3t P nt n0 c (Xav P nt n0 Q K) s μ
 | .exit e => Xav P nt n0 Q K e s μ
 | .ops ops l => X47 P nt n0 ops l (fun s μ => Xav P nt n0 Q K .normal s μ) s μ
 | .loop b => X6s P nt n0 b (Xav P nt n0 Q K) s μ
def SSt (L : List (Nat × AV)) (G : List (Nat × Obj)) (n : Nat) : St := ⟨fr L, hp G, n⟩
def Xm3 {β : Type} (d : Option Nat) (a : AV) (L : List (Nat × AV)) (k : List (Nat × AV) -> Option β) : Option β :=
 match d with
 | some d => k ((d, a) :: L)
 | none => k L
def Xm2 (d : Option Nat) (a : AV) (L : List (Nat × AV)) : List (Nat × AV) :=
 match d with
 | some d => (d, a) :: L
 | none => L
theorem X9j {β : Type} (d : Option Nat) (a : AV) (L : List (Nat × AV)) (k : List (Nat × AV) -> Option β) : Xm3 d a L k = k (Xm2 d a L) := by cases d <;> rfl
theorem X4y (d : Option Nat) (a : AV) (L : List (Nat × AV)) : fr (Xm2 d a L) = X81 (fr L) d a := by
 cases d <;> rfl
def Xcg {β : Type} : List (Nat × Obj) -> (List (Nat × Obj) -> Option β) -> Option β
 | [], k => k []
 | p :: r, k => Xcg r fun r => k (p :: r)
theorem X9q {β : Type} : ∀ (G : List (Nat × Obj)) (k : List (Nat × Obj) -> Option β), Xcg G k = k G := by
 intro G
 induction G with
 | nil => intro k; rfl
 | cons p r ih => intro k; simp [Xcg, ih]
def Xk1 {β : Type} : List Prop -> List Prop -> (List Prop -> Option β) -> Option β
 | [], ps, k => k ps
 | q :: r, ps, k => Xk1 r (q :: ps) k
def Xq0 : List Prop -> List Prop -> List Prop
 | [], ps => ps
 | q :: r, ps => Xq0 r (q :: ps)
theorem X8r {β : Type} : ∀ (qs ps : List Prop) (k : List Prop -> Option β), Xk1 qs ps k = k (Xq0 qs ps) := by
 intro qs
 induction qs with
 | nil => intro ps k; rfl
 | cons q r ih => intro ps k; simp [Xk1, Xq0, ih]
theorem X6y : ∀ {qs ps : List Prop}, X3q (Xq0 qs ps) -> X3q qs /\ X3q ps := by
 intro qs
 induction qs with
 | nil => intro ps h; exact ⟨trivial, h⟩
 | cons q r ih => intro ps h; obtain ⟨h1, h2⟩ := ih h; exact ⟨⟨h2.1, h1⟩, h2.2⟩
def Xls (bad : List Nat) : List (Nat × AV) -> List (Nat × AV)
 | [] => []
 | (d, a) :: l => bif Xim d bad then Xls bad l else (d, a) :: Xls bad l
theorem Xe4 (bad : List Nat) : ∀ L, fr (Xls bad L) = frD bad (fr L) := by
 intro L
 funext t
 induction L with
 | nil => simp [Xls, fr, frD]
 | cons p l ih =>
  obtain ⟨d, a⟩ := p
  simp only [Xls]
  cases hb : Xim d bad with
  | true =>
   simp only [cond_true, ih, frD, fr]
   cases ht : Xim t bad with
   | true => rfl
   | false =>
    have : Nat.beq t d = false := by
     rw [<- Bool.not_eq_true, Nat.beq_eq]
     intro e; subst e; rw [hb] at ht; cases ht
    simp [this]
  | false =>
   simp only [cond_false, frD, fr]
   cases hq : Nat.beq t d with
   | true =>
    have : t = d := Nat.eq_of_beq_eq_true hq
    subst this
    simp [hb]
   | false =>
    simp only [cond_false, ih, frD]
def Xoj (base mi : Nat) (hf : Bool) (es : List X3f) : List (Nat × Obj) -> List (Nat × Obj)
 | [] => []
 | (o, x) :: l => bif X9o base mi hf es o then Xoj base mi hf es l else (o, x) :: Xoj base mi hf es l
theorem Xlb (base mi : Nat) (hf : Bool) (es : List X3f) : ∀ G, hp (Xoj base mi hf es G) = hpD base mi hf es (hp G) := by
 intro G
 funext q
 induction G with
 | nil => simp [Xoj, hp, hpD]
 | cons p l ih =>
  obtain ⟨o, x⟩ := p
  simp only [Xoj]
  cases hb : X9o base mi hf es o with
  | true =>
   simp only [cond_true, ih, hpD, hp]
   cases ht : X9o base mi hf es q with
   | true => rfl
   | false =>
    have : Nat.beq q o = false := by
     rw [<- Bool.not_eq_true, Nat.beq_eq]
     intro e; subst e; rw [hb] at ht; cases ht
    simp [this]
  | false =>
   simp only [cond_false, hpD, hp]
   cases hq : Nat.beq q o with
   | true =>
    have : q = o := Nat.eq_of_beq_eq_true hq
    subst this
    simp [hb]
   | false =>
    simp only [cond_false, ih, hpD]
def Xlx (id : Nat) (G : List (Nat × Obj)) : X3f -> List (Nat × Obj)
 | .none => G
 | .new x => (id, x) :: G
 | .app old x => (id, x) :: Xk2 old G
 | .set o x => (o, x) :: Xk2 o G
theorem Xif (id : Nat) (G : List (Nat × Obj)) (e : X3f) : hp (Xlx id G e) = e.go id (hp G) := by
 cases e with
 | none => rfl
 | new x => rw [X3f.go_new]; rfl
 | app old x => rw [X3f.go_app]; simp only [Xlx, Xg1, Xgb]
 | set o x => rw [X3f.go_set]; exact Xia o x G
abbrev DR := Option (AV × X3f × List X4g × List Prop)
def Xq1 (P : Program) (T : Ty) (L : List (Nat × AV)) (G : List (Nat × Obj)) (id : Nat) (o : Oper) (hs : List X4g) : DR :=
 match o.op with
 | .store t p x => match o.dst with
  | none => match stO T L G t p x hs with
   | some (q, z, hs, ps) => some (.sc undef, .set q z, hs, ps)
   | none => none
  | some _ => none
 | .call { callee := .value x, args := args, argTypes := _ } => match hs with
  | .pure bs r :: hs => match rd L x with
   | (.fn f [], p) => match rds L args.toList with
    | (as, q) => match AV.okB (fun _ => false) r with
     | true => some (r, .none, hs, X22 P f (hp G) as bs r :: (p ++ q))
     | false => none
   | _ => none
  | _ => none
 | op => match puS T L (hp G) op hs with
  | some (a, hs, ps) => some (a, .none, hs, ps)
  | none => match mkS T L (hp G) id op hs with
   | some (a, .none, hs, ps) => some (a, .none, hs, ps)
   | some (a, .new x, hs, ps) => some (a, .new x, hs, ps)
   | some (a, .app old x, hs, ps) => some (a, .app old x, hs, ps)
   | none => none
theorem Xlc {P : Program} {T : Ty} {L : List (Nat × AV)} {G : List (Nat × Obj)} {id : Nat} {o : Oper} {hs hs' : List X4g} {ps : List Prop} {a : AV} {e : X3f} (h : Xq1 P T L G id o hs = some (a, e, hs', ps)) (hp' : X3q ps) :
  DOp P T (fr L) (hp G) id o a e := by
 unfold Xq1 at h
 split at h
 ·rename_i ho
  split at h
  ·rename_i hd
   split at h
   ·rename_i hst
    cases h
    obtain ⟨i, k, y, e, ti, h1, h2, h3, h4, h5, h6, h7, h8, h9, rfl⟩ := Xmv hst hp'
    exact .store ho hd h1 h2 h4 h5 h6 h7 h8 h9
   ·cases h
  ·cases h
 ·rename_i ho
  split at h
  ·split at h
   ·rename_i hx
    split at h
    rename_i hargs
    split at h
    ·rename_i hok
     cases h
     obtain ⟨⟨p1, Hr, p2, p3, p4⟩, q⟩ := hp'
     obtain ⟨q1, q2⟩ := X0w.1 q
     rw [<- Xcd hargs q2] at p2
     refine .pure ho (X13 hx q1) p2 p1 p3 (p4.imp (fun h => h) fun hn => ⟨hn, fun M => ?_⟩)
     exact (Xij _ _ hok).mono fun o ho => by cases ho
    ·cases h
   ·cases h
  ·cases h
 ·split at h
  ·rename_i hpu
   cases h
   exact .pu (Xn1 hpu hp')
  ·split at h
   ·rename_i hm; cases h; exact .zero (Xik hm hp').1
   ·rename_i hm; cases h
    obtain ⟨h1, h2⟩ := Xik hm hp'
    have := h2 0 _ (.inr rfl)
    exact .new h1 this.1 this.2
   ·rename_i hm; cases h
    obtain ⟨h1, h2⟩ := Xik hm hp'
    have := h2 _ _ (.inl rfl)
    exact .app h1 this.1 this.2
   ·cases h
def Xpz (want : Bool) (a : AV) : Option (Bool × List Prop) :=
 match a with
 | .sc (.bool b) => match want with
  | true => some (b, [])
  | false => some (!b, [])
 | .cond g (.sc (.bool b)) => match want with
  | true => some (b, [g = true])
  | false => some (!b, [g = true])
 | _ => none
theorem Xkn {want g : Bool} {a : AV} {qs : List Prop} (h : Xpz want a = some (g, qs)) (hq : X3q qs) : ∃ b, X5z a = .sc (.bool b) /\ g = (b == want) := by
 unfold Xpz at h
 split at h
 ·rename_i b
  refine ⟨b, rfl, ?_⟩
  cases b <;> (split at h <;> (cases h; rfl))
 ·rename_i q b
  split at h
  ·cases h; obtain ⟨rfl, _⟩ := hq; exact ⟨g, rfl, by cases g <;> rfl⟩
  ·cases h; obtain ⟨rfl, _⟩ := hq; exact ⟨b, rfl, by cases b <;> rfl⟩
 ·cases h
def Xc3 (P : Program) (T : Ty) (nt base : Nat) (ops : Array Oper) (ms : List Nat) (zs : List (Nat × Bool)) : Nat -> List Oper -> List (Nat × AV) -> List (Nat × Obj) -> List X3f -> List X4g -> List Prop -> Option (List (Nat × AV) × List (Nat × Obj) × List X4g × List Prop)
 | _, [], L, G, _, hs, ps => some (L, G, hs, ps)
 | i, o :: l, L, G, es, hs, ps =>
  if X8g nt (X45 i (ms.getD i 0) 0 ops.toList ms) o.dst = true then (match o.guard with
   | none => match Xq1 P T (Xls (X45 i (ms.getD i 0) 0 ops.toList ms) L) (Xoj base (ms.getD i 0) (X1h o.op) es G) (base + i) o hs with
    | some (a, e, hs', qs) => if X4c base (ms.getD i 0) (e.objs (base + i)) 0 (zs.take i) [] es = true then
      X9r a fun a => Xm3 o.dst a L fun L => Xcg (Xlx (base + i) G e) fun G => Xk1 qs ps fun ps => Xc3 P T nt base ops ms zs (i + 1) l L G (es ++ [e]) hs' ps else none
    | none => none
   | some (j, want) => match (ops[j]?).bind (·.dst) with
    | some t => if Nat.blt t nt = true then (match hs with
     | .go true :: hs => match Xpz want (fr (Xls (X45 i (ms.getD i 0) 0 ops.toList ms) L) t) with
      | some (g, rs) => match Xq1 P T (Xls (X45 i (ms.getD i 0) 0 ops.toList ms) L) (Xoj base (ms.getD i 0) (X1h o.op) es G) (base + i) o hs with
       | some (a, e, hs', qs) => if X4c base (ms.getD i 0) (e.objs (base + i)) 0 (zs.take i) [] es = true then
         X9r a fun a => Xm3 o.dst a L fun L => Xcg (Xlx (base + i) G e) fun G => Xk1 rs ps fun ps => Xk1 qs ((g = true) :: ps) fun ps => Xc3 P T nt base ops ms zs (i + 1) l L G (es ++ [e]) hs' ps else none
       | none => none
      | none => none
     | .go false :: hs => match Xpz want (fr (Xls (X45 i (ms.getD i 0) 0 ops.toList ms) L) t) with
      | some (g, rs) => Xm3 o.dst (.sc undef) L fun L => Xk1 rs ps fun ps => Xc3 P T nt base ops ms zs (i + 1) l L G (es ++ [.none]) hs ((g = false) :: ps)
      | none => none
     | .no :: hs => match fr (Xls (X45 i (ms.getD i 0) 0 ops.toList ms) L) t with
      | .sc v => match Xai want v with
       | false => Xm3 o.dst (.sc undef) L fun L => Xc3 P T nt base ops ms zs (i + 1) l L G (es ++ [.none]) hs ps
       | true => none
      | _ => none
     | _ => none) else none
    | none => none) else none
theorem Xg9 {P : Program} {T : Ty} {nt base : Nat} {ops : Array Oper} {ms : List Nat} : ∀ (l : List Oper) (i : Nat) (L : List (Nat × AV)) (G : List (Nat × Obj)) (es : List X3f) (hs : List X4g) (ps : List Prop) (L' : List (Nat × AV)) (G' : List (Nat × Obj)) (hs' : List X4g) (ps' : List Prop),
  Xc3 P T nt base ops ms (ms.zip (ops.toList.map fun o => X1h o.op)) i l L G es hs ps = some (L', G', hs', ps') -> X3q ps' -> X3q ps /\ Xk3 P T nt base ops ms i l (fr L) (hp G) es (fr L') (hp G') := by
 intro l
 induction l with
 | nil => intro i L G es hs ps L' G' hs' ps' h hp'; simp only [Xc3] at h; cases h; exact ⟨hp', .nil⟩
 | cons o l ih =>
  intro i L G es hs ps L' G' hs' ps' h hp'
  simp only [Xc3] at h
  split at h
  ·rename_i hd
   split at h
   ·rename_i hg
    split at h
    ·rename_i a e _ qs hop
     split at h
     ·rename_i hw
      rw [X5p, X9j, X9q, X8r] at h
      obtain ⟨h1, h2⟩ := ih _ _ _ _ _ _ _ _ _ _ h hp'
      obtain ⟨p1, p2⟩ := X6y h1
      have hop' := Xlc hop p1
      rw [Xe4, Xlb] at hop'
      rw [X4y, Xif] at h2
      exact ⟨p2, .op hg hd hop' hw h2⟩
     ·cases h
    ·cases h
   ·rename_i j want hg
    split at h
    ·rename_i hj
     split at h
     ·rename_i ht
      split at h
      ·split at h
       ·rename_i hr
        split at h
        ·rename_i hop
         split at h
         ·rename_i hw
          rw [X5p, X9j, X9q, X8r, X8r] at h
          obtain ⟨h1, h2⟩ := ih _ _ _ _ _ _ _ _ _ _ h hp'
          obtain ⟨p1, p0, p2⟩ := X6y h1
          obtain ⟨p3, p4⟩ := X6y p2
          have hop' := Xlc hop p1
          rw [Xe4, Xlb] at hop'
          rw [X4y, Xif] at h2
          obtain ⟨b, hb1, hb2⟩ := Xkn hr p3
          rw [Xe4] at hb1
          have : b = want := by rw [p0] at hb2; simpa using hb2.symm
          subst this
          exact ⟨p4, .run hg hd hj ht hb1 hop' hw h2⟩
         ·cases h
        ·cases h
       ·cases h
      ·split at h
       ·rename_i hr
        rw [X9j, X8r] at h
        obtain ⟨h1, h2⟩ := ih _ _ _ _ _ _ _ _ _ _ h hp'
        obtain ⟨p0, p2⟩ := h1
        obtain ⟨p3, p4⟩ := X6y p2
        rw [X4y] at h2
        obtain ⟨b, hb1, hb2⟩ := Xkn hr p3
        rw [Xe4] at hb1
        exact ⟨p4, .skip hg hd hj ht hb1 (by rw [p0] at hb2; exact hb2.symm) h2⟩
       ·cases h
      ·split at h
       ·rename_i hr
        split at h
        ·rename_i hb
         rw [X9j] at h
         obtain ⟨h1, h2⟩ := ih _ _ _ _ _ _ _ _ _ _ h hp'
         rw [X4y] at h2
         rw [Xe4] at hr
         exact ⟨h1, .skip hg hd hj ht (by rw [hr]; rfl) hb h2⟩
        ·cases h
       ·cases h
      ·cases h
     ·cases h
    ·cases h
  ·cases h
def Xn6 {β : Type} (n : Nat) (k : Nat -> Option β) : Option β :=
 match n with
 | 0 => k 0
 | m + 1 => k (m + 1)
theorem Xl9 {β : Type} (n : Nat) (k : Nat -> Option β) : Xn6 n k = k n := by cases n <;> rfl
def Xq2 {β : Type} : List Oper -> Nat -> (Nat -> Option β) -> Option β
 | [], n, k => k n
 | _ :: r, n, k => Xn6 (n + 1) fun n => Xq2 r n k
theorem Xos {β : Type} : ∀ (l : List Oper) (n : Nat) (k : Nat -> Option β), Xq2 l n k = k (n + l.length) := by
 intro l
 induction l with
 | nil => intro n k; rfl
 | cons a r ih => intro n k; simp only [Xq2, Xl9, ih, List.length_cons]; congr 1; omega
abbrev RR := Option (Cf × List Kn × List (Nat × AV) × List (Nat × Obj) × Nat × List X4g × List Prop)
def Xgf (nt n0 : Nat) (s s' : St) : Prop := ∀ (c0 : Ctx) (H0 : X0l) (c : Ctx) (act : Act) (μ : Mu), X33 nt c0 H0 n0 c s act -> MOk n0 c0 c s.H μ act -> X33 nt c0 H0 n0 c s' act /\ MOk n0 c0 c s'.H μ act
theorem Xgf.loop {P : Program} {nt n0 : Nat} {s s' : St} (hw : Xgf nt n0 s s') {b : Code} {Q : X0d -> St -> Mu -> Prop} {μ : Mu} (h : X6s P nt n0 b Q s' μ) : X6s P nt n0 b Q s μ := by
 intro c0 H0 c act g hm
 obtain ⟨g', hm'⟩ := hw c0 H0 c act μ g hm
 exact h c0 H0 c act g' hm'
theorem Xgf.semM {P : Program} {nt n0 : Nat} {s s' : St} (hw : Xgf nt n0 s s') {c : Code} {Q : X0d -> St -> Mu -> Prop} {μ : Mu} (h : X3t P nt n0 c Q s' μ) : X3t P nt n0 c Q s μ := by
 intro c0 H0 c act g hm
 obtain ⟨g', hm'⟩ := hw c0 H0 c act μ g hm
 exact h c0 H0 c act g' hm'
theorem Xav.sub {P : Program} {nt n0 : Nat} {Q : X0d -> St -> Mu -> Prop} {μ : Mu} {s s' : St} (hw : Xgf nt n0 s s') : ∀ (K : List Kn) (e : X0d), Xav P nt n0 Q K e s' μ -> Xav P nt n0 Q K e s μ := by
 intro K
 induction K with
 | nil =>
  intro e h c0 H0 c act g hm
  obtain ⟨g', hm'⟩ := hw c0 H0 c act μ g hm
  exact h c0 H0 c act g' hm'
 | cons k K ih =>
  intro e h
  cases k with
  | seq c =>
   cases e with
   | normal => exact hw.semM h
   | exit i => exact ih _ h
   | ret => exact ih _ h
  | block id =>
   cases e with
   | normal => exact ih _ h
   | ret => exact ih _ h
   | exit i =>
    have h' : X6u id (Xav P nt n0 Q K) (.exit i) s' μ := h
    show X6u id (Xav P nt n0 Q K) (.exit i) s μ
    simp only [X6u] at h' ⊢
    cases hb : Nat.beq i id with
    | true => rw [hb, cond_true] at h'; exact ih _ h'
    | false => rw [hb, cond_false] at h'; exact ih _ h'
  | loop b =>
   cases e with
   | normal => exact hw.loop h
   | exit i => exact ih _ h
   | ret => exact ih _ h
theorem Xa.sub {P : Program} {nt n0 : Nat} {Q : X0d -> St -> Mu -> Prop} {cf : Cf} {K : List Kn} {μ : Mu} {s s' : St} (hw : Xgf nt n0 s s') (h : Xa P nt n0 Q cf K s' μ) : Xa P nt n0 Q cf K s μ := by
 cases cf with
 | code c => exact hw.semM h
 | exit e => exact Xav.sub hw K e h
 | ops ops l =>
  intro c0 H0 c act g hm
  obtain ⟨g', hm'⟩ := hw c0 H0 c act μ g hm
  exact h c0 H0 c act g' hm'
 | loop b => exact hw.loop h
theorem X33.trunc {nt n0 n : Nat} {c0 c : Ctx} {H0 H : X0l} {A : Nat -> AV} {act : Act} (g : X33 nt c0 H0 n0 c ⟨A, H, n⟩ act) {o : Nat} {y : Obj} (hy : H o = some y) (m : Nat) :
  X33 nt c0 H0 n0 c ⟨A, upd H o (some { y with es := y.es.take m }), n⟩ act := by
 have hM : ∀ q z, upd H o (some { y with es := y.es.take m }) q = some z -> ∃ z', H q = some z' /\ (∃ m, z.es = z'.es.take m) /\ z.esz = z'.esz /\ z.solo = z'.solo /\ z.spent = z'.spent := by
  intro q z hz
  by_cases hq : q = o
  ·subst hq; rw [Xr] at hz; cases hz; exact ⟨y, hy, ⟨m, rfl⟩, rfl, rfl, rfl⟩
  ·rw [Xo _ _ hq] at hz; exact ⟨z, hz, ⟨z.es.length, by simp⟩, rfl, rfl, rfl⟩
 have hsolo : ∀ q z, upd H o (some { y with es := y.es.take m }) q = some z -> z.solo = true /\ z.spent = false := by
  intro q z hz
  obtain ⟨z', hz', _, _, h1, h2⟩ := hM q z hz
  rw [h1, h2]; exact g.solo q z' hz'
 refine ⟨⟨?_, ?_, ?_, g.inv.lt, g.inv.base, g.inv.own, ?_⟩, hsolo, g.frame, g.ok, g.size, ⟨g.reach.rho, g.reach.os, g.reach.tape, g.reach.output, g.reach.size, g.reach.block, g.reach.stable, g.reach.sa, g.reach.so1, g.reach.so2, g.reach.B, ?_⟩, g.le0⟩
 ·intro q z hz
  obtain ⟨z', hz', ⟨k, hk⟩, h1, _⟩ := hM q z hz
  obtain ⟨g1, ⟨⟨cur, hb, hs, hc⟩, hf, hp, hse⟩, g3⟩ := g.inv.obj q z' hz'
  refine ⟨g1, ⟨⟨cur, hb, hs, fun i e he => ?_⟩, ?_, hp, by rw [h1]; exact hse⟩, fun e he => ?_⟩
  ·rw [hk, List.getElem?_take] at he
   split at he
   ·exact hc i e he
   ·cases he
  ·rw [hk, List.length_take]; omega
  ·rw [hk] at he; exact g3 e (List.mem_of_mem_take he)
 ·intro q q' z z' hz hz' hne hb
  obtain ⟨x, hx, _, _, h1, _⟩ := hM q z hz
  obtain ⟨x', hx', _⟩ := hM q' z' hz'
  have := (g.inv.sep q q' x x' hx hx' hne hb).1
  rw [(g.solo q x hx).1] at this; cases this
 ·intro q z hz
  obtain ⟨z', hz', _⟩ := hM q z hz
  exact g.inv.stab q z' hz'
 ·intro q z hz
  obtain ⟨z', hz', _⟩ := hM q z hz
  exact g.inv.low q z' hz'
 ·intro q z hz
  obtain ⟨z', hz', _⟩ := hM q z hz
  exact g.reach.own q z' hz'
theorem Xgf.trunc {nt n0 n : Nat} {H : X0l} {A : Nat -> AV} {o : Nat} {y : Obj} (hy : H o = some y) (m : Nat) : Xgf nt n0 ⟨A, H, n⟩ ⟨A, upd H o (some { y with es := y.es.take m }), n⟩ := by
 intro c0 H0 c act μ g hm
 refine ⟨g.trunc hy m, hm.is, fun p hp => ?_, hm.nodup, hm.ds⟩
 obtain ⟨a1, a2, a3, a4⟩ := hm.away p hp
 refine ⟨a1, a2, fun q z hz => ?_, a4⟩
 have hz' : upd H o (some { y with es := y.es.take m }) q = some z := hz
 by_cases hq : q = o
 ·subst hq; exact a3 q y hy
 ·rw [Xo _ _ hq] at hz'; exact a3 q z hz'
def Xmu (id : Nat) : List X4g -> Bool
 | .stop j :: _ => Nat.beq j id
 | _ => false
def X8p (P : Program) (T : Ty) (nt : Nat) : Nat -> Cf -> List Kn -> List (Nat × AV) -> List (Nat × Obj) -> Nat -> List X4g -> List Prop -> RR
  | 0, cf, K, L, G, n, hs, ps => some (cf, K, L, G, n, hs, ps)
  | f + 1, cf, K, L, G, n, hs, ps => match cf with
    | .code c => match c with
      | .skip => X8p P T nt f (.exit .normal) K L G n hs ps
      | .label _ => X8p P T nt f (.exit .normal) K L G n hs ps
      | .exit id => X8p P T nt f (.exit (.exit id)) K L G n hs ps
      | .ret => X8p P T nt f (.exit .ret) K L G n hs ps
      | .seq a b => X8p P T nt f (.code a) (.seq b :: K) L G n hs ps
      | .block id c => X8p P T nt f (.code c) (.block id :: K) L G n hs ps
      | .scope c => X8p P T nt f (.code c) K L G n hs ps
      | .region id ops false => match hs with
        | .stop j :: hs => match Nat.beq j id with
          | true => some (.code (.region id ops false), K, L, G, n, hs, ps)
          | false => X8p P T nt f (.ops ops ops.toList) K L G n (.stop j :: hs) ps
        | hs => X8p P T nt f (.ops ops ops.toList) K L G n hs ps
      | .region id ops true => match Xmu id hs with
       | true => some (.code (.region id ops true), K, L, G, n, hs.tail, ps)
       | false => match X4d 0 ops.toList with
        | true => match Xc3 P T nt n ops (X1d ops.toList) ((X1d ops.toList).zip (ops.toList.map fun o => X1h o.op)) 0 ops.toList L G [] hs ps with
          | some (L, G, hs, ps) => Xcg G fun G => Xq2 ops.toList n fun n => X8p P T nt f (.exit .normal) K L G n hs ps
          | none => none
        | false => none
      | .loop b => some (.loop b, K, L, G, n, hs, ps)
      | .cond x a b => match hs with
        | .br true :: hs => match rd L x with
          | (.sc (.bool t), qs) => Xk1 qs ((t = true) :: ps) fun ps => X8p P T nt f (.code a) K L G n hs ps
          | _ => none
        | .br false :: hs => match rd L x with
          | (.sc (.bool t), qs) => Xk1 qs ((t = false) :: ps) fun ps => X8p P T nt f (.code b) K L G n hs ps
          | _ => none
        | hs => some (.code (.cond x a b), K, L, G, n, hs, ps)
      | c => some (.code c, K, L, G, n, hs, ps)
    | .exit e => match K with
      | [] => some (.exit e, [], L, G, n, hs, ps)
      | .seq c :: K => match e with
        | .normal => X8p P T nt f (.code c) K L G n hs ps
        | e => X8p P T nt f (.exit e) K L G n hs ps
      | .block id :: K => match e with
        | .exit i => match Nat.beq i id with
          | true => X8p P T nt f (.exit .normal) K L G n hs ps
          | false => X8p P T nt f (.exit (.exit i)) K L G n hs ps
        | e => X8p P T nt f (.exit e) K L G n hs ps
      | .loop b :: K => match e with
        | .normal => some (.loop b, K, L, G, n, hs, ps)
        | e => X8p P T nt f (.exit e) K L G n hs ps
    | .loop b => some (.loop b, K, L, G, n, hs, ps)
    | .ops ops l => match l with
      | [] => X8p P T nt f (.exit .normal) K L G n hs ps
      | o :: l => match hs with
       | .trunc q es :: hs => match hp G q with
        | some y => X8p P T nt f (.ops ops (o :: l)) K L ((q, { y with es := es }) :: Xk2 q G) n hs ((∃ m, es = y.es.take m) :: ps)
        | none => none
       | hs => if Xbb nt o.dst = true then (match o.guard with
        | none => match opS P T L G n o.op hs with
          | some (a, G', n', hs', qs) => X9r a fun a => Xm3 o.dst a L fun L => Xcg G' fun G => Xk1 qs ps fun ps => X8p P T nt f (.ops ops l) K L G n' hs' ps
          | none => some (.ops ops (o :: l), K, L, G, n, hs, ps)
        | some (j, want) => match (ops[j]?).bind (·.dst) with
          | some t => if Nat.blt t nt = true then (match gdS want (fr L t) with
            | some g => match Xmu 999999 hs with
             | true => some (.ops ops (o :: l), K, L, G, n, hs.tail, ps)
             | false => match hs with
              | .go true :: hs => match opS P T L G n o.op hs with
                | some (a, G', n', hs', qs) => X9r a fun a => Xm3 o.dst a L fun L => Xcg G' fun G => Xk1 qs ((g = true) :: ps) fun ps => X8p P T nt f (.ops ops l) K L G n' hs' ps
                | none => none
              | .go false :: hs => Xm3 o.dst (.cond false (.sc (.bool false))) L fun L => X8p P T nt f (.ops ops l) K L G n hs ((g = false) :: ps)
              | hs => match quS P T L G o.op hs with
                | some (a, hs', qs) => match AV.okB (fun o => Nat.blt o n) a with
                  | true => X9r a fun a => Xm3 o.dst (.cond g a) L fun L => Xk1 (Xgo g qs) ps fun ps => X8p P T nt f (.ops ops l) K L G n hs' ps
                  | false => none
                | none => some (.ops ops (o :: l), K, L, G, n, hs, ps)
            | none => none) else none
          | none => none) else none
theorem Xnk {P : Program} {T : Ty} {nt n0 : Nat} {μ : Mu} {Q : X0d -> St -> Mu -> Prop} (hT : X7o P T) (hm : P.follows .mixedOrders = true) : ∀ (f : Nat) (cf : Cf) (K : List Kn) (L : List (Nat × AV)) (G : List (Nat × Obj)) (n : Nat) (hs : List X4g) (ps : List Prop) (cf' : Cf) (K' : List Kn) (L' : List (Nat × AV)) (G' : List (Nat × Obj)) (n' : Nat) (hs' : List X4g) (ps' : List Prop),
  X8p P T nt f cf K L G n hs ps = some (cf', K', L', G', n', hs', ps') -> X3q ps' -> X3q ps /\ (Xa P nt n0 Q cf' K' (SSt L' G' n') μ -> Xa P nt n0 Q cf K (SSt L G n) μ) := by
 intro f
 induction f with
 | zero => intro cf K L G n hs ps cf' K' L' G' n' hs' ps' h hp; simp only [X8p] at h; cases h; exact ⟨hp, fun h => h⟩
 | succ f ih =>
  intro cf K L G n hs ps cf' K' L' G' n' hs' ps' h hp
  have stop : some (cf, K, L, G, n, hs, ps) = some (cf', K', L', G', n', hs', ps') -> X3q ps /\ (Xa P nt n0 Q cf' K' (SSt L' G' n') μ -> Xa P nt n0 Q cf K (SSt L G n) μ) := by
   intro h; cases h; exact ⟨hp, fun h => h⟩
  cases cf with
  | code c =>
   cases c with
   | skip => obtain ⟨h1, h2⟩ := ih _ _ _ _ _ _ _ _ _ _ _ _ _ _ h hp; exact ⟨h1, fun k => X3t.skip (h2 k)⟩
   | label => obtain ⟨h1, h2⟩ := ih _ _ _ _ _ _ _ _ _ _ _ _ _ _ h hp; exact ⟨h1, fun k => X3t.label (h2 k)⟩
   | exit => obtain ⟨h1, h2⟩ := ih _ _ _ _ _ _ _ _ _ _ _ _ _ _ h hp; exact ⟨h1, fun k => X3t.exit (h2 k)⟩
   | ret => obtain ⟨h1, h2⟩ := ih _ _ _ _ _ _ _ _ _ _ _ _ _ _ h hp; exact ⟨h1, fun k => X3t.ret (h2 k)⟩
   | seq => obtain ⟨h1, h2⟩ := ih _ _ _ _ _ _ _ _ _ _ _ _ _ _ h hp; exact ⟨h1, fun k => X3t.seq (h2 k)⟩
   | block => obtain ⟨h1, h2⟩ := ih _ _ _ _ _ _ _ _ _ _ _ _ _ _ h hp; exact ⟨h1, fun k => X3t.block (h2 k)⟩
   | scope => obtain ⟨h1, h2⟩ := ih _ _ _ _ _ _ _ _ _ _ _ _ _ _ h hp; exact ⟨h1, fun k => X3t.scope (h2 k)⟩
   | region id ops d =>
    cases d with
    | false =>
     simp only [X8p] at h
     split at h
     ·split at h
      ·cases h; exact ⟨hp, fun k => k⟩
      ·obtain ⟨h1, h2⟩ := ih _ _ _ _ _ _ _ _ _ _ _ _ _ _ h hp; exact ⟨h1, fun k => X3t.region (h2 k)⟩
     ·obtain ⟨h1, h2⟩ := ih _ _ _ _ _ _ _ _ _ _ _ _ _ _ h hp; exact ⟨h1, fun k => X3t.region (h2 k)⟩
    | true =>
     simp only [X8p] at h
     split at h
     ·cases h; exact ⟨hp, fun k => k⟩
     split at h
     ·rename_i hpre
      split at h
      ·rename_i hd
       rw [X9q, Xos] at h
       obtain ⟨h1, h2⟩ := ih _ _ _ _ _ _ _ _ _ _ _ _ _ _ h hp
       obtain ⟨h3, h4⟩ := Xg9 _ _ _ _ _ _ _ _ _ _ _ hd h1
       exact ⟨h3, fun k => X3t.of (X6h.drawn (s := SSt L G n) hm hT hpre h4 (h2 k))⟩
      ·cases h
     ·cases h
   | loop b => cases h; exact ⟨hp, fun k => X3t.loop k⟩
   | cond x a b =>
    simp only [X8p] at h
    split at h
    ·split at h
     ·rename_i hr
      rw [X8r] at h
      obtain ⟨h1, h2⟩ := ih _ _ _ _ _ _ _ _ _ _ _ _ _ _ h hp
      obtain ⟨p3, p1, p4⟩ := X6y h1
      exact ⟨p4, fun k => X3t.cond (s := (SSt L G n)) (X13 hr p3) (fun _ => h2 k) (fun hf => by rw [p1] at hf; cases hf)⟩
     ·cases h
    ·split at h
     ·rename_i hr
      rw [X8r] at h
      obtain ⟨h1, h2⟩ := ih _ _ _ _ _ _ _ _ _ _ _ _ _ _ h hp
      obtain ⟨p3, p1, p4⟩ := X6y h1
      exact ⟨p4, fun k => X3t.cond (s := (SSt L G n)) (X13 hr p3) (fun hf => by rw [p1] at hf; cases hf) (fun _ => h2 k)⟩
     ·cases h
    ·exact stop h
   | _ => exact stop h
  | exit e =>
   cases K with
   | nil => exact stop h
   | cons kn K =>
    cases kn with
    | seq c => cases e <;> (simp only [X8p] at h; obtain ⟨h1, h2⟩ := ih _ _ _ _ _ _ _ _ _ _ _ _ _ _ h hp; exact ⟨h1, fun k => h2 k⟩)
    | loop b =>
     cases e with
     | normal => cases h; exact ⟨hp, fun k => k⟩
     | exit i => simp only [X8p] at h; obtain ⟨h1, h2⟩ := ih _ _ _ _ _ _ _ _ _ _ _ _ _ _ h hp; exact ⟨h1, fun k => h2 k⟩
     | ret => simp only [X8p] at h; obtain ⟨h1, h2⟩ := ih _ _ _ _ _ _ _ _ _ _ _ _ _ _ h hp; exact ⟨h1, fun k => h2 k⟩
    | block id =>
     cases e with
     | normal => simp only [X8p] at h; obtain ⟨h1, h2⟩ := ih _ _ _ _ _ _ _ _ _ _ _ _ _ _ h hp; exact ⟨h1, fun k => h2 k⟩
     | ret => simp only [X8p] at h; obtain ⟨h1, h2⟩ := ih _ _ _ _ _ _ _ _ _ _ _ _ _ _ h hp; exact ⟨h1, fun k => h2 k⟩
     | exit i =>
      simp only [X8p] at h
      split at h
      ·rename_i hb
       obtain ⟨h1, h2⟩ := ih _ _ _ _ _ _ _ _ _ _ _ _ _ _ h hp
       refine ⟨h1, fun k => ?_⟩
       show X6u id (Xav P nt n0 Q K) (.exit i) (SSt L G n) μ
       simp only [X6u, hb, cond_true]
       exact h2 k
      ·rename_i hb
       obtain ⟨h1, h2⟩ := ih _ _ _ _ _ _ _ _ _ _ _ _ _ _ h hp
       refine ⟨h1, fun k => ?_⟩
       show X6u id (Xav P nt n0 Q K) (.exit i) (SSt L G n) μ
       simp only [X6u, hb, cond_false]
       exact h2 k
  | loop b => exact stop h
  | ops ops l =>
   simp only [X8p] at h
   split at h
   ·obtain ⟨h1, h2⟩ := ih _ _ _ _ _ _ _ _ _ _ _ _ _ _ h hp; exact ⟨h1, fun k => X47.nil (h2 k)⟩
   ·split at h
    ·split at h
     ·rename_i hy
      obtain ⟨⟨⟨m, rfl⟩, h1⟩, h2⟩ := ih _ _ _ _ _ _ _ _ _ _ _ _ _ _ h hp
      refine ⟨h1, fun k => Xa.sub (Xgf.trunc (A := fr L) (H := Go.Av.hp G) (n := n) hy m) ?_⟩
      have := h2 k
      simp only [SSt, Xia] at this
      exact this
     ·cases h
    split at h
    ·rename_i hd
     have hdl := X4v hd
     split at h
     ·rename_i hg
      split at h
      ·rename_i hop
       rw [X5p, X9j, X9q, X8r] at h
       obtain ⟨h1, h2⟩ := ih _ _ _ _ _ _ _ _ _ _ _ _ _ _ h hp
       obtain ⟨p1, p2⟩ := X6y h1
       refine ⟨p2, fun k => X47.plain hg hdl (Xn2 hT hop p1) ?_⟩
       rintro _ _ _ ⟨rfl, rfl, rfl⟩
       have := h2 k
       simp only [Xa, SSt, X4y] at this
       exact this
      ·exact stop h
     ·rename_i j want hg
      split at h
      ·rename_i hj
       split at h
       ·rename_i ht
        split at h
        ·rename_i g hgd
         split at h
         ·cases h; exact ⟨hp, fun k => k⟩
         split at h
         ·split at h
          ·rename_i hop
           rw [X5p, X9j, X9q, X8r] at h
           obtain ⟨h1, h2⟩ := ih _ _ _ _ _ _ _ _ _ _ _ _ _ _ h hp
           obtain ⟨p1, p0, p2⟩ := X6y h1
           subst p0
           refine ⟨p2, fun k => X47.step (fun c0 c H0 act gd => X9e (s := SSt L G n) hg hj ht hgd gd) hdl (Xn2 hT hop p1) ?_⟩
           rintro _ _ _ ⟨rfl, rfl, rfl⟩
           have := h2 k
           simp only [Xa, SSt, X4y] at this
           exact this
          ·cases h
         ·rw [X9j] at h
          obtain ⟨h1, h2⟩ := ih _ _ _ _ _ _ _ _ _ _ _ _ _ _ h hp
          obtain ⟨p0, p1⟩ := h1
          subst p0
          refine ⟨p1, fun k => X47.skip (s := SSt L G n) hg hj ht hgd hdl ?_⟩
          have := h2 k
          simp only [Xa, SSt, X4y] at this
          exact this
         ·split at h
          ·rename_i hpu
           split at h
           ·rename_i hok
            rw [X5p, X9j, X8r] at h
            obtain ⟨h1, h2⟩ := ih _ _ _ _ _ _ _ _ _ _ _ _ _ _ h hp
            obtain ⟨p1, p2⟩ := X6y h1
            refine ⟨p2, fun k => X47.quiet (s := SSt L G n) hg hj ht hgd hdl (Xrc hok) (fun hb => Xko hT hpu (Xdn p1 hb)) ?_⟩
            have := h2 k
            simp only [Xa, SSt, X4y] at this
            exact this
           ·cases h
          ·exact stop h
        ·cases h
       ·cases h
      ·cases h
    ·cases h
theorem Xa.round {P : Program} {nt n0 : Nat} {μ : Mu} {Q : X0d -> St -> Mu -> Prop} {b : Code} {K : List Kn} {s : St} (h : Xa P nt n0 Q (.code b) (.loop b :: K) s μ) : Xa P nt n0 Q (.loop b) K s μ := X6s.round h
theorem Xmy {P : Program} {T : Ty} {nt n0 : Nat} {μ : Mu} {Q : X0d -> St -> Mu -> Prop} {cf cf' : Cf} {K K' : List Kn} {L L' : List (Nat × AV)} {G G' : List (Nat × Obj)} {n n' : Nat} {hs' : List X4g} {ps' : List Prop} (hT : X7o P T /\ P.follows .mixedOrders = true) (f : Nat) (hs : List X4g)
  (h : X8p P T nt f cf K L G n hs [] = some (cf', K', L', G', n', hs', ps')) (hp' : X3q ps') (k : Xa P nt n0 Q cf' K' ⟨fr L', hp G', n'⟩ μ) : Xa P nt n0 Q cf K ⟨fr L, hp G, n⟩ μ :=
 (Xnk hT.1 hT.2 f cf K L G n hs [] cf' K' L' G' n' hs' ps' h hp').2 k
end Go.Av
