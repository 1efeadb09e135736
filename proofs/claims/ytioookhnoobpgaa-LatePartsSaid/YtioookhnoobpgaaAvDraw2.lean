/- Regions whose order is drawn: one operation. -/
import Derived.Test.YtioookhnoobpgaaAvDraw
namespace Go.Av

structure GoodM (nt : Nat) (c0 : Ctx) (H0 : Heap) (n0 : Nat) (c : Ctx) (A : Nat → AV) (H : Heap) (M : Nat → Prop) (act : Act) : Prop where
  inv : Inv c H M
  solo : ∀ o x, H o = some x → x.solo = true ∧ x.spent = false
  frame : ∀ t, VRel c false (A t) (act.tmps.getD t undef)
  ok : ∀ t, (A t).Ok M
  size : act.tmps.size = nt
  defers : act.defers = []
  reach : Reach c0 H0 n0 c H
  le0 : ∀ q, q < n0 → M q

inductive WEff where
  | none
  | new (x : Obj)
  | app (old : Nat) (x : Obj)
  | set (o : Nat) (x : Obj)

/-- What an effect makes of an object, if it touches it. -/
def WEff.at (id : Nat) (o : Nat) : WEff → Option (Option Obj)
  | .none => .none
  | .new x => bif Nat.beq o id then some (some x) else .none
  | .app old x => bif Nat.beq o id then some (some x) else bif Nat.beq o old then some .none else .none
  | .set o' x => bif Nat.beq o o' then some (some x) else .none

def WEff.objs (id : Nat) : WEff → List Nat
  | .none => []
  | .new _ => [id]
  | .app old _ => [id, old]
  | .set o _ => [o]

theorem WEff.at_objs {id o : Nat} {e : WEff} (h : o ∉ e.objs id) : e.at id o = Option.none := by
  cases e <;> simp only [WEff.objs, List.mem_cons, List.not_mem_nil, or_false, not_or, not_false_eq_true, WEff.at] at h ⊢
  · have : Nat.beq o id = false := by rw [← Bool.not_eq_true, Nat.beq_eq]; exact h
    rw [this]; rfl
  · rename_i old _
    have h1 : Nat.beq o id = false := by rw [← Bool.not_eq_true, Nat.beq_eq]; exact h.1
    have h2 : Nat.beq o old = false := by rw [← Bool.not_eq_true, Nat.beq_eq]; exact h.2
    rw [h1, h2]; rfl
  · rename_i q _
    have : Nat.beq o q = false := by rw [← Bool.not_eq_true, Nat.beq_eq]; exact h
    rw [this]; rfl

def WEff.go (id : Nat) (e : WEff) (H : Heap) : Heap := fun o => (e.at id o).getD (H o)

theorem WEff.go_none (id : Nat) (H : Heap) : WEff.go id .none H = H := rfl
theorem WEff.go_new (id : Nat) (x : Obj) (H : Heap) : WEff.go id (.new x) H = upd H id (some x) := by
  funext o
  simp only [WEff.go, WEff.at]
  by_cases h : o = id
  · subst h; rw [upd_same]; simp
  · have : Nat.beq o id = false := by rw [← Bool.not_eq_true, Nat.beq_eq]; exact h
    rw [this, upd_other _ _ h]; rfl
theorem WEff.go_app (id old : Nat) (x : Obj) (H : Heap) : WEff.go id (.app old x) H = upd (upd H old Option.none) id (some x) := by
  funext o
  simp only [WEff.go, WEff.at]
  by_cases h : o = id
  · subst h; rw [upd_same]; simp
  · have h1 : Nat.beq o id = false := by rw [← Bool.not_eq_true, Nat.beq_eq]; exact h
    rw [h1, upd_other _ _ h, cond_false]
    by_cases h2 : o = old
    · subst h2; rw [upd_same]; simp
    · have h3 : Nat.beq o old = false := by rw [← Bool.not_eq_true, Nat.beq_eq]; exact h2
      rw [h3, upd_other _ _ h2]; rfl
theorem WEff.go_set (id o' : Nat) (x : Obj) (H : Heap) : WEff.go id (.set o' x) H = upd H o' (some x) := by
  funext o
  simp only [WEff.go, WEff.at]
  by_cases h : o = o'
  · subst h; rw [upd_same]; simp
  · have : Nat.beq o o' = false := by rw [← Bool.not_eq_true, Nat.beq_eq]; exact h
    rw [this, upd_other _ _ h]; rfl

inductive DOp (P : Program) (T : Ty) (A : Nat → AV) (V : Heap) (id : Nat) (o : Oper) : AV → WEff → Prop
  | pu {a} (h : Pu T (evA A) V o.op a) : DOp P T A V id o a .none
  | zero {a} (h : Mk T (evA A) V id o.op a .none) : DOp P T A V id o a .none
  | new {a x} (h : Mk T (evA A) V id o.op a (.new x)) (h1 : x.solo = true) (h2 : x.spent = false) : DOp P T A V id o a (.new x)
  | app {a old x} (h : Mk T (evA A) V id o.op a (.app old x)) (h1 : x.solo = true) (h2 : x.spent = false) : DOp P T A V id o a (.app old x)
  | store {t p x q i k y e ti} (ho : o.op = .store t p x) (hdst : o.dst = none) (hp : evA A p = .ptr q i k) (hH : V q = some y) (he : y.es[i]? = some e) (ht : T t = some ti) (hw : (evA A x).whole = true)
      (hsz : (evA A x).cells.length = ti.size) (hle : k + ti.size ≤ e.cells.length) (hpos : ti.size ≠ 0) : DOp P T A V id o (.sc undef) (.set q { y with es := y.es.set i (storeE e k (evA A x)) })
  | pure {x args ts f bs r Vr} (ho : o.op = .call { callee := .value x, args := args, argTypes := ts }) (hx : evA A x = .fn f [])
      (hcv : Cvs false Vr (args.toList.map (evA A)) bs) (hp : Pure P f bs r) (hsub : ∀ o x, Vr o = some x → V o = some x) (hr : OwnO r ∨ ((∀ o, Vr o = none) ∧ ∀ M, r.Ok M)) : DOp P T A V id o r .none

theorem OwnO.ok {a : AV} (h : OwnO a) (M : Nat → Prop) : a.Ok M := by
  induction h with
  | sc => exact .sc
  | nils => exact .nils
  | agg _ ih => exact .agg ih
  | tup _ ih => exact .tup ih
  | listNil => exact .list
  | list => exact .list

theorem GoodM.next {nt n0 : Nat} {c0 c c' : Ctx} {H0 H : Heap} {A : Nat → AV} {M M' : Nat → Prop} {act : Act} (g : GoodM nt c0 H0 n0 c A H M act) {H' : Heap} {dst : Option Nat} {a : AV} {v : Value}
    (hd : ∀ d, dst = some d → d < nt) (hle : c.Le M c') (hsa : c'.Sa = c.Sa) (hso : ∀ b, c'.So b → c.So b ∨ c.w.heap.size ≤ b) (hfr : Fr c H c'.w) (hown : OwnRel c H c' H')
    (hI : Inv c' H' M') (hs : ∀ o x, H' o = some x → x.solo = true ∧ x.spent = false) (hn : ∀ q, M q → M' q) (hv : VRel c' false a v) (hok : a.Ok M') :
    GoodM nt c0 H0 n0 c' (updO A dst a) H' M' (act.put dst v) := by
  refine ⟨hI, hs, ?_, ?_, ?_, ?_, g.reach.step hle (fun q hq => g.le0 q hq) hsa hso hfr hown, fun q hq => hn q (g.le0 q hq)⟩
  · intro t
    cases dst with
    | none => exact (g.frame t).mono hle (.inr (g.ok t))
    | some d =>
      simp only [updO, Act.put]
      rw [getD_set (by rw [g.size]; exact hd d rfl)]
      by_cases h : t = d
      · subst h; rw [if_pos rfl, upd_same]; exact hv
      · rw [if_neg h, upd_other _ _ h]; exact (g.frame t).mono hle (.inr (g.ok t))
  · intro t
    cases dst with
    | none => exact (g.ok t).mono hn
    | some d =>
      simp only [updO]
      by_cases h : t = d
      · subst h; rw [upd_same]; exact hok
      · rw [upd_other _ _ h]; exact (g.ok t).mono hn
  · cases dst with
    | none => exact g.size
    | some d => simpa [Act.put] using g.size
  · cases dst with
    | none => exact g.defers
    | some d => exact g.defers

section
variable {nt n0 : Nat} {c0 c : Ctx} {H0 H : Heap} {A : Nat → AV} {M : Nat → Prop} {act : Act}
theorem GoodM.junk (g : GoodM nt c0 H0 n0 c A H M act) {A' : Nat → AV} (hA : ∀ t, A' t = A t ∨ A' t = .junk) : GoodM nt c0 H0 n0 c A' H M act :=
  ⟨g.inv, g.solo, fun t => by rcases hA t with h | h <;> rw [h]; exact g.frame t; exact .junk, fun t => by rcases hA t with h | h <;> rw [h]; exact g.ok t; exact .junk, g.size, g.defers, g.reach, g.le0⟩
theorem GoodM.ev (g : GoodM nt c0 H0 n0 c A H M act) (x : Operand) : VRel c false (evA A x) (act.eval x) := by
  cases x with
  | tmp t => exact strip_rel (g.frame t)
  | const v => exact ofConst_rel c false v
  | global k => exact .sc
  | func f => exact .fn (by simp) (fun i a v ha _ => by simp at ha)
theorem GoodM.evOk (g : GoodM nt c0 H0 n0 c A H M act) (x : Operand) : (evA A x).Ok M := by
  cases x with
  | tmp t => exact strip_ok (g.ok t)
  | const v => exact ofConst_ok _ v
  | global k => exact .sc
  | func f => exact .fn (fun a ha => by simp at ha)
theorem Inv.view (hI : Inv c H M) {V : Heap} (hV : ∀ o x, V o = some x → H o = some x) : Inv c V M :=
  hI.forget (fun o x hx => ⟨x, hV o x hx, rfl, rfl, fun h => h⟩) (fun o o' x x' hx hx' hne hb => by
      have := hI.sep o o' x x' (hV o x hx) (hV o' x' hx') hne hb
      exact ⟨this.1, fun h => (this.2 h).1⟩)

theorem mkStep {P : Program} {T : Ty} {o : Oper} {a : AV} {e : Eff} {A' : Nat → AV} {V : Heap} {id : Nat} (hT : TyOk P T) (g : GoodM nt c0 H0 n0 c A H M act) (hA : ∀ t, A' t = A t ∨ A' t = .junk)
    (hV : ∀ o x, V o = some x → H o = some x) (hid : ¬ M id) (h : Mk T (evA A') V id o.op a e) (hx : ∀ old x, e = .app old x ∨ e = .new x → x.solo = true ∧ x.spent = false) (hd : ∀ d, o.dst = some d → d < nt)
    (K : Act → World → Prop) (Q : Exit → Act → World → Prop)
    (hK : ∀ c' v, GoodM nt c0 H0 n0 c' (updO A o.dst a) (e.seq id H) (fun q => M q ∨ q = id) (act.put o.dst v) → K (act.put o.dst v) c'.w) : o.wp P act c.w K Q := by
  have g' := g.junk hA
  obtain ⟨v, c', h1, hle, hsa, hso, hv, hok, hI1, hfr, hown⟩ := mk_ok hT g.inv hV hid g'.ev g'.evOk h
  unfold Oper.wp
  rw [h1]
  have key : Inv c' (e.seq id H) (fun q => M q ∨ q = id) ∧ (∀ o x, e.seq id H o = some x → x.solo = true ∧ x.spent = false) ∧ OwnRel c H c' (e.seq id H) := by
    cases e with
    | none => exact ⟨hI1, g.solo, hown⟩
    | new x =>
      refine ⟨hI1, fun o y hy => ?_, hown⟩
      simp only [Eff.seq] at hy
      by_cases ho : o = id
      · subst ho; rw [upd_same] at hy; cases hy; exact hx 0 x (.inr rfl)
      · rw [upd_other _ _ ho] at hy; exact g.solo o y hy
    | app old x =>
      have hxs := hx old x (.inl rfl)
      have hcase : ∀ o y, (Eff.app old x).seq id H o = some y → (o = id ∧ y = x) ∨ (o ≠ id ∧ o ≠ old ∧ H o = some y) := by
        intro o y hy
        simp only [Eff.seq] at hy
        by_cases ho : o = id
        · subst ho; rw [upd_same] at hy; cases hy; exact .inl ⟨rfl, rfl⟩
        · rw [upd_other _ _ ho] at hy
          by_cases hoo : o = old
          · subst hoo; rw [upd_same] at hy; cases hy
          · rw [upd_other _ _ hoo] at hy; exact .inr ⟨ho, hoo, hy⟩
      have hback : ∀ o y, (Eff.app old x).seq id H o = some y → ∃ z, (Eff.app old x).apply id H o = some z ∧ z.es = y.es ∧ z.esz = y.esz ∧ (y.spent = false → z.spent = false) := by
        intro o y hy
        rcases hcase o y hy with ⟨rfl, rfl⟩ | ⟨h1, h2, h3⟩
        · exact ⟨_, upd_same _ _ _, rfl, rfl, fun h => h⟩
        · exact ⟨y, by simp only [Eff.apply, upd_other _ _ h1, upd_other _ _ h2]; exact h3, rfl, rfl, fun h => h⟩
      have hsep : ∀ o o' y y', (Eff.app old x).seq id H o = some y → (Eff.app old x).seq id H o' = some y' → o ≠ o' → (c'.ρ o).blk ≠ (c'.ρ o').blk := by
        intro o o' y y' hy hy' hne hb
        obtain ⟨z, hz, _, _, hsp⟩ := hback o y hy
        obtain ⟨z', hz', _, _, hsp'⟩ := hback o' y' hy'
        have hy0 : y.spent = false := by rcases hcase o y hy with ⟨_, rfl⟩ | ⟨_, _, h3⟩; exact hxs.2; exact (g.solo o y h3).2
        have hy0' : y'.spent = false := by rcases hcase o' y' hy' with ⟨_, rfl⟩ | ⟨_, _, h3⟩; exact hxs.2; exact (g.solo o' y' h3).2
        have := ((hI1.sep o o' z z' hz hz' hne hb).2 (hsp hy0)).1
        rw [hsp' hy0'] at this
        cases this
      refine ⟨hI1.forget hback fun o o' y y' hy hy' hne hb => absurd hb (hsep o o' y y' hy hy' hne), fun o y hy => ?_, fun o y hy => ?_⟩
      · rcases hcase o y hy with ⟨_, rfl⟩ | ⟨_, _, h3⟩
        · exact hxs
        · exact g.solo o y h3
      · obtain ⟨z, hz, _⟩ := hback o y hy
        exact hown o z hz
  exact hK c' v (g.next hd hle hsa (fun b hb => .inl (by rw [hso] at hb; exact hb)) hfr key.2.2 key.1 key.2.1 (fun q => .inl) hv hok)

/-- One operation, at whatever place of the order. -/
theorem DOp.step {P : Program} {T : Ty} {o : Oper} {a : AV} {e : WEff} {A' : Nat → AV} {V : Heap} {id b : Nat} (hT : TyOk P T) (g : GoodM nt c0 H0 n0 c A H M act) (hM : ∀ q, M q → q < b) (hA : ∀ t, A' t = A t ∨ A' t = .junk)
    (hV : ∀ o x, V o = some x → H o = some x) (hid : ¬ M id) (h : DOp P T A' V id o a e) (hd : ∀ d, o.dst = some d → d < nt)
    (K : Act → World → Prop) (Q : Exit → Act → World → Prop)
    (hK : ∀ c' v, GoodM nt c0 H0 n0 c' (updO A o.dst a) (e.go id H) (fun q => M q ∨ q = id) (act.put o.dst v) → K (act.put o.dst v) c'.w) : o.wp P act c.w K Q := by
  have g' := g.junk hA
  have more : ∀ {q}, M q → M q ∨ q = id := fun h => .inl h
  cases h with
  | pu h =>
    obtain ⟨v, h1, h2, h3⟩ := pu_ok hT (g.inv.view hV) g'.ev g'.evOk h
    unfold Oper.wp
    rw [h1]
    exact hK c v (g.next hd (.refl c) rfl (fun b hb => .inl hb) (.refl c H) (fun q x hx => .inr ⟨q, x, hx, rfl⟩) (g.inv.more fun q h => .inl h) g.solo (fun q => .inl) h2 (h3.mono fun q h => .inl h))
  | zero h =>
    refine mkStep hT g hA hV hid h (fun old x hx => by rcases hx with hx | hx <;> cases hx) hd K Q fun c' v hg => hK c' v ?_
    exact hg
  | @new a x h hs1 hs2 =>
    refine mkStep hT g hA hV hid h (fun old y hx => by rcases hx with hx | hx <;> cases hx; exact ⟨hs1, hs2⟩) hd K Q fun c' v hg => hK c' v ?_
    rw [WEff.go_new]; exact hg
  | @app a old x h hs1 hs2 =>
    refine mkStep hT g hA hV hid h (fun old' y hx => by rcases hx with hx | hx <;> cases hx; exact ⟨hs1, hs2⟩) hd K Q fun c' v hg => hK c' v ?_
    rw [WEff.go_app]; exact hg
  | @store t p x q i k y e ti ho hdst hp hH he ht hw hsz hle hpos =>
    have hst : StR T (evA A') H o.op (upd H q (some { y with es := y.es.set i (storeE e k (evA A' x)) })) := by
      rw [ho]; exact .store hp (hV _ _ hH) (g.solo _ _ (hV _ _ hH)).1 he ht hw hsz hle hpos
    obtain ⟨c', h1, hle', hsa, hso, hI, hfr, hown⟩ := st_ok hT g.inv g'.ev g'.evOk hst
    unfold Oper.wp
    rw [h1]
    have hsolo := hst.solo g.solo
    have := hK c' undef
    rw [hdst, WEff.go_set] at this
    show K (act.put o.dst undef) c'.w
    rw [hdst]
    exact this (g.next (dst := none) (fun d h => by cases h) hle' hsa (fun b hb => .inl (by rw [hso] at hb; exact hb)) hfr hown (hI.more fun q h => .inl h) hsolo (fun q => .inl) (a := .sc undef) .sc .sc)
  | @pure x args ts f bs r Vr ho hx hcv hp hsub hr =>
    have hcall := HC.of_pure (H := H) (n := b) hp hcv (fun o x h => hV o x (hsub o x h)) (hr.imp (fun h => h) (·.1))
    let s : St := ⟨A', H, b⟩
    -- the call, over what is known
    obtain ⟨⟨fn, code, hfn⟩, hc⟩ := hcall
    have hfx := g'.ev x
    rw [hx] at hfx
    obtain ⟨cv, hcv', hcl, hcr⟩ := hfx.fn_inv
    have hcv0 : cv = #[] := by
      have : cv.size = 0 := by simpa using hcl.symm
      exact Array.eq_empty_of_size_eq_zero this
    subst hcv0
    let vs : Array Value := args.map act.eval
    have hrun : (execOp act.eval o).run P c.w = .ok (.enter f vs) c.w := by
      simp only [execOp, ho, resolve, hcv', Deferred.ofValue, Sem.run_bind, Sem.run_pure, Result.andThen_ok, invoke, callFunc, run_program, hfn.here, hfn.name, hfn.body, Option.isNone_some, Bool.false_eq_true, if_false, Array.empty_append, Array.append_empty]
      rfl
    unfold Oper.wp
    rw [hrun, Oper.upon_enter]
    have hrel : VRels c false (args.toList.map (evA A')) vs := by
      refine ⟨by simp [vs], fun i a v ha hv => ?_⟩
      rw [List.getElem?_map] at ha
      simp only [vs, Array.getElem?_map] at hv
      cases hq : args[i]? with
      | none => simp [hq] at hv
      | some q =>
        have hq' : args.toList[i]? = some q := by simpa using hq
        simp only [hq', Option.map_some, Option.some.injEq] at ha
        simp only [hq, Option.map_some, Option.some.injEq] at hv
        subst ha hv
        exact g'.ev q
    have hoks : ∀ a ∈ args.toList.map (evA A'), a.Ok (· < b) := by
      intro a ha
      obtain ⟨q, _, rfl⟩ := List.mem_map.1 ha
      exact (g'.evOk q).mono hM
    refine (hc c vs (g.inv.more hM) g.solo hrel hoks).mono ?_
    rintro e w' ⟨v, r', H', n', c', ⟨rfl, rfl, rfl⟩, rfl, rfl, hle, hsa, hso, hfr, hown, hI, hs, hn, hv, hok⟩
    have hrefs : r'.Ok M := by
      rcases hr with h1 | h1
      · exact h1.ok M
      · exact h1.2 M
    refine hK c' v (g.next hd (hle.weaken hM) hsa hso hfr hown ?_ hs (fun q => .inl) hv (hrefs.mono fun q h => .inl h))
    refine ⟨fun o x hx => ?_, hI.sep, hI.stab, hI.lt, hI.base, hI.own, hI.low⟩
    obtain ⟨h1, _, h3⟩ := g.inv.obj o x hx
    exact ⟨.inl h1, (hI.obj o x hx).2.1, fun e he a ha => (h3 e he a ha).mono fun q h => .inl h⟩
end
end Go.Av
