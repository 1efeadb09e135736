/- Calls. -/
import Derived.Test.YtioookhnoobpgaaAvCode2
namespace Go.Av

structure VRels (c : Ctx) (d : Bool) (as : List AV) (vs : Array Value) : Prop where
  len : as.length = vs.size
  rel : ∀ (i : Nat) a v, as[i]? = some a → vs[i]? = some v → VRel c d a v

/-- A function that has a body. -/
structure FnOk (P : Program) (f : Nat) (fn : Func) (code : Code) : Prop where
  here : P.funcs[f]? = some fn
  name : (fn.name == "runtime.NumGoroutine") = false
  body : fn.body = some code

def HC (P : Program) (f : Nat) (as : List AV) (H : Heap) (n : Nat) (K : AV → Heap → Nat → Prop) : Prop :=
  (∃ fn code, FnOk P f fn code) ∧
  ∀ (c : Ctx) (vs : Array Value), Inv c H (· < n) → (∀ o x, H o = some x → x.solo = true ∧ x.spent = false) → VRels c false as vs → (∀ a ∈ as, a.Ok (· < n)) →
    Calls P f vs c.w fun e w' => ∃ v r H' n' c', K r H' n' ∧ e = .returned v ∧ c'.w = w' ∧ c.Le (· < n) c' ∧ c'.Sa = c.Sa ∧ (∀ b, c'.So b → c.So b ∨ c.w.heap.size ≤ b) ∧
      Fr c H w' ∧ OwnRel c H c' H' ∧ Inv c' H' (· < n') ∧ (∀ o x, H' o = some x → x.solo = true ∧ x.spent = false) ∧ n ≤ n' ∧ VRel c' false r v ∧ r.Ok (· < n')

theorem HC.mono {P : Program} {f : Nat} {as : List AV} {H : Heap} {n : Nat} {K K' : AV → Heap → Nat → Prop} (h : HC P f as H n K) (hk : ∀ r H n, K r H n → K' r H n) : HC P f as H n K' :=
  ⟨h.1, fun c vs hI hs hv ho => (h.2 c vs hI hs hv ho).mono fun _ _ ⟨v, r, H', n', c', h1, rest⟩ => ⟨v, r, H', n', c', hk _ _ _ h1, rest⟩⟩

section
variable {P : Program} {nt n0 : Nat} {s : St}

theorem OpR.call {o : Oper} {x : Operand} {args : Array Operand} {ts : Array Nat} {f : Nat} {caps : List AV} {K : AV → Heap → Nat → Prop}
    (ho : o.op = .call { callee := .value x, args := args, argTypes := ts }) (hx : evA s.A x = .fn f caps) (h : HC P f (args.toList.map (evA s.A) ++ caps) s.H s.n K) : OpR P nt o s K := by
  intro c0 H0 n0 c act g Kc Q hK
  have hfx := g.ev x
  rw [hx] at hfx
  have hfo := g.evOk x
  rw [hx] at hfo
  obtain ⟨cv, hcv, hcl, hcr⟩ := hfx.fn_inv
  obtain ⟨⟨fn, code, hfn⟩, hcall⟩ := h
  let vs : Array Value := args.map act.eval ++ cv
  have hrun : (execOp act.eval o).run P c.w = .ok (.enter f vs) c.w := by
    simp only [execOp, ho, resolve, hcv, Deferred.ofValue, Sem.run_bind, Sem.run_pure, Result.andThen_ok, invoke, callFunc, run_program, hfn.here, hfn.name, hfn.body, Option.isNone_some, Bool.false_eq_true, if_false, Array.empty_append]
    rfl
  unfold Oper.wp
  rw [hrun, Oper.upon_enter]
  have hrel : VRels c false (args.toList.map (evA s.A) ++ caps) vs := by
    refine ⟨by simp [vs, hcl], fun i a v ha hv => ?_⟩
    rw [List.getElem?_append] at ha
    simp only [vs, Array.getElem?_append, Array.size_map] at hv
    simp only [List.length_map, Array.length_toList] at ha
    by_cases hi : i < args.size
    · rw [if_pos hi] at ha hv
      rw [List.getElem?_map] at ha
      rw [Array.getElem?_map] at hv
      cases hq : args[i]? with
      | none => simp [hq] at hv
      | some q =>
        have hq' : args.toList[i]? = some q := by simpa using hq
        simp only [hq', Option.map_some, Option.some.injEq] at ha
        simp only [hq, Option.map_some, Option.some.injEq] at hv
        subst ha hv
        exact g.ev q
    · rw [if_neg hi] at ha hv
      exact hcr _ a v ha hv
  have hoks : ∀ a ∈ args.toList.map (evA s.A) ++ caps, a.Ok (· < s.n) := by
    intro a ha
    rcases List.mem_append.1 ha with ha | ha
    · obtain ⟨q, _, rfl⟩ := List.mem_map.1 ha; exact g.evOk q
    · cases hfo with | fn hfo => exact hfo a ha
  refine (hcall c vs g.inv g.solo hrel hoks).mono ?_
  rintro e w' ⟨v, r, H', n', c', hk, rfl, rfl, hle, hsa, hso, hfr, hown, hI, hs, hn, hv, hok⟩
  exact hK c' r H' n' v hk fun dst hd => g.next hd hle hsa hso hfr hown hI hs hn hv hok

/-- The value of a result variable. -/
inductive ResR (T : Ty) (s : St) : ResultVar → AV → Prop
  | tmp {t} : ResR T s (.tmp t) (strip (s.A t))
  | cell {p t ti e k a} (ht : T t = some ti) (hd : Deref s.H (strip (s.A p)) e k) (hl : loadE ti e k = some a) : ResR T s (.cell p t) a

inductive ResRs (T : Ty) (s : St) : List ResultVar → List AV → Prop
  | nil : ResRs T s [] []
  | cons {r a rs as} (h : ResR T s r a) (hs : ResRs T s rs as) : ResRs T s (r :: rs) (a :: as)

def packA : List AV → AV
  | [a] => a
  | l => .tup l

theorem res_ok {T : Ty} (hT : TyOk P T) {c0 c : Ctx} {H0 : Heap} {act : Act} (g : Good nt c0 H0 n0 c s act) {fn : Func} {as : List AV} (h : ResRs T s fn.results.toList as) :
    ∃ v, (results fn act.tmps).run P c.w = .ok v c.w ∧ VRel c false (packA as) v ∧ (packA as).Ok (· < s.n) := by
  have one : ∀ r a, ResR T s r a → ∃ v, ((match r with
      | .tmp t => pure (act.tmps.getD t undef)
      | .cell p t => do loadVar t (← asAddr (act.tmps.getD p undef)) : Sem Value)).run P c.w = .ok v c.w ∧ VRel c false a v ∧ a.Ok (· < s.n) := by
    intro r a hr
    cases hr with
    | @tmp t => exact ⟨_, rfl, g.ev (.tmp t), g.evOk (.tmp t)⟩
    | @cell p t ti e k a ht hd hl =>
      obtain ⟨b, off, hx, hat⟩ := deref_ok g.inv hd (g.ev (.tmp p))
      obtain ⟨hok, v, hr, hv⟩ := load_ok hat (hT t ti ht) hl
      simp only [Act.eval] at hx
      exact ⟨v, by simp only [hx, asAddr, Sem.run_bind, Sem.run_pure, Result.andThen_ok, hr], hv, hok⟩
  have many : ∀ (rs : List ResultVar) (as : List AV), ResRs T s rs as → ∃ vs : List Value, (rs.mapM (m := Sem) fun r => (match r with
      | .tmp t => pure (act.tmps.getD t undef)
      | .cell p t => do loadVar t (← asAddr (act.tmps.getD p undef)) : Sem Value)).run P c.w = .ok vs c.w ∧ as.length = vs.length ∧ ∀ (i : Nat) a v, as[i]? = some a → vs[i]? = some v → VRel c false a v ∧ a.Ok (· < s.n) := by
    intro rs as h
    induction h with
    | nil => exact ⟨[], rfl, rfl, fun i a v ha => by simp at ha⟩
    | @cons r a rs as hr _ ih =>
      obtain ⟨v, h1, h2, h3⟩ := one r a hr
      obtain ⟨vs, h4, h5, h6⟩ := ih
      refine ⟨v :: vs, ?_, by simp [h5], fun i a' v' ha hv => ?_⟩
      · rw [List.mapM_cons]
        simp only [Sem.run_bind, h1, Result.andThen_ok, h4, Sem.run_pure]
      · cases i with
        | zero => simp at ha hv; subst ha hv; exact ⟨h2, h3⟩
        | succ i => simp at ha hv; exact h6 i a' v' ha hv
  obtain ⟨vs, h1, h2, h3⟩ := many _ _ h
  have hm : (fn.results.mapM (m := Sem) fun r => (match r with
      | .tmp t => pure (act.tmps.getD t undef)
      | .cell p t => do loadVar t (← asAddr (act.tmps.getD p undef)) : Sem Value)).run P c.w = .ok vs.toArray c.w := by
    rw [Array.mapM_eq_mapM_toList, Sem.run_map, h1]; rfl
  refine ⟨if h : vs.toArray.size = 1 then vs.toArray[0] else .tuple vs.toArray, ?_, ?_⟩
  · unfold results
    rw [Sem.run_bind]
    refine Eq.trans (congrArg (fun r => Result.andThen r _) hm) ?_
    rfl
  · by_cases hsz : vs.toArray.size = 1
    · rw [dif_pos hsz]
      have : vs.length = 1 := by simpa using hsz
      obtain ⟨v, rfl⟩ := List.length_eq_one_iff.1 this
      obtain ⟨a, rfl⟩ := List.length_eq_one_iff.1 (h2.trans this)
      exact h3 0 a v rfl rfl
    · rw [dif_neg hsz]
      have hp : packA as = .tup as := by
        cases as with
        | nil => rfl
        | cons a l => cases l with
          | nil => simp at h2 hsz; omega
          | cons b l => rfl
      rw [hp]
      refine ⟨.tup (by simpa using h2) fun i a v ha hv => (h3 i a v ha (by simpa using hv)).1, .tup fun a ha => ?_⟩
      obtain ⟨i, hi⟩ := List.getElem?_of_mem ha
      have : i < vs.length := by rw [← h2]; exact (List.getElem?_eq_some_iff.1 hi).1
      exact (h3 i a _ hi (List.getElem?_eq_getElem this)).2
end
end Go.Av
