/- Parts of the proof, laid together. -/
import Derived.Test.YtoggmnlkaphgcaaGreatDoorAva
import Derived.Below
import Derived.Carry
import Derived.ProofKit
import Derived.OpenShut
import Derived.Deep.Slices
import Derived.Scope
set_option linter.all false
namespace Go.Av
variable [Gls]
structure VRels (c : Ctx) (d : Bool) (as : List AV) (vs : Array Value) : Prop where
  len : as.length = vs.size
  rel : ∀ (i : Nat) a v, as[i]? = some a → vs[i]? = some v → VRel c d a v
structure FnOk (P : Program) (f : Nat) (fn : Func) (code : Code) : Prop where
  here : P.funcs[f]? = some fn
  name : (fn.name == "runtime.NumGoroutine") = false
  body : fn.body = some code
def HC (P : Program) (f : Nat) (as : List AV) (H : Heap) (n : Nat) (K : AV → Heap → Nat → Prop) : Prop :=
  (∃ fn code, FnOk P f fn code) ∧
  ∀ (c : Ctx) (vs : Array Value), Inv c H (· < n) → (∀ o x, H o = some x → x.solo = true ∧ x.spent = false) → VRels c false as vs → (∀ a ∈ as, a.Ok (· < n)) →
    Calls P f vs c.w fun e w' => ∃ v r H' n' c', K r H' n' ∧ e = .returned v ∧ c'.w = w' ∧ c.Le (· < n) c' ∧ c'.Sa = c.Sa ∧ (∀ b, c'.So b → c.So b ∨ c.w.heap.size ≤ b ∨ ∃ o x, H o = some x ∧ (c.ρ o).blk = b) ∧
      Fr c H w' ∧ OwnRel c H c' H' ∧ Inv c' H' (· < n') ∧ (∀ o x, H' o = some x → x.solo = true ∧ x.spent = false) ∧ n ≤ n' ∧ VRel c' false r v ∧ r.Ok (· < n')
theorem HC.mono {P : Program} {f : Nat} {as : List AV} {H : Heap} {n : Nat} {K K' : AV → Heap → Nat → Prop} (h : HC P f as H n K) (hk : ∀ r H n, K r H n → K' r H n) : HC P f as H n K' :=
  ⟨h.1, fun c vs hI hs hv ho => (h.2 c vs hI hs hv ho).mono fun _ _ ⟨v, r, H', n', c', h1, rest⟩ => ⟨v, r, H', n', c', hk _ _ _ h1, rest⟩⟩
section
variable {P : Program} {nt n0 : Nat} {s : St}
theorem OpR.call {o : Oper} {x : Operand} {args : Array Operand} {ts : Array Nat} {f : Nat} {caps : List AV} {K : AV → Heap → Nat → Prop}
    (ho : o.op = .call { callee := .value x, args := args, argTypes := ts }) (hx : evA s.A x = .fn f caps) (h : HC P f (args.toList.map (evA s.A) ++ caps) s.H s.n K) : OpR P nt o s K := by
  intro c0 H0 n0 c act g Kc Q hK R
  have hfx := g.ev x
  rw [hx] at hfx
  have hfo := g.evOk x
  rw [hx] at hfo
  obtain ⟨cv, hcv, hcl, hcr⟩ := hfx.fn_inv
  obtain ⟨⟨fn, code, hfn⟩, hcall⟩ := h
  let vs : Array Value := args.map act.eval ++ cv
  have hrun : (execOp act.eval o).run P c.w = .ok (.enter f vs) c.w := by
    simp only [execOp, ho, resolve, hcv, Deferred.ofValue, Sem.run_bind, Sem.run_pure, Result.andThen_ok, invoke, callFunc, run_program, hfn.here, hfn.name, hfn.body, Option.isNone_some, Bool.false_eq_true, if_false, Array.empty_append]
    rfl
  refine Oper.wpR (fun d hd => by rw [hd] at ho; cases ho) ?_
  unfold Oper.wp
  rw [hrun, Oper.upon_enter]
  have hrel : VRels c false (args.toList.map (evA s.A) ++ caps) vs := by
    refine ⟨by simp [vs, hcl], fun i a v ha hv => ?_⟩
    rw [List.getElem?_append] at ha
    simp only [vs, Array.getElem?_append, Array.size_map] at hv
    simp only [List.length_map, Array.length_toList] at ha
    by_cases hi : i < args.size
    · rw [if_pos hi] at ha hv
      rw [List.getElem?_map] at ha
      rw [Array.getElem?_map] at hv
      cases hq : args[i]? with
      | none => simp [hq] at hv
      | some q =>
        have hq' : args.toList[i]? = some q := by simpa using hq
        simp only [hq', Option.map_some, Option.some.injEq] at ha
        simp only [hq, Option.map_some, Option.some.injEq] at hv
        subst ha hv
        exact g.ev q
    · rw [if_neg hi] at ha hv
      exact hcr _ a v ha hv
  have hoks : ∀ a ∈ args.toList.map (evA s.A) ++ caps, a.Ok (· < s.n) := by
    intro a ha
    rcases List.mem_append.1 ha with ha | ha
    · obtain ⟨q, _, rfl⟩ := List.mem_map.1 ha; exact g.evOk q
    · cases hfo with | fn hfo => exact hfo a ha
  refine (hcall c vs g.inv g.solo hrel hoks).mono ?_
  rintro e w' ⟨v, r, H', n', c', hk, rfl, rfl, hle, hsa, hso, hfr, hown, hI, hs, hn, hv, hok⟩
  exact hK c' r H' n' v hk fun dst hd => g.next hd hle hsa hso hfr hown hI hs hn hv hok
theorem OpR.callM {o : Oper} {x : Operand} {args : Array Operand} {ts : Array Nat} {f : Nat} {ra : AV} {K : AV → Heap → Nat → Prop}
    (ho : o.op = .call { callee := .value x, args := args, argTypes := ts }) (hx : evA s.A x = .mv f ra) (h : HC P f (ra :: args.toList.map (evA s.A)) s.H s.n K) : OpR P nt o s K := by
  intro c0 H0 n0 c act g Kc Q hK R
  have hfx := g.ev x
  rw [hx] at hfx
  have hfo := g.evOk x
  rw [hx] at hfo
  have hru : ∃ u, act.eval x = .func (.func f) #[u] #[] ∧ VRel c false ra u := by
    generalize act.eval x = q at hfx
    cases hfx with | mv h => exact ⟨_, rfl, h⟩
  obtain ⟨u, hcv, hru⟩ := hru
  have hro : ra.Ok (· < s.n) := by cases hfo with | mv h => exact h
  obtain ⟨⟨fn, code, hfn⟩, hcall⟩ := h
  let vs : Array Value := #[u] ++ args.map act.eval
  have hrun : (execOp act.eval o).run P c.w = .ok (.enter f vs) c.w := by
    simp only [execOp, ho, resolve, hcv, Deferred.ofValue, Sem.run_bind, Sem.run_pure, Result.andThen_ok, invoke, callFunc, run_program, hfn.here, hfn.name, hfn.body, Option.isNone_some, Bool.false_eq_true, if_false, Array.append_empty]
    rfl
  refine Oper.wpR (fun d hd => by rw [hd] at ho; cases ho) ?_
  unfold Oper.wp
  rw [hrun, Oper.upon_enter]
  have hrel : VRels c false (ra :: args.toList.map (evA s.A)) vs := by
    refine ⟨by simp [vs]; omega, fun i a v ha hv => ?_⟩
    cases i with
    | zero =>
      have hv' : vs[0]? = some u := by simp only [vs]; rw [Array.getElem?_append_left (by simp)]; rfl
      rw [hv'] at hv
      simp only [List.getElem?_cons_zero, Option.some.injEq] at ha hv
      subst ha hv; exact hru
    | succ i =>
      have hv' : (args.map act.eval)[i]? = some v := by
        simp only [vs] at hv
        rw [Array.getElem?_append_right (by simp)] at hv
        simpa using hv
      simp only [List.getElem?_cons_succ] at ha
      rw [List.getElem?_map] at ha
      rw [Array.getElem?_map] at hv'
      cases hq : args[i]? with
      | none => simp [hq] at hv'
      | some q =>
        have hq' : args.toList[i]? = some q := by simpa using hq
        simp only [hq', Option.map_some, Option.some.injEq] at ha
        simp only [hq, Option.map_some, Option.some.injEq] at hv'
        subst ha hv'
        exact g.ev q
  have hoks : ∀ a ∈ ra :: args.toList.map (evA s.A), a.Ok (· < s.n) := by
    intro a ha
    rcases List.mem_cons.1 ha with rfl | ha
    · exact hro
    · obtain ⟨q, _, rfl⟩ := List.mem_map.1 ha; exact g.evOk q
  refine (hcall c vs g.inv g.solo hrel hoks).mono ?_
  rintro e w' ⟨v, r, H', n', c', hk, rfl, rfl, hle, hsa, hso, hfr, hown, hI, hs, hn, hv, hok⟩
  exact hK c' r H' n' v hk fun dst hd => g.next hd hle hsa hso hfr hown hI hs hn hv hok
inductive ResR (T : Ty) (s : St) : ResultVar → AV → Prop
  | tmp {t} : ResR T s (.tmp t) (strip (s.A t))
  | cell {p t ti e k a} (ht : T t = some ti) (hd : Deref s.H (strip (s.A p)) e k) (hl : loadE ti e k = some a) : ResR T s (.cell p t) a
inductive ResRs (T : Ty) (s : St) : List ResultVar → List AV → Prop
  | nil : ResRs T s [] []
  | cons {r a rs as} (h : ResR T s r a) (hs : ResRs T s rs as) : ResRs T s (r :: rs) (a :: as)
def packA : List AV → AV
  | [a] => a
  | l => .tup l
theorem res_ok {T : Ty} (hT : TyOk P T) {c0 c : Ctx} {H0 : Heap} {act : Act} (g : Good nt c0 H0 n0 c s act) {fn : Func} {as : List AV} (h : ResRs T s fn.results.toList as) :
    ∃ v, (results fn act.tmps).run P c.w = .ok v c.w ∧ VRel c false (packA as) v ∧ (packA as).Ok (· < s.n) := by
  have one : ∀ r a, ResR T s r a → ∃ v, ((match r with
      | .tmp t => pure (act.tmps.getD t undef)
      | .cell p t => do loadVar t (← asAddr (act.tmps.getD p undef)) : Sem Value)).run P c.w = .ok v c.w ∧ VRel c false a v ∧ a.Ok (· < s.n) := by
    intro r a hr
    cases hr with
    | @tmp t => exact ⟨_, rfl, g.ev (.tmp t), g.evOk (.tmp t)⟩
    | @cell p t ti e k a ht hd hl =>
      obtain ⟨b, off, hx, hat⟩ := deref_ok g.inv hd (g.ev (.tmp p))
      obtain ⟨hok, v, hr, hv⟩ := load_ok hat (hT t ti ht) hl
      simp only [Act.eval] at hx
      exact ⟨v, by simp only [hx, asAddr, Sem.run_bind, Sem.run_pure, Result.andThen_ok, hr], hv, hok⟩
  have many : ∀ (rs : List ResultVar) (as : List AV), ResRs T s rs as → ∃ vs : List Value, (rs.mapM (m := Sem) fun r => (match r with
      | .tmp t => pure (act.tmps.getD t undef)
      | .cell p t => do loadVar t (← asAddr (act.tmps.getD p undef)) : Sem Value)).run P c.w = .ok vs c.w ∧ as.length = vs.length ∧ ∀ (i : Nat) a v, as[i]? = some a → vs[i]? = some v → VRel c false a v ∧ a.Ok (· < s.n) := by
    intro rs as h
    induction h with
    | nil => exact ⟨[], rfl, rfl, fun i a v ha => by simp at ha⟩
    | @cons r a rs as hr _ ih =>
      obtain ⟨v, h1, h2, h3⟩ := one r a hr
      obtain ⟨vs, h4, h5, h6⟩ := ih
      refine ⟨v :: vs, ?_, by simp [h5], fun i a' v' ha hv => ?_⟩
      · rw [List.mapM_cons]
        simp only [Sem.run_bind, h1, Result.andThen_ok, h4, Sem.run_pure]
      · cases i with
        | zero => simp at ha hv; subst ha hv; exact ⟨h2, h3⟩
        | succ i => simp at ha hv; exact h6 i a' v' ha hv
  obtain ⟨vs, h1, h2, h3⟩ := many _ _ h
  have hm : (fn.results.mapM (m := Sem) fun r => (match r with
      | .tmp t => pure (act.tmps.getD t undef)
      | .cell p t => do loadVar t (← asAddr (act.tmps.getD p undef)) : Sem Value)).run P c.w = .ok vs.toArray c.w := by
    rw [Array.mapM_eq_mapM_toList, Sem.run_map, h1]; rfl
  refine ⟨if h : vs.toArray.size = 1 then vs.toArray[0] else .tuple vs.toArray, ?_, ?_⟩
  · unfold results
    rw [Sem.run_bind]
    refine Eq.trans (congrArg (fun r => Result.andThen r _) hm) ?_
    rfl
  · by_cases hsz : vs.toArray.size = 1
    · rw [dif_pos hsz]
      have : vs.length = 1 := by simpa using hsz
      obtain ⟨v, rfl⟩ := List.length_eq_one_iff.1 this
      obtain ⟨a, rfl⟩ := List.length_eq_one_iff.1 (h2.trans this)
      exact h3 0 a v rfl rfl
    · rw [dif_neg hsz]
      have hp : packA as = .tup as := by
        cases as with
        | nil => rfl
        | cons a l => cases l with
          | nil => simp at h2 hsz; omega
          | cons b l => rfl
      rw [hp]
      refine ⟨.tup (by simpa using h2) fun i a v ha hv => (h3 i a v ha (by simpa using hv)).1, .tup fun a ha => ?_⟩
      obtain ⟨i, hi⟩ := List.getElem?_of_mem ha
      have : i < vs.length := by rw [← h2]; exact (List.getElem?_eq_some_iff.1 hi).1
      exact (h3 i a _ hi (List.getElem?_eq_getElem this)).2
end
end Go.Av

namespace Go.Av
variable [Gls]
def argA (as : List AV) : Nat → AV := fun t => (as[t]?).getD (.sc undef)
def retQ (T : Ty) (fn : Func) (K : AV → Heap → Nat → Prop) : AExit → St → Prop
  | .exit _, _ => False
  | _, s => ∃ rs, ResRs T s fn.results.toList rs ∧ K (packA rs) s.H s.n
theorem frame_args {c : Ctx} {d : Bool} {as : List AV} {vs : Array Value} (h : VRels c d as vs) (m : Nat) (t : Nat) : VRel c false (argA as t) ((vs ++ Array.replicate m undef).getD t undef) := by
  unfold argA
  by_cases ht : t < vs.size
  · have ht' : t < as.length := by rw [h.len]; exact ht
    rw [List.getElem?_eq_getElem ht']
    have : (vs ++ Array.replicate m undef).getD t undef = vs[t] := by
      simp only [Array.getD_eq_getD_getElem?, Array.getElem?_append_left ht, Array.getElem?_eq_getElem ht, Option.getD_some]
    rw [this]
    exact (h.rel t _ _ (List.getElem?_eq_getElem ht') (Array.getElem?_eq_getElem ht)).shallow
  · have ht' : as[t]? = none := by rw [List.getElem?_eq_none_iff, h.len]; omega
    rw [ht']
    have : (vs ++ Array.replicate m undef).getD t undef = undef := by
      simp only [Array.getD_eq_getD_getElem?, Array.getElem?_append_right (Nat.le_of_not_lt ht), Array.getElem?_replicate]
      split <;> rfl
    rw [this]
    exact .sc
theorem argA_ok {M : Nat → Prop} {as : List AV} (h : ∀ a ∈ as, a.Ok M) (t : Nat) : (argA as t).Ok M := by
  unfold argA
  cases hq : as[t]? with
  | none => exact .sc
  | some a => exact h a (List.mem_of_getElem? hq)
theorem Reach.le {c0 c : Ctx} {H0 H : Heap} {n0 : Nat} (r : Reach c0 H0 n0 c H) : c0.Le (· < n0) c :=
  ⟨r.rho, fun b hb => by rw [r.sa]; exact hb, r.so1, r.stable, r.B⟩
theorem Reach.fr {c0 c : Ctx} {H0 H : Heap} {n0 : Nat} (r : Reach c0 H0 n0 c H) : Fr c0 H0 c.w := ⟨r.os, r.tape, r.output, r.size, r.block⟩
section
variable {P : Program} {T : Ty}
theorem HC.of_body (hT : TyOk P T) {f : Nat} {fn : Func} {code : Code} (hfn : FnOk P f fn code) {as : List AV} {H : Heap} {n nt : Nat} {K : AV → Heap → Nat → Prop} (hnt : fn.ntmps = nt)
    (hle : as.length ≤ nt) (h : SemC P nt n code (retQ T fn K) ⟨argA as, H, n⟩) : HC P f as H n K := by
  refine ⟨⟨fn, code, hfn⟩, fun c vs hI hs hv ho => ?_⟩
  refine calls_of_wp hfn.here hfn.body ?_
  have g : Good nt c H n c ⟨argA as, H, n⟩ { tmps := vs ++ Array.replicate (fn.ntmps - vs.size) undef, defers := [] } := by
    refine ⟨hI, hs, fun t => frame_args hv _ t, fun t => argA_ok ho t, ?_, .refl c H n, Nat.le_refl _⟩
    have := hv.len
    simp only [Array.size_append, Array.size_replicate]; omega
  refine Code.wp_mono ?_ (wpR_none.1 (h c H c _ g none .none))
  rintro e a w ⟨c', s, ae, rfl, g', hds, rfl, hq⟩
  cases ae with
  | exit id => exact hq.elim
  | normal =>
    obtain ⟨rs, hrs, hk⟩ := hq
    obtain ⟨v, h1, h2, h3⟩ := res_ok hT g' hrs
    exact ⟨hds, v, h1, v, _, s.H, s.n, c', hk, rfl, rfl, g'.reach.le, g'.reach.sa, g'.reach.so2, g'.reach.fr, g'.reach.own, g'.inv, g'.solo, g'.le0, h2, h3⟩
  | ret =>
    obtain ⟨rs, hrs, hk⟩ := hq
    obtain ⟨v, h1, h2, h3⟩ := res_ok hT g' hrs
    exact ⟨hds, v, h1, v, _, s.H, s.n, c', hk, rfl, rfl, g'.reach.le, g'.reach.sa, g'.reach.so2, g'.reach.fr, g'.reach.own, g'.inv, g'.solo, g'.le0, h2, h3⟩
end
inductive Cv (m : Bool) (H : Heap) : AV → AV → Prop
  | sc {v} : Cv m H (.sc v) (.sc v)
  | nils : Cv m H .nils (.list m [])
  | nils0 : Cv m H .nils .nils
  | agg {cs cs' : List AV} (hl : cs.length = cs'.length) (h : ∀ (i : Nat) a b, cs[i]? = some a → cs'[i]? = some b → Cv m H a b) : Cv m H (.agg cs) (.agg cs')
  | tup {cs cs' : List AV} (hl : cs.length = cs'.length) (h : ∀ (i : Nat) a b, cs[i]? = some a → cs'[i]? = some b → Cv m H a b) : Cv m H (.tup cs) (.tup cs')
  | listS {own es} (hm : m = true) : Cv m H (.list own es) (.list own es)
  | listD {own} {es es' : List AV} (hm : m = false) (hl : es.length = es'.length) (hc : ∀ (i : Nat) e e', es[i]? = some e → es'[i]? = some e' → e.cells.length = e'.cells.length)
      (h : ∀ (i : Nat) e e' (k : Nat) a b, es[i]? = some e → es'[i]? = some e' → e.cells[k]? = some a → e'.cells[k]? = some b → Cv m H a b) : Cv m H (.list own es) (.list false es')
  | fn0 {f} : Cv m H (.fn f []) (.fn f [])
  | weak {a es} (h : Cv m H a (.list true es)) : Cv m H a (.list false es)
  | ref {o off len x} {es' : List AV} (hH : H o = some x) (hle : off + len ≤ x.es.length) (hl : es'.length = len)
      (hc : ∀ (i : Nat) e e', x.es[off + i]? = some e → es'[i]? = some e' → e.cells.length = e'.cells.length)
      (h : ∀ (i : Nat) e e' (k : Nat) a b, x.es[off + i]? = some e → es'[i]? = some e' → e.cells[k]? = some a → e'.cells[k]? = some b → Cv m H a b) : Cv m H (.ref o off len) (.list m es')
  | ptrL {o i k x} {e e' : AV} (hm : m = false) (hH : H o = some x) (he : x.es[i]? = some e) (hc : e.cells.length = e'.cells.length)
      (h : ∀ (k : Nat) a b, e.cells[k]? = some a → e'.cells[k]? = some b → Cv m H a b) : Cv m H (.ptr o i k) (.elem false e' k)
  | elemD {own k} {e e' : AV} (hm : m = false) (hc : e.cells.length = e'.cells.length)
      (h : ∀ (k : Nat) a b, e.cells[k]? = some a → e'.cells[k]? = some b → Cv m H a b) : Cv m H (.elem own e k) (.elem false e' k)
theorem VRel.deep {c c' : Ctx} (hS : ∀ own b, c.S own b → c'.S own b) (hh : ∀ own b, c.S own b → c'.w.heap[b]? = c.w.heap[b]?) {d : Bool} {a : AV} {v : Value} (h : VRel c d a v) : d = true → VRel c' true a v := by
  have hcell : ∀ {own b off v}, c.S own b → c.w.cell? ⟨b, off, none⟩ = some v → c'.w.cell? ⟨b, off, none⟩ = some v := by
    intro own b off v hs hv
    rw [World.cell?_of_block (a := ⟨b, off, none⟩) (hh own b hs)]; exact hv
  induction h with
  | junk => intro h; cases h
  | sc => intro _; exact .sc
  | nils => intro _; exact .nils
  | agg hl h1 h ih => intro hd; exact .agg hl h1 fun i a v ha hv => by subst hd; exact ih i a v ha hv rfl
  | tup hl h ih => intro hd; exact .tup hl fun i a v ha hv => by subst hd; exact ih i a v ha hv rfl
  | listNil => intro _; exact .listNil
  | list vf hne hS' hn hcap hsz hc h1 h ih =>
    intro _
    exact .list vf hne (hS _ _ hS') hn hcap hsz (fun i e k a he ha => hcell hS' (hc i e k a he ha)) h1 (fun i e k a he ha => ih i e k a he ha rfl)
  | ref => intro h; cases h
  | ptr => intro h; cases h
  | elem vf hS' hcell' h1 h ih => intro _; exact .elem vf (hS _ _ hS') (fun k a ha => hcell hS' (hcell' k a ha)) h1 (fun k a ha => ih k a ha rfl)
  | @fn d f caps vs hf hl h ih => intro hd; have := hf hd; subst this; exact .fn (fun _ => rfl) hl fun i a v ha hv => by simp at ha
  | cond => intro h; cases h
  | mref => intro h; cases h
  | mv => intro h; cases h
theorem Ctx.S_of_or {c : Ctx} {b : Nat} (h : c.Sa b ∨ c.So b) : c.S false b := h.imp (fun x => ⟨rfl, x⟩) id
theorem cv_ok {m : Bool} {H : Heap} {c c' : Ctx} {M : Nat → Prop} (hI : Inv c H M) (hw : c'.w = c.w) (hsa : ∀ b, c.Sa b ∨ c.So b → c'.S false b) (hso : m = true → ∀ b, c.So b → c'.So b)
    (hob : ∀ o x, H o = some x → c'.S m (c.ρ o).blk) {a b : AV} (h : Cv m H a b) : ∀ {v : Value}, VRel c false a v → VRel c' true b v := by
  induction h with
  | sc => intro v hv; rw [hv.sc_inv]; exact .sc
  | nils => intro v hv; obtain ⟨p, rfl⟩ := hv.nils_inv; exact .listNil
  | nils0 => intro v hv; obtain ⟨p, rfl⟩ := hv.nils_inv; exact .nils
  | fn0 => intro v hv; obtain ⟨vs, rfl, hl, _⟩ := hv.fn_inv; exact .fn (fun _ => rfl) hl fun i a v ha _ => by simp at ha
  | weak h ih =>
    intro v hv
    have := ih hv
    cases this with
    | listNil => exact .listNil
    | list vf hne hS hn hcap hsz hc h1 hr => exact .list vf hne (.inr (hS.resolve_left fun h => by cases h.1)) hn hcap hsz hc h1 hr
  | @agg cs cs' hl h ih =>
    intro v hv
    cases hv with
    | agg hvl h1 hr =>
      refine .agg (by rw [← hl]; exact hvl) h1 fun i b v hb hv => ?_
      have hlt : i < cs.length := by rw [hl]; exact (List.getElem?_eq_some_iff.1 hb).1
      have ha := List.getElem?_eq_getElem hlt
      exact ih i _ b ha hb (hr i _ v ha hv)
  | @tup cs cs' hl h ih =>
    intro v hv
    cases hv with
    | tup hvl hr =>
      refine .tup (by rw [← hl]; exact hvl) fun i b v hb hv => ?_
      have hlt : i < cs.length := by rw [hl]; exact (List.getElem?_eq_some_iff.1 hb).1
      have ha := List.getElem?_eq_getElem hlt
      exact ih i _ b ha hb (hr i _ v ha hv)
  | @listS own es hm =>
    intro v hv
    subst hm
    have hS : ∀ own b, c.S own b → c'.S own b := by
      intro own b hb
      cases own with
      | false => exact hsa b (Ctx.S_or hb)
      | true => rcases hb with ⟨h, _⟩ | hb
                · cases h
                · exact .inr (hso rfl b hb)
    have hh : ∀ own b, c.S own b → c'.w.heap[b]? = c.w.heap[b]? := fun _ _ _ => by rw [hw]
    cases hv with
    | listNil => exact .listNil
    | list vf hne hS' hn hcap hsz hc h1 hr => exact .list vf hne (hS _ _ hS') hn hcap hsz (fun i e k a he ha => by rw [hw]; exact hc i e k a he ha) h1 (fun i e k a he ha => (hr i e k a he ha).deep hS hh rfl)
  | @listD own es es' hm hl hc h ih =>
    intro v hv
    cases hv with
    | listNil =>
      have : es' = [] := List.eq_nil_of_length_eq_zero (by rw [← hl]; rfl)
      subst this; exact .listNil
    | @list _ _ _ _ _ _ esz _ vf hne hS' hn hcap hsz hcell h1 hr =>
      have hget : ∀ (i : Nat) e', es'[i]? = some e' → ∃ e, es[i]? = some e ∧ e.cells.length = e'.cells.length := by
        intro i e' he'
        have hlt : i < es.length := by rw [hl]; exact (List.getElem?_eq_some_iff.1 he').1
        exact ⟨_, List.getElem?_eq_getElem hlt, hc i _ e' (List.getElem?_eq_getElem hlt) he'⟩
      have hcellk : ∀ (i : Nat) e' (k : Nat) b, es'[i]? = some e' → e'.cells[k]? = some b → ∃ e a, es[i]? = some e ∧ e.cells[k]? = some a ∧ Cv m H a b := by
        intro i e' k b he' hb
        obtain ⟨e, he, hlen⟩ := hget i e' he'
        have hlt : k < e.cells.length := by rw [hlen]; exact (List.getElem?_eq_some_iff.1 hb).1
        exact ⟨e, _, he, List.getElem?_eq_getElem hlt, h i e e' k _ b he he' (List.getElem?_eq_getElem hlt) hb⟩
      refine .list (esz := esz) vf (fun h0 => hne (List.eq_nil_of_length_eq_zero (by rw [hl, h0]; rfl))) (hsa _ (Ctx.S_or hS')) (by rw [← hl]; exact hn) (by rw [← hl]; exact hcap) ?_ ?_ ?_ ?_
      · intro i e' he'
        obtain ⟨e, he, hlen⟩ := hget i e' he'
        rw [← hlen]; exact hsz i e he
      · intro i e' k b he' hb
        obtain ⟨e, a, he, ha, _⟩ := hcellk i e' k b he' hb
        rw [hw]; exact hcell i e k a he ha
      · intro i e' k b he' hb
        obtain ⟨e, a, he, ha, _⟩ := hcellk i e' k b he' hb
        exact h1 i e k a he ha
      · intro i e' k b he' hb
        obtain ⟨e, he, hlen⟩ := hget i e' he'
        have hlt : k < e.cells.length := by rw [hlen]; exact (List.getElem?_eq_some_iff.1 hb).1
        exact ih i e e' k _ b he he' (List.getElem?_eq_getElem hlt) hb (hr i e k _ he (List.getElem?_eq_getElem hlt)).shallow
  | @ref o off len x es' hH hle hl hc h ih =>
    intro v hv
    obtain ⟨rfl, hcapl⟩ := hv.ref_inv
    obtain ⟨hM, ⟨⟨cur, hb, hsz, hcc⟩, hf, hp, hs⟩, hok⟩ := hI.obj o x hH
    have hget : ∀ (i : Nat) e', es'[i]? = some e' → ∃ e, x.es[off + i]? = some e ∧ e.cells.length = e'.cells.length := by
      intro i e' he'
      have hlt : off + i < x.es.length := by have := (List.getElem?_eq_some_iff.1 he').1; omega
      exact ⟨_, List.getElem?_eq_getElem hlt, hc i _ e' (List.getElem?_eq_getElem hlt) he'⟩
    have hcellk : ∀ (i : Nat) e' (k : Nat) b, es'[i]? = some e' → e'.cells[k]? = some b → ∃ e a v, x.es[off + i]? = some e ∧ e.cells[k]? = some a ∧ cur[(off + i) * (c.ρ o).esz + k]? = some v ∧ VRel c false a v ∧ v.oneCell' = true := by
      intro i e' k b he' hb'
      obtain ⟨e, he, hlen⟩ := hget i e' he'
      have hlt : k < e.cells.length := by rw [hlen]; exact (List.getElem?_eq_some_iff.1 hb').1
      obtain ⟨v, h1, h2, h3⟩ := (hcc _ e he).2 k _ (List.getElem?_eq_getElem hlt)
      exact ⟨e, _, v, he, List.getElem?_eq_getElem hlt, h1, h2, h3⟩
    by_cases hne : es' = []
    · subst hne
      have : len = 0 := by simpa using hl.symm
      subst this
      exact .listNil
    · refine .list (esz := (c.ρ o).esz) (fun i k => (cur[(off + i) * (c.ρ o).esz + k]?).getD undef) hne (hob o x hH) hl.symm (by rw [hl]; omega) ?_ ?_ ?_ ?_
      · intro i e' he'
        obtain ⟨e, he, hlen⟩ := hget i e' he'
        rw [← hlen]; exact (hcc _ e he).1
      · intro i e' k b he' hb'
        obtain ⟨e, a, v, _, _, hv, _⟩ := hcellk i e' k b he' hb'
        rw [hw, cell_of_row _ _ _ _ _ _ hb, ← Nat.add_mul, hv]; rfl
      · intro i e' k b he' hb'
        obtain ⟨e, a, v, _, _, hv, _, h3⟩ := hcellk i e' k b he' hb'
        rw [hv]; exact h3
      · intro i e' k b he' hb'
        obtain ⟨e, a, v, he, ha, hv, hr, _⟩ := hcellk i e' k b he' hb'
        rw [hv]
        exact ih i e e' k a b he he' ha hb' hr
  | @ptrL o i k x e e' hm hH he hl h ih =>
    intro v hv
    obtain rfl := hv.ptr_inv
    obtain ⟨hM, ⟨⟨cur, hb, hsz, hcc⟩, hf, hp, hs⟩, hok⟩ := hI.obj o x hH
    obtain ⟨g1, g2⟩ := hcc i e he
    have hcellk : ∀ (k : Nat) b, e'.cells[k]? = some b → ∃ a v, e.cells[k]? = some a ∧ cur[i * (c.ρ o).esz + k]? = some v ∧ VRel c false a v ∧ v.oneCell' = true := by
      intro k b hb'
      have hlt : k < e.cells.length := by rw [hl]; exact (List.getElem?_eq_some_iff.1 hb').1
      obtain ⟨v, h1, h2, h3⟩ := g2 k _ (List.getElem?_eq_getElem hlt)
      exact ⟨_, v, List.getElem?_eq_getElem hlt, h1, h2, h3⟩
    have hSb := hob o x hH
    rw [hm] at hSb
    refine .elem (fun k => (cur[i * (c.ρ o).esz + k]?).getD undef) hSb ?_ ?_ ?_
    · intro k b hb'
      obtain ⟨a, v, _, hv, _⟩ := hcellk k b hb'
      rw [hw, cell_of_row _ _ _ _ _ _ hb, hv]; rfl
    · intro k b hb'
      obtain ⟨a, v, _, hv, _, h3⟩ := hcellk k b hb'
      rw [hv]; exact h3
    · intro k b hb'
      obtain ⟨a, v, ha, hv, hr, _⟩ := hcellk k b hb'
      rw [hv]
      exact ih k a b ha hb' hr
  | @elemD own k e e' hm hl h ih =>
    intro v hv
    cases hv with
    | elem vf hS hcell h1 hr =>
      have hget : ∀ (k : Nat) b, e'.cells[k]? = some b → ∃ a, e.cells[k]? = some a := by
        intro k b hb'
        have hlt : k < e.cells.length := by rw [hl]; exact (List.getElem?_eq_some_iff.1 hb').1
        exact ⟨_, List.getElem?_eq_getElem hlt⟩
      refine .elem vf (hsa _ (Ctx.S_or hS)) (fun k b hb' => ?_) (fun k b hb' => ?_) (fun k b hb' => ?_)
      · obtain ⟨a, ha⟩ := hget k b hb'; rw [hw]; exact hcell k a ha
      · obtain ⟨a, ha⟩ := hget k b hb'; exact h1 k a ha
      · obtain ⟨a, ha⟩ := hget k b hb'; exact ih k a b ha hb' (hr k a ha).shallow
end Go.Av

namespace Go.Av
variable [Gls]
theorem Good.frz {nt n0 : Nat} {c0 c : Ctx} {H0 : Heap} {A : Nat → AV} {H : Heap} {n o : Nat} {act : Act} {y : Obj} (g : Good nt c0 H0 n0 c ⟨A, H, n⟩ act) (hy : H o = some y) (hf : ∀ e ∈ y.es, ∀ a ∈ e.cells, ∃ v, a = .sc v) :
    ∃ c', c'.w = c.w ∧ Good nt c0 H0 n0 c' ⟨A, upd H o none, n⟩ act ∧ (∀ {v : Value}, VRel c false (.ref o 0 y.es.length) v → VRel c' false (.list true y.es) v) ∧ (∀ M : Nat → Prop, c.Le M c') ∧ c'.ρ = c.ρ ∧ c'.Sa = c.Sa ∧ ∀ b, c'.So b → c.So b ∨ b = (c.ρ o).blk := by
  let c' : Ctx := { c with So := fun b => c.So b ∨ b = (c.ρ o).blk }
  have hle : ∀ {M : Nat → Prop}, c.Le M c' := ⟨fun _ _ => rfl, fun _ h => h, fun _ h => .inl h, fun _ _ => rfl, rfl⟩
  obtain ⟨hoM, hor, hok⟩ := g.inv.obj o y hy
  have hblk : (c.ρ o).blk < c.w.heap.size := by
    obtain ⟨⟨cur, hb, _⟩, _⟩ := hor
    exact (Array.getElem?_eq_some_iff.1 hb).1
  let Hr : Heap := fun q => if q = o then some y else none
  have hIr : Inv c Hr (· < n) := by
    refine g.inv.forget (fun q x hx => ?_) (fun q q' x x' hx hx' hne hb => ?_)
    · by_cases hq : q = o
      · have hx2 : y = x := by simpa [Hr, hq] using hx
        exact ⟨y, by rw [hq]; exact hy, by rw [hx2], by rw [hx2], fun h => by rw [hx2]; exact h⟩
      · simp [Hr, hq] at hx
    · exfalso
      by_cases hq : q = o
      · by_cases hq' : q' = o
        · exact hne (hq.trans hq'.symm)
        · simp [Hr, hq'] at hx'
      · simp [Hr, hq] at hx
  have hcv : Cv true Hr (.ref o 0 y.es.length) (.list true y.es) := by
    refine .ref (x := y) (by simp [Hr]) (by omega) rfl (fun i e e' he he' => ?_) (fun i e e' k a b he he' ha hb => ?_)
    · rw [Nat.zero_add] at he; rw [he] at he'; cases he'; rfl
    · rw [Nat.zero_add] at he; rw [he] at he'; cases he'
      rw [ha] at hb; cases hb
      obtain ⟨v, rfl⟩ := hf e (List.mem_of_getElem? he) a (List.mem_of_getElem? ha)
      exact .sc
  have hfrz : ∀ {v : Value}, VRel c false (.ref o 0 y.es.length) v → VRel c' false (.list true y.es) v := fun {v} hv =>
    (cv_ok hIr (c' := c') rfl (fun b hb => hb.elim (fun h => .inl ⟨rfl, h⟩) (fun h => .inr (.inl h))) (fun _ b hb => .inl hb) (fun q x hx => by
      by_cases hq : q = o
      · subst hq; exact .inr (.inr rfl)
      · simp [Hr, hq] at hx) hcv hv).shallow
  have hG : ∀ q x, upd H o none q = some x → q ≠ o ∧ H q = some x := fun q x hx => by
    by_cases hq : q = o
    · subst hq; rw [upd_same] at hx; cases hx
    · rw [upd_other _ _ hq] at hx; exact ⟨hq, hx⟩
  have hsep : ∀ q x, H q = some x → q ≠ o → (c.ρ q).blk ≠ (c.ρ o).blk := fun q x hx hne hb => by
    have := (g.inv.sep q o x y hx hy hne hb).1
    rw [(g.solo q x hx).1] at this; cases this
  have gI : Inv c' (upd H o none) (· < n) := by
    refine ⟨fun q x hx => ?_, fun q q' x1 x2 h1 h2 hne hb => g.inv.sep q q' x1 x2 (hG q x1 h1).2 (hG q' x2 h2).2 hne hb, fun q x hx => ?_, fun b hb => ?_, g.inv.base, fun b hb => ?_, fun q x hx => g.inv.low q x (hG q x hx).2, GF.mono (M := (· < n)) g.inv.glob hle⟩
    · obtain ⟨hne, hx⟩ := hG q x hx
      obtain ⟨i1, ⟨⟨cur, hb, hs, hc⟩, i3, i4, i5⟩, i6⟩ := g.inv.obj q x hx
      refine ⟨i1, ⟨⟨cur, hb, hs, fun i e he => ?_⟩, i3, i4, i5⟩, i6⟩
      obtain ⟨k1, k2⟩ := hc i e he
      refine ⟨k1, fun k a ha => ?_⟩
      obtain ⟨v, v1, v2, v3⟩ := k2 k a ha
      exact ⟨v, v1, v2.mono (M := (· < n)) hle (.inr (i6 e (List.mem_of_getElem? he) a (List.mem_of_getElem? ha))), v3⟩
    · obtain ⟨hne, hx⟩ := hG q x hx
      have := g.inv.stab q x hx
      exact ⟨this.1, fun h => h.elim this.2 (hsep q x hx hne)⟩
    · rcases hb with hb | hb | hb
      · exact g.inv.lt b (.inl hb)
      · exact g.inv.lt b (.inr hb)
      · show b < c.w.heap.size
        rw [hb]; exact hblk
    · rcases hb with hb | hb
      · exact g.inv.own b hb
      · show c.B ≤ b
        rw [hb]; exact g.inv.low o y hy
  have r := g.reach
  refine ⟨c', rfl, ⟨gI, fun q x hx => g.solo q x (hG q x hx).2, fun t => (g.frame t).mono (M := (· < n)) hle (.inr (g.ok t)), g.ok, g.size, ⟨r.rho, r.os, r.tape, r.output, r.size, r.block, r.stable, r.sa, fun b hb => .inl (r.so1 b hb), fun b hb => ?_, r.B, fun q x hx => r.own q x (hG q x hx).2⟩, g.le0⟩, hfrz, fun _ => hle, rfl, rfl, fun b hb => hb⟩
  rcases hb with hb | hb
  · exact r.so2 b hb
  · rw [hb]; exact .inr (r.own o y hy)
theorem OpR.sliceFrz {P : Program} {T : Ty} {nt : Nat} {o : Oper} {s : St} (hT : TyOk P T) {t q l h len : Nat} {xo : Operand} {lo : Option Operand} {hi mx : Operand} {ti : TI} {et : Nat} {te : TI} {y : Obj} (ho : o.op = .slice t xo lo (some hi) (some mx)) (hx : evA s.A xo = .ref q 0 len) (hy : s.H q = some y) (hlen : y.es.length = len)
    (hl : Bd (evA s.A) lo 0 l) (hh : Bd (evA s.A) (some hi) 0 h) (hm : Bd (evA s.A) (some mx) 0 len) (hlh : l ≤ h) (hle : h ≤ len) (ht : T t = some ti) (hk : ti.kind = .slice et) (hte : T et = some te) (hes : y.esz = te.size) (hf : ∀ e ∈ y.es, ∀ a ∈ e.cells, ∃ v, a = .sc v) :
    OpR P nt o s (fun a' H' n' => a' = .list true ((y.es.drop l).take (h - l)) ∧ H' = upd s.H q none ∧ n' = s.n) := by
  subst hlen
  intro c0 H0 n0 c act g K Q hK R
  obtain ⟨c', hw, g', hfrz, _⟩ := Good.frz (A := s.A) (H := s.H) (n := s.n) g hy hf
  obtain ⟨_, ⟨⟨cur, hb, hs, hc⟩, hfits, hpos, hsame⟩, _⟩ := g.inv.obj q y hy
  have hxv := g.ev xo
  rw [hx] at hxv
  obtain ⟨hp, hle'⟩ := hxv.ref_inv
  have hlist := hfrz hxv
  simp only [Nat.zero_mul, Nat.sub_zero, Nat.zero_add] at hp hle'
  rw [hp] at hlist
  have hsz : ∀ e ∈ y.es, e.cells.length = te.size := fun e he => by
    obtain ⟨i, hi⟩ := List.getElem?_of_mem he
    rw [(hc i e hi).1, ← hes]; exact hsame.symm
  have hsub := hlist.tight.sub_list (l := l) (h := h) hlh hle hsz
  have hrun : (execOp act.eval o).run P c.w = .ok (.value (.slice (if y.es.length = l then some ⟨(c.ρ q).blk, 0, none⟩ else (some ⟨(c.ρ q).blk, 0, none⟩ : Option Addr).map (·.add (l * te.size))) (h - l) (y.es.length - l))) c.w := by
    obtain ⟨dst, op, type, pos, after, guard⟩ := o
    simp only at ho
    subst ho
    simp only [execOp, hp, Option.map_some, Sem.run_bind, run_sliceAt_sl (hT t ti ht) hk (hT et te hte) (run_sliceBounds3 g.ev hl hh hm hlh hle hle' c.w), Result.andThen_ok, Sem.run_pure]
  refine Oper.wpR (fun d hd => by rw [hd] at ho; cases ho) ?_
  unfold Oper.wp
  rw [hrun]
  rw [← hw]
  exact hK c' _ (upd s.H q none) s.n _ ⟨rfl, rfl, rfl⟩ fun dst hd => g'.next hd (.refl c') rfl (fun b hb => .inl hb) (.refl c' _) (fun q x hx => .inr ⟨q, x, hx, rfl⟩) g'.inv g'.solo (Nat.le_refl _) hsub .list
end Go.Av

namespace Go.Av
variable [Gls]
structure BelowD (B : Nat) (w w' : World) : Prop extends RowKit.Below B w w' where
  drawn : dr w ≤ dr w'
def pl0 : Nat → Pl := fun _ => ⟨0, 0, 0, 0⟩
def Pure (P : Program) (f : Nat) (as : List AV) (r : AV) : Prop :=
  (∃ fn code, FnOk P f fn code) ∧
  ∀ (w : World) (S : Nat → Prop) (vs : Array Value), (∀ b, S b → b < w.heap.size) → GF ⟨w, pl0, S, fun _ => False, w.heap.size⟩ → VRels ⟨w, pl0, S, fun _ => False, w.heap.size⟩ true as vs →
    Calls P f vs w fun e w' => ∃ v, e = .returned v ∧ VRel ⟨w', pl0, S, fun b => w.heap.size ≤ b ∧ b < w'.heap.size, w.heap.size⟩ true r v ∧ BelowD w.heap.size w w'
def pureQ (T : Ty) (fn : Func) (r : AV) : AExit → St → Prop
  | .exit _, _ => False
  | _, s => ∃ rs, ResRs T s fn.results.toList rs ∧ Cv true s.H (packA rs) r
inductive OwnO : AV → Prop
  | sc {v} : OwnO (.sc v)
  | nils : OwnO .nils
  | agg {cs} (h : ∀ a ∈ cs, OwnO a) : OwnO (.agg cs)
  | tup {cs} (h : ∀ a ∈ cs, OwnO a) : OwnO (.tup cs)
  | listNil {own} : OwnO (.list own [])
  | list {es} (h : ∀ e ∈ es, ∀ a ∈ e.cells, OwnO a) : OwnO (.list true es)
theorem VRel.ownO {c c' : Ctx} (hso : ∀ b, c.So b → c'.So b) (hh : ∀ b, c.So b → c'.w.heap[b]? = c.w.heap[b]?) {a : AV} (h : OwnO a) : ∀ {v : Value}, VRel c true a v → VRel c' true a v := by
  induction h with
  | sc => intro v hv; rw [hv.sc_inv]; exact .sc
  | nils => intro v hv; obtain ⟨p, rfl⟩ := hv.nils_inv; exact .nils
  | @agg cs h ih =>
    intro v hv
    cases hv with
    | agg hl h1 hr => exact .agg hl h1 fun i a v ha hv => ih a (List.mem_of_getElem? ha) (hr i a v ha hv)
  | @tup cs h ih =>
    intro v hv
    cases hv with
    | tup hl hr => exact .tup hl fun i a v ha hv => ih a (List.mem_of_getElem? ha) (hr i a v ha hv)
  | listNil => intro v hv; cases hv with
    | listNil => exact .listNil
    | list vf hne => exact absurd rfl hne
  | @list es h ih =>
    intro v hv
    cases hv with
    | listNil => exact .listNil
    | list vf hne hS hn hcap hsz hcell h1 hr =>
      have hS' := hS.resolve_left (fun h => by cases h.1)
      refine .list vf hne (.inr (hso _ hS')) hn hcap hsz (fun i e k a he ha => ?_) h1 (fun i e k a he ha => ih e (List.mem_of_getElem? he) a (List.mem_of_getElem? ha) (hr i e k a he ha))
      rw [World.cell?_of_block (hh _ hS')]; exact hcell i e k a he ha
section
variable {P : Program} {T : Ty}
theorem VRels.shallow {c : Ctx} {d : Bool} {as : List AV} {vs : Array Value} (h : VRels c d as vs) : VRels c false as vs := ⟨h.len, fun i a v ha hv => (h.rel i a v ha hv).shallow⟩
theorem Pure.of_body (hT : TyOk P T) {f : Nat} {fn : Func} {code : Code} (hfn : FnOk P f fn code) {as : List AV} {nt : Nat} {r : AV} (hnt : fn.ntmps = nt)
    (hle : as.length ≤ nt) (h : SemC P nt 0 code (pureQ T fn r) ⟨argA as, fun _ => none, 0⟩) : Pure P f as r := by
  refine ⟨⟨fn, code, hfn⟩, fun w S vs hS hG hv => ?_⟩
  refine calls_of_wp hfn.here hfn.body ?_
  let c : Ctx := ⟨w, pl0, S, fun _ => False, w.heap.size⟩
  have hI : Inv c (fun _ => none) (· < 0) :=
    ⟨fun o x h => (by cases h), fun o o' x x' h => (by cases h), fun o x h => (by cases h), fun b hb => hb.elim (hS b) False.elim, Nat.le_refl _, fun b hb => hb.elim, fun o x h => (by cases h), hG⟩
  have g : Good nt c (fun _ => none) 0 c ⟨argA as, fun _ => none, 0⟩ { tmps := vs ++ Array.replicate (fn.ntmps - vs.size) undef, defers := [] } := by
    refine ⟨hI, fun o x h => (by cases h), fun t => frame_args hv _ t, fun t => argA_ok (fun a ha => ?_) t, ?_, .refl c _ 0, Nat.le_refl _⟩
    · obtain ⟨i, hi⟩ := List.getElem?_of_mem ha
      have : i < vs.size := by rw [← hv.len]; exact (List.getElem?_eq_some_iff.1 hi).1
      exact (hv.rel i a _ hi (Array.getElem?_eq_getElem this)).okDeep
    · have := hv.len
      simp only [Array.size_append, Array.size_replicate]; omega
  refine Code.wp_mono ?_ (wpR_none.1 (h c _ c _ g none .none))
  have fin : ∀ (c' : Ctx) (s : St) (a : Act), Good nt c (fun _ => none) 0 c' s a → a.defers = [] → (∃ rs, ResRs T s fn.results.toList rs ∧ Cv true s.H (packA rs) r) →
      a.defers = [] ∧ ∃ v, (results fn a.tmps).run P c'.w = .ok v c'.w ∧ ∃ u, Ending.returned v = .returned u ∧ VRel ⟨c'.w, pl0, S, fun b => w.heap.size ≤ b ∧ b < c'.w.heap.size, w.heap.size⟩ true r u ∧ BelowD w.heap.size w c'.w := by
    intro c' s a g' hds hq
    obtain ⟨rs, hrs, hk⟩ := hq
    obtain ⟨v, h1, h2, h3⟩ := res_ok hT g' hrs
    have hr := g'.reach
    have hB : c'.B = w.heap.size := hr.B
    refine ⟨hds, v, h1, v, rfl, ?_, ⟨⟨hr.os, hr.tape, hr.output.1, hr.size, fun k hk => hr.block k hk (fun o x hx => (by cases hx))⟩, hr.output.2⟩⟩
    refine cv_ok g'.inv (c' := ⟨c'.w, pl0, S, fun b => w.heap.size ≤ b ∧ b < c'.w.heap.size, w.heap.size⟩) rfl (fun b hb => ?_) (fun _ b hb => ?_) (fun o x hx => ?_) hk h2
    · rcases hb with hb | hb
      · exact .inl ⟨rfl, by rw [← hr.sa]; exact hb⟩
      · exact .inr ⟨by rw [← hB]; exact g'.inv.own b hb, g'.inv.lt b (.inr hb)⟩
    · exact ⟨by rw [← hB]; exact g'.inv.own b hb, g'.inv.lt b (.inr hb)⟩
    · obtain ⟨_, ⟨⟨cur, hcb, _⟩, _⟩, _⟩ := g'.inv.obj o x hx
      exact .inr ⟨by rw [← hB]; exact g'.inv.low o x hx, (Array.getElem?_eq_some_iff.1 hcb).1⟩
  rintro e a w ⟨c', s, ae, rfl, g', hds, rfl, hq⟩
  cases ae with
  | exit id => exact hq.elim
  | normal => exact fin c' s a g' hds hq
  | ret => exact fin c' s a g' hds hq
structure Cvs (m : Bool) (H : Heap) (as bs : List AV) : Prop where
  len : as.length = bs.length
  rel : ∀ (i : Nat) a b, as[i]? = some a → bs[i]? = some b → Cv m H a b
theorem HC.of_pure {f : Nat} {as bs : List AV} {H Hr : Heap} {n : Nat} {r : AV} (hp : Pure P f bs r) (hcv : Cvs false Hr as bs) (hsub : ∀ o x, Hr o = some x → H o = some x)
    (hr : OwnO r ∨ ∀ o, Hr o = none) : HC P f as H n (fun r' H' n' => r' = r ∧ H' = H ∧ n' = n) := by
  refine ⟨hp.1, fun c vs hI hs hv ho => ?_⟩
  let S : Nat → Prop := fun b => c.Sa b ∨ c.So b ∨ ∃ o x, Hr o = some x ∧ (c.ρ o).blk = b
  have hblk : ∀ o x, H o = some x → (c.ρ o).blk < c.w.heap.size := by
    intro o x hx
    obtain ⟨_, ⟨⟨cur, hcb, _⟩, _⟩, _⟩ := hI.obj o x hx
    exact (Array.getElem?_eq_some_iff.1 hcb).1
  have hS : ∀ b, S b → b < c.w.heap.size := by
    rintro b (hb | hb | ⟨o, x, hx, rfl⟩)
    · exact hI.lt b (.inl hb)
    · exact hI.lt b (.inr hb)
    · exact hblk o x (hsub o x hx)
  have hIr : Inv c Hr (· < n) :=
    hI.forget (fun o x hx => ⟨x, hsub o x hx, rfl, rfl, fun h => h⟩) (fun o o' x x' hx hx' hne hb => by
      have := hI.sep o o' x x' (hsub o x hx) (hsub o' x' hx') hne hb
      exact ⟨this.1, fun h => (this.2 h).1⟩)
  have hrel : VRels ⟨c.w, pl0, S, fun _ => False, c.w.heap.size⟩ true bs vs := by
    refine ⟨by rw [← hcv.len]; exact hv.len, fun i b v hb hvv => ?_⟩
    have hlt : i < as.length := by rw [hcv.len]; exact (List.getElem?_eq_some_iff.1 hb).1
    have ha := List.getElem?_eq_getElem hlt
    refine cv_ok hIr (c' := ⟨c.w, pl0, S, fun _ => False, c.w.heap.size⟩) rfl (fun b hb => ?_) (fun h => by cases h) (fun o x hx => ?_) (hcv.rel i _ b ha hb) (hv.rel i _ v ha hvv)
    · exact .inl ⟨rfl, hb.elim .inl (fun h => .inr (.inl h))⟩
    · exact .inl ⟨rfl, .inr (.inr ⟨o, x, hx, rfl⟩)⟩
  refine (hp.2 c.w S vs hS (hI.glob.of (fun b hb => .inl hb) fun _ _ => rfl) hrel).mono ?_
  rintro e w' ⟨v, rfl, hvr, hbel⟩
  let c' : Ctx := ⟨w', c.ρ, c.Sa, fun b => c.So b ∨ (c.w.heap.size ≤ b ∧ b < w'.heap.size), c.B⟩
  have hold : ∀ b, b < c.w.heap.size → w'.heap[b]? = c.w.heap[b]? := fun b hb => hbel.block b hb
  have hle : c.Le (· < n) c' := ⟨fun _ _ => rfl, fun b hb => hb, fun b hb => .inl hb, fun b hb => hold b (hI.lt b hb), rfl⟩
  have hI' : Inv c' H (· < n) := by
    refine ⟨fun o x hx => ?_, hI.sep, fun o x hx => ?_, fun b hb => ?_, Nat.le_trans hI.base hbel.size, fun b hb => ?_, hI.low, hI.glob.mono hle⟩
    · obtain ⟨h1, ⟨⟨cur, hb, hss, hc⟩, h3, h4, h5⟩, h6⟩ := hI.obj o x hx
      refine ⟨h1, ⟨⟨cur, by show w'.heap[(c.ρ o).blk]? = _; rw [hold _ (hblk o x hx)]; exact hb, hss, ?_⟩, h3, h4, h5⟩, h6⟩
      intro i e he
      obtain ⟨g1, g2⟩ := hc i e he
      exact ⟨g1, fun k a ha => by obtain ⟨v, hv, hr, h7⟩ := g2 k a ha; exact ⟨v, hv, hr.mono hle (.inr (h6 e (List.mem_of_getElem? he) a (List.mem_of_getElem? ha))), h7⟩⟩
    · have h1 := hI.stab o x hx
      exact ⟨h1.1, fun h => h.elim h1.2 (fun h => by have := hblk o x hx; have h2 : c.w.heap.size ≤ (c.ρ o).blk := h.1; omega)⟩
    · rcases hb with hb | hb | hb
      · exact Nat.lt_of_lt_of_le (hI.lt b (.inl hb)) hbel.size
      · exact Nat.lt_of_lt_of_le (hI.lt b (.inr hb)) hbel.size
      · exact hb.2
    · rcases hb with hb | hb
      · exact hI.own b hb
      · exact Nat.le_trans hI.base hb.1
  refine ⟨v, r, H, n, c', ⟨rfl, rfl, rfl⟩, rfl, rfl, hle, rfl, fun b hb => hb.imp id (fun h => .inl h.1), ⟨hbel.os, hbel.tape, ⟨hbel.output, hbel.drawn⟩, hbel.size, fun b hb _ => hold b hb⟩, fun o x hx => .inr ⟨o, x, hx, rfl⟩, hI', hs, Nat.le_refl _, ?_, hvr.okDeep⟩
  rcases hr with hr | hr
  · exact (VRel.ownO (c := ⟨w', pl0, S, fun b => c.w.heap.size ≤ b ∧ b < w'.heap.size, c.w.heap.size⟩) (c' := c') (fun b hb => .inr hb) (fun b _ => rfl) hr hvr).shallow
  · refine (VRel.deep (c := ⟨w', pl0, S, fun b => c.w.heap.size ≤ b ∧ b < w'.heap.size, c.w.heap.size⟩) (c' := c') (fun own b hb => ?_) (fun own b _ => rfl) hvr rfl).shallow
    rcases hb with ⟨rfl, hb⟩ | hb
    · rcases hb with hb | hb | ⟨o, x, hx, _⟩
      · exact .inl ⟨rfl, hb⟩
      · exact .inr (.inl hb)
      · rw [hr o] at hx; cases hx
    · exact .inr (.inr hb)
end
end Go.Av

namespace Go.Av
instance noGls : Gls := ⟨[], 1⟩
def tiles (P : Program) (tot : Nat) : Nat → List Field → Bool
  | off, [] => off == tot
  | off, f :: fs => f.offset == off && tiles P tot (off + P.cellsOf f.type) fs
def plainTy (P : Program) : Nat → Nat → Bool
  | 0, _ => false
  | n + 1, t => match P.underlying t with
    | some .bool | some (.int _) | some .string => P.cellsOf t == 1
    | some (.slice e) => P.cellsOf t == 1 && decide (0 < P.cellsOf e) && plainTy P n e
    | some (.struct fs) => tiles P (P.cellsOf t) 0 fs.toList && fs.toList.all fun f => plainTy P n f.type
    | some (.array m e) => P.cellsOf t == m * P.cellsOf e && plainTy P n e
    | _ => false
inductive Rels {α β : Type} (R : α → β → Prop) : List α → List β → Prop
  | nil : Rels R [] []
  | cons {a b as bs} (h : R a b) (hs : Rels R as bs) : Rels R (a :: as) (b :: bs)
def Shape (P : Program) : Nat → Nat → AV → Prop
  | 0, _, _ => False
  | n + 1, t, a => match P.underlying t with
    | some .bool => ∃ b, a = .sc (.bool b)
    | some (.int k) => ∃ z, a = .sc (.int k z) ∧ (Lit.int k z).wf = true
    | some .string => ∃ s, a = .sc (.string s) ∧ s.size ≤ maxLen
    | some (.slice e) => ∃ es, a = .list false es ∧ es.length ≤ maxLen ∧ ∀ x ∈ es, Shape P n e x
    | some (.struct fs) => ∃ l : List AV, a = .agg (l.flatMap AV.cells) ∧ Rels (fun f x => Shape P n f.type x) fs.toList l
    | some (.array m e) => ∃ l : List AV, a = .agg (l.flatMap AV.cells) ∧ l.length = m ∧ ∀ x ∈ l, Shape P n e x
    | _ => False
theorem mapM_some {α β : Type} {f : α → Option β} : ∀ {l : List α} {ys : List β}, l.mapM f = some ys → Rels (fun x y => f x = some y) l ys := by
  intro l
  induction l with
  | nil => intro ys h; simp at h; subst h; exact .nil
  | cons x l ih =>
    intro ys h
    simp only [List.mapM_cons, Option.bind_eq_bind, Option.bind_eq_some_iff] at h
    obtain ⟨y, hy, zs, hz, h⟩ := h
    simp at h
    subst h
    exact .cons hy (ih hz)
structure DeepRel (c : Ctx) (l : List AV) (cs : List Value) : Prop where
  len : l.length = cs.length
  rel : ∀ (i : Nat) x v, l[i]? = some x → cs[i]? = some v → VRel c true x v ∧ v.oneCell' = true
theorem DeepRel.append {c : Ctx} {l m : List AV} {cs ds : List Value} (h : DeepRel c l cs) (k : DeepRel c m ds) : DeepRel c (l ++ m) (cs ++ ds) := by
  refine ⟨by simp [h.len, k.len], fun i x v hx hv => ?_⟩
  rw [List.getElem?_append] at hx hv
  by_cases hi : i < l.length
  · rw [if_pos hi] at hx
    rw [if_pos (by rw [← h.len]; exact hi)] at hv
    exact h.rel i x v hx hv
  · rw [if_neg hi] at hx
    rw [if_neg (by rw [← h.len]; exact hi), ← h.len] at hv
    exact k.rel _ x v hx hv
theorem DeepRel.agg {c : Ctx} {l : List AV} {cs : List Value} (h : DeepRel c l cs) : VRel c true (.agg l) (.agg cs.toArray) := by
  refine .agg (by simpa using h.len) (fun v hv => ?_) (fun i a v ha hv => (h.rel i a v ha (by simpa using hv)).1)
  obtain ⟨i, hi⟩ := List.getElem?_of_mem (by simpa using hv : v ∈ cs)
  have : i < l.length := by rw [h.len]; exact (List.getElem?_eq_some_iff.1 hi).1
  exact (h.rel i _ v (List.getElem?_eq_getElem this) hi).2
section
variable {H : Type} {enc : TypeId × Value → H} {P : Program} {w : World}
def lawCtx (w : World) : Ctx := ⟨w, pl0, fun b => b < w.heap.size, fun _ => False, w.heap.size⟩
theorem drop_take_split (cs : List Value) (off n tot : Nat) (_ : cs.length = tot) (_ : off + n ≤ tot) : cs.drop off = (cs.drop off).take n ++ cs.drop (off + n) := by
  rw [← List.drop_drop, List.take_append_drop]
theorem trod_shape : ∀ (n t : Nat), plainTy P n t = true → ∀ (fuel : Nat) (cs : List Value) (d : DataW H) (ps : List MemPlace), DataW.trod enc P w 0 (fun _ => true) true fuel t cs = some (d, ps) →
    ∃ a, Shape P n t a ∧ DeepRel (lawCtx w) a.cells cs ∧ cs.length = P.cellsOf t := by
  intro n
  induction n with
  | zero => intro t h; simp [plainTy] at h
  | succ n ih =>
    intro t hp fuel cs d ps h
    cases fuel with
    | zero => simp [DataW.trod] at h
    | succ fuel =>
    have one : ∀ {v : Value}, v.oneCell' = true → DeepRel (lawCtx w) [AV.sc v] [v] := fun {v} hv =>
      ⟨rfl, fun i x u hx hu => by cases i with
        | zero => simp at hx hu; subst hx hu; exact ⟨.sc, hv⟩
        | succ i => simp at hx⟩
    unfold plainTy at hp
    unfold Shape
    unfold DataW.trod at h
    cases hu : P.underlying t with
    | none => simp [hu] at hp
    | some td =>
      cases td with
      | bool =>
        simp only [hu] at h hp ⊢
        split at h
        all_goals first | (rename_i b hx; cases hx; simp at hp; exact ⟨.sc (.bool _), ⟨_, rfl⟩, one rfl, by simp [hp]⟩) | simp_all
      | int k =>
        simp only [hu] at h hp ⊢
        split at h <;> simp_all
        obtain ⟨⟨h1, h2⟩, h3⟩ := h
        subst h1
        exact ⟨.sc (.int _ _), ⟨_, rfl, h2⟩, one rfl⟩
      | string =>
        simp only [hu] at h hp ⊢
        split at h <;> simp_all
        obtain ⟨h1, h2⟩ := h
        exact ⟨.sc (.string _), ⟨_, rfl, h1⟩, one rfl⟩
      | slice e =>
        simp only [hu] at hp ⊢
        simp only [Bool.and_eq_true, beq_iff_eq, decide_eq_true_eq] at hp
        obtain ⟨⟨hp1, hp2⟩, hp3⟩ := hp
        have h' : DataW.trod enc P w 0 (fun _ => true) true (fuel + 1) t cs = some (d, ps) := by unfold DataW.trod; exact h
        rcases Go.Deep.open_slice hu h' with ⟨rfl, hx⟩ | ⟨a, len, cap, m, n', D, Pl, rfl, _, hlc, hcm, hm, hx, hel⟩
        · refine ⟨.list false [], ⟨[], rfl, by simp, fun x hx => by simp at hx⟩, ⟨rfl, fun i x v hx hv => ?_⟩, by simp [hp1]⟩
          cases i with
          | zero => simp [AV.cells] at hx hv; subst hx hv; exact ⟨.listNil, rfl⟩
          | succ i => simp [AV.cells] at hx
        · have hmc : len ≤ m := by rw [hm]; split <;> omega
          have each : ∀ i, i < len → ∃ x cs', Shape P n e x ∧ DeepRel (lawCtx w) x.cells cs' ∧ cs'.length = P.cellsOf e ∧ w.cells? 0 (a.add (i * P.cellsOf e)) (P.cellsOf e) = some cs' := by
            intro i hi
            obtain ⟨cs', h1, h2⟩ := hel i (by omega)
            obtain ⟨x, h3, h4, h5⟩ := ih e hp3 n' cs' _ _ h2
            exact ⟨x, cs', h3, h4, h5, h1⟩
          let F : Nat → AV := fun i => if hi : i < len then Classical.choose (each i hi) else .junk
          have hF : ∀ i, i < len → ∃ cs', Shape P n e (F i) ∧ DeepRel (lawCtx w) (F i).cells cs' ∧ cs'.length = P.cellsOf e ∧ w.cells? 0 (a.add (i * P.cellsOf e)) (P.cellsOf e) = some cs' := by
            intro i hi
            have := Classical.choose_spec (each i hi)
            simp only [F, dif_pos hi]
            exact this
          refine ⟨.list false ((List.range len).map F), ⟨_, rfl, by simp; omega, fun x hx => ?_⟩, ⟨rfl, fun i x v hx hv => ?_⟩, by simp [hp1]⟩
          · simp only [List.mem_map, List.mem_range] at hx
            obtain ⟨i, hi, rfl⟩ := hx
            obtain ⟨cs', h1, _⟩ := hF i hi
            exact h1
          · cases i with
            | succ i => simp [AV.cells] at hx
            | zero =>
              simp [AV.cells] at hx hv
              subst hx hv
              refine ⟨?_, rfl⟩
              by_cases hl0 : len = 0
              · subst hl0; exact .listNil
              · obtain ⟨blk, off, spot⟩ := a
                have hget : ∀ (i : Nat) x, ((List.range len).map F)[i]? = some x → i < len ∧ x = F i := by
                  intro i x hx
                  rw [List.getElem?_map] at hx
                  by_cases hi : i < len
                  · simp [hi] at hx; exact ⟨hi, hx.symm⟩
                  · simp [hi] at hx
                have hcells : ∀ i, i < len → ∀ k, k < P.cellsOf e → ∃ cs' v, DeepRel (lawCtx w) (F i).cells cs' ∧ cs'.length = P.cellsOf e ∧ cs'[k]? = some v ∧ w.cell? ((⟨blk, off, spot⟩ : Addr).add (i * P.cellsOf e + k)) = some v := by
                  intro i hi k hk
                  obtain ⟨cs', _, h2, h3, h4⟩ := hF i hi
                  unfold World.cells? at h4
                  rw [if_pos (Nat.zero_le _)] at h4
                  have h5 := mapM_some h4
                  have h6 : ∀ (l : List Nat) (ys : List Value), Rels (fun j v => w.cell? (((⟨blk, off, spot⟩ : Addr).add (i * P.cellsOf e)).add j) = some v) l ys → ∀ (j : Nat) (x : Nat), l[j]? = some x → ∃ v, ys[j]? = some v ∧ w.cell? (((⟨blk, off, spot⟩ : Addr).add (i * P.cellsOf e)).add x) = some v := by
                    intro l ys hr
                    induction hr with
                    | nil => intro j x hx; simp at hx
                    | cons h _ ih' =>
                      intro j x hx
                      cases j with
                      | zero => simp at hx; subst hx; exact ⟨_, rfl, h⟩
                      | succ j => simp at hx; simpa using ih' j x hx
                  obtain ⟨v, h7, h8⟩ := h6 _ _ h5 k k (by simp [hk])
                  rw [Go.Deep.add_add] at h8
                  exact ⟨cs', v, h2, h3, h7, h8⟩
                have hspot : spot = none := by
                  obtain ⟨_, v, _, _, _, hv⟩ := hcells 0 (by omega) 0 hp2
                  simp only [Nat.zero_mul, Nat.zero_add, Addr.add_zero'] at hv
                  unfold World.cell? at hv
                  split at hv
                  · cases spot with
                    | none => rfl
                    | some x => simp at hv
                  · cases hv
                subst hspot
                have hblk : blk < w.heap.size := by
                  obtain ⟨_, v, _, _, _, hv⟩ := hcells 0 (by omega) 0 hp2
                  rw [Addr.add_lit] at hv
                  exact block_lt_of_cell hv
                refine .list (esz := P.cellsOf e) (fun i k => (w.cell? ⟨blk, off + i * P.cellsOf e + k, none⟩).getD undef) ?_ (.inl ⟨rfl, hblk⟩) (by simp) (by simp; omega) ?_ ?_ ?_ ?_
                · intro h0; simp at h0; exact hl0 h0
                · intro i x hx
                  obtain ⟨hi, rfl⟩ := hget i x hx
                  obtain ⟨cs', _, h2, h3, _⟩ := hF i hi
                  rw [h2.len, h3]
                all_goals
                  intro i x k y hx hy
                  obtain ⟨hi, rfl⟩ := hget i x hx
                  have hk : k < P.cellsOf e := by
                    obtain ⟨cs', _, h2, h3, _⟩ := hF i hi
                    rw [← h3, ← h2.len]; exact (List.getElem?_eq_some_iff.1 hy).1
                  obtain ⟨cs', v, h2, h3, h4, h5⟩ := hcells i hi k hk
                  rw [Addr.add_lit, ← Nat.add_assoc] at h5
                  obtain ⟨h6, h7⟩ := h2.rel k y v hy h4
                · show w.cell? _ = _
                  rw [h5]; rfl
                · rw [h5]; exact h7
                · rw [h5]; exact h6
      | struct fs =>
        simp only [hu] at h hp ⊢
        simp only [Bool.and_eq_true, List.all_eq_true] at hp
        obtain ⟨hti, hall⟩ := hp
        split at h
        · rename_i hlen
          simp only [Option.map_eq_some_iff] at h
          obtain ⟨xs, hxs, _⟩ := h
          have hr := mapM_some hxs
          have key : ∀ (l : List Field) (off : Nat) (xs : List (DataW H × List MemPlace)), (∀ f ∈ l, plainTy P n f.type = true) → tiles P (P.cellsOf t) off l = true → off ≤ P.cellsOf t →
              Rels (fun f y => DataW.trod enc P w 0 (fun _ => true) true fuel f.type ((cs.drop f.offset).take (P.cellsOf f.type)) = some y) l xs →
              ∃ as : List AV, Rels (fun f x => Shape P n f.type x) l as ∧ DeepRel (lawCtx w) (as.flatMap AV.cells) (cs.drop off) := by
            intro l
            induction l with
            | nil =>
              intro off xs _ ht _ hr
              simp [tiles] at ht
              subst ht
              refine ⟨[], .nil, ?_, fun i x v hx => by simp at hx⟩
              simp [hlen]
            | cons f l ihl =>
              intro off xs hpl ht hle hr
              simp only [tiles, Bool.and_eq_true, beq_iff_eq] at ht
              obtain ⟨hoff, ht⟩ := ht
              cases hr with
              | cons h1 hs =>
                obtain ⟨x, h2, h3, h4⟩ := ih f.type (hpl f (List.mem_cons_self ..)) fuel _ _ _ h1
                have hle' : off + P.cellsOf f.type ≤ P.cellsOf t := by
                  simp only [List.length_take, List.length_drop, hlen, hoff] at h4
                  omega
                obtain ⟨as, h5, h6⟩ := ihl _ _ (fun g hg => hpl g (List.mem_cons_of_mem _ hg)) ht hle' hs
                refine ⟨x :: as, .cons h2 h5, ?_⟩
                rw [List.flatMap_cons, drop_take_split cs off (P.cellsOf f.type) (P.cellsOf t) hlen hle']
                rw [hoff] at h3
                exact h3.append h6
          obtain ⟨as, h1, h2⟩ := key fs.toList 0 xs hall hti (Nat.zero_le _) hr
          exact ⟨.agg (as.flatMap AV.cells), ⟨as, rfl, h1⟩, by simpa [AV.cells] using h2, hlen⟩
        · cases h
      | array m e =>
        simp only [hu] at h hp ⊢
        simp only [Bool.and_eq_true, beq_iff_eq] at hp
        obtain ⟨hce, hpe⟩ := hp
        split at h
        · rename_i hlen
          simp only [Option.map_eq_some_iff] at h
          obtain ⟨xs, hxs, _⟩ := h
          have hr := mapM_some hxs
          have key : ∀ (q j : Nat) (xs : List (DataW H × List MemPlace)), j + q = m →
              Rels (fun i y => DataW.trod enc P w 0 (fun _ => true) true fuel e ((cs.drop (i * P.cellsOf e)).take (P.cellsOf e)) = some y) (List.range' j q) xs →
              ∃ as : List AV, as.length = q ∧ (∀ x ∈ as, Shape P n e x) ∧ DeepRel (lawCtx w) (as.flatMap AV.cells) (cs.drop (j * P.cellsOf e)) := by
            intro q
            induction q with
            | zero =>
              intro j xs hj hr
              refine ⟨[], rfl, fun x hx => by simp at hx, ?_, fun i x v hx => by simp at hx⟩
              have : j = m := by omega
              subst this
              simp [hlen, hce]
            | succ q ihq =>
              intro j xs hj hr
              rw [List.range'_succ] at hr
              cases hr with
              | cons h1 hs =>
                obtain ⟨x, h2, h3, h4⟩ := ih e hpe fuel _ _ _ h1
                obtain ⟨as, h5, h6, h7⟩ := ihq (j + 1) _ (by omega) hs
                refine ⟨x :: as, by simp [h5], fun y hy => ?_, ?_⟩
                · rcases List.mem_cons.1 hy with rfl | hy
                  · exact h2
                  · exact h6 y hy
                · have hle : j * P.cellsOf e + P.cellsOf e ≤ P.cellsOf t := by
                    rw [hce]
                    have : (j + 1) * P.cellsOf e ≤ m * P.cellsOf e := Nat.mul_le_mul_right _ (by omega)
                    rw [Nat.add_mul] at this; omega
                  rw [List.flatMap_cons, drop_take_split cs (j * P.cellsOf e) (P.cellsOf e) (P.cellsOf t) hlen hle]
                  rw [Nat.add_mul, Nat.one_mul] at h7
                  exact h3.append h7
          obtain ⟨as, h1, h2, h3⟩ := key m 0 xs (by omega) (by rw [List.range_eq_range'] at hr; exact hr)
          exact ⟨.agg (as.flatMap AV.cells), ⟨as, rfl, h1, h2⟩, by simpa [AV.cells] using h3, hlen⟩
        · cases h
      | _ => simp [hu] at hp
open Go.ChangeShapes Go.RowKit
theorem shape_val {n t : Nat} {a : AV} {v : Value} {r : _root_.Go.Reach} {b : Nat} (hs : Shape P n t a) (hval : Value.okWide P w r b t v) (hd : DeepRel (lawCtx w) a.cells v.cells.toList) : VRel (lawCtx w) true a v := by
  have leaf : (∀ cs, a ≠ .agg cs) → v.oneCell' = true → VRel (lawCtx w) true a v := by
    intro ha hv
    have hc : v.cells = #[v] := by cases v <;> first | rfl | simp [Value.oneCell'] at hv
    rw [cells_of_not_agg ha, hc] at hd
    exact (hd.rel 0 a v rfl rfl).1
  have aggr : ∀ l, a = .agg l → (∃ cs, v = .agg cs) → VRel (lawCtx w) true a v := by
    rintro l rfl ⟨cs, rfl⟩
    have := hd.agg
    simp only [Value.cells, Array.toArray_toList] at this
    exact this
  cases n with
  | zero => exact hs.elim
  | succ n =>
    unfold Shape at hs
    unfold Value.okWide at hval
    cases hu : P.underlying t with
    | none => simp [hu] at hs
    | some d =>
      cases d with
      | struct fs =>
        simp only [hu] at hs hval
        obtain ⟨l, hl, _⟩ := hs
        obtain ⟨cs, hcs, _⟩ := hval
        exact aggr _ hl ⟨cs, hcs⟩
      | array m e =>
        simp only [hu] at hs hval
        obtain ⟨l, hl, _⟩ := hs
        obtain ⟨cs, hcs, _⟩ := hval
        exact aggr _ hl ⟨cs, hcs⟩
      | bool =>
        simp only [hu] at hs hval
        obtain ⟨z, rfl⟩ := hs
        refine leaf (fun cs h => by cases h) ?_
        cases v <;> first | rfl | simp [Cell.okWide, Cell.ok, hu] at hval
      | int k =>
        simp only [hu] at hs hval
        obtain ⟨z, rfl, _⟩ := hs
        refine leaf (fun cs h => by cases h) ?_
        cases v <;> first | rfl | simp [Cell.okWide, Cell.ok, hu] at hval
      | string =>
        simp only [hu] at hs hval
        obtain ⟨z, rfl, _⟩ := hs
        refine leaf (fun cs h => by cases h) ?_
        cases v <;> first | rfl | simp [Cell.okWide, Cell.ok, hu] at hval
      | slice e =>
        simp only [hu] at hs hval
        obtain ⟨z, rfl, _⟩ := hs
        refine leaf (fun cs h => by cases h) ?_
        cases v <;> first | rfl | simp [Cell.okWide, Cell.ok, hu] at hval
      | _ => simp [hu] at hs
theorem trodAll_shape {n : Nat} : ∀ (ts : List Nat) (vs : List Value) (ds : List (DataW H)) (ps : List MemPlace), (∀ t ∈ ts, plainTy P n t = true) →
    (∀ (j : Nat) t v, ts[j]? = some t → vs[j]? = some v → Value.okWide P w .any 0 t v) → DataW.TrodAll enc P w 0 (fun _ => true) true ts vs ds ps →
    ∃ as, Rels (fun t a => Shape P n t a) ts as ∧ as.length = vs.length ∧ ∀ (i : Nat) a v, as[i]? = some a → vs[i]? = some v → VRel (lawCtx w) true a v := by
  intro ts
  induction ts with
  | nil =>
    intro vs ds ps _ _ h
    cases vs with
    | nil => exact ⟨[], .nil, rfl, fun i a v ha => by simp at ha⟩
    | cons v vs => simp [DataW.TrodAll] at h
  | cons t ts ih =>
    intro vs ds ps hp hv h
    cases vs with
    | nil => simp [DataW.TrodAll] at h
    | cons v vs =>
      cases ds with
      | nil => simp [DataW.TrodAll] at h
      | cons d ds =>
        simp only [DataW.TrodAll] at h
        obtain ⟨p, q, ⟨fuel, h1⟩, h2, _⟩ := h
        obtain ⟨as, h3, h4, h5⟩ := ih vs ds q (fun u hu => hp u (List.mem_cons_of_mem _ hu)) (fun j u x hj hx => hv (j + 1) u x (by simpa using hj) (by simpa using hx)) h2
        obtain ⟨a, h6, h7, _⟩ := trod_shape n t (hp t (List.mem_cons_self ..)) fuel _ d p h1
        have h8 := shape_val h6 (hv 0 t v rfl rfl) h7
        refine ⟨a :: as, .cons h6 h3, by simp [h4], fun i x u hx hu => ?_⟩
        cases i with
        | zero => simp at hx hu; subst hx hu; exact h8
        | succ i => simp at hx hu; exact h5 i x u hx hu
theorem trodAll_stays {W W' : World} (hl : laidOutB P = true) (hb : Below W.heap.size W W') : ∀ (ts : List Nat) (vs : List Value) (ds : List (DataW H)) (ps : List MemPlace),
    (∀ t ∈ ts, P.readableRec t = true ∧ t < P.types.size) → (∀ x ∈ ps, x.block < W.heap.size) → DataW.TrodAll enc P W 0 (fun _ => true) true ts vs ds ps →
    DataW.TrodAll enc P W' 0 (fun b => decide (b < W.heap.size)) true ts vs ds ps := by
  intro ts
  induction ts with
  | nil =>
    intro vs ds ps _ _ h
    cases vs <;> cases ds <;> simp_all [DataW.TrodAll]
  | cons t ts ih =>
    intro vs ds ps hr hp h
    cases vs with
    | nil => simp [DataW.TrodAll] at h
    | cons v vs =>
      cases ds with
      | nil => simp [DataW.TrodAll] at h
      | cons d ds =>
        simp only [DataW.TrodAll] at h ⊢
        obtain ⟨p, q, h1, h2, rfl⟩ := h
        have ht := hr t (List.mem_cons_self ..)
        exact ⟨p, q, Below.trod hl ht.1 ht.2 h1 hb (fun x hx => hp x (List.mem_append_left _ hx)), ih vs ds q (fun u hu => hr u (List.mem_cons_of_mem _ hu)) (fun x hx => hp x (List.mem_append_right _ hx)) h2, rfl⟩
theorem law_contract {f : Nat} {fn : Func} {s : ChangeSpec} {n tb : Nat} (hl : laidOutB P = true) (hpl : ∀ t ∈ fn.params.toList, plainTy P n t = true)
    (hrd : ∀ t ∈ fn.params.toList, P.readableRec t = true ∧ t < P.types.size) (hres : fn.resultTypes = #[tb]) (htb : P.underlying tb = some .bool) (hsv : s.vars = [])
    (hs : ∀ ds : List (DataW H), ds.length = fn.params.size → s.fn H ds = { results := [.lit (.bool true)], args := ds })
    (hp : ∀ as, Rels (fun t a => Shape P n t a) fn.params.toList as → Pure P f as (.sc (.bool true)))
    (W : World) (base : Nat) (args : Array Value) (ds gs : List (DataW H)) (before : List MemPlace)
    (hval : ∀ (j : Nat) t v, fn.params[j]? = some t → args[j]? = some v → Value.okWide P W .any base t v)
    (hW : DataW.Whole enc P fn.params.toList s.vars false W args.toList ds gs before) :
    Calls P f args W fun e W' => ∃ v, e = .returned v ∧ s.post enc P fn false true false false W args v W' := by
  have hlt := hW.lt
  have hW0 := hW
  obtain ⟨p, q, hA, hV, rfl, hfz, hnd⟩ := hW
  rw [hsv] at hV
  obtain ⟨rfl, rfl⟩ := trodVars_none hV
  simp only [List.append_nil] at hlt hW0
  have hlen : ds.length = fn.params.size := by
    have : ∀ (ts : List Nat) (vs : List Value) (ds : List (DataW H)) (ps : List MemPlace), DataW.TrodAll enc P W 0 (fun _ => true) true ts vs ds ps → ds.length = ts.length := by
      intro ts
      induction ts with
      | nil => intro vs ds ps h; cases vs <;> cases ds <;> simp_all [DataW.TrodAll]
      | cons t ts ih =>
        intro vs ds ps h
        cases vs with
        | nil => simp [DataW.TrodAll] at h
        | cons v vs => cases ds with
          | nil => simp [DataW.TrodAll] at h
          | cons d ds => simp only [DataW.TrodAll] at h; obtain ⟨_, q, _, h2, _⟩ := h; simp [ih vs ds q h2]
    simpa using this _ _ _ _ hA
  obtain ⟨as, h1, h2, h3⟩ := trodAll_shape (n := n) fn.params.toList args.toList ds p hpl (fun j t v hj hv => by
    have := hval j t v (by simpa using hj) (by simpa using hv)
    exact Value.okWide_any_base this) hA
  have hrel : VRels (lawCtx W) true as args := ⟨by simpa using h2, fun i a v ha hv => h3 i a v ha (by simpa using hv)⟩
  refine ((hp as h1).2 W (fun b => b < W.heap.size) args (fun b hb => hb) (fun p hp => by cases hp) hrel).mono ?_
  rintro e W' ⟨v, rfl, hv, hb⟩
  have hvt : v = .bool true := hv.sc_inv
  subst hvt
  refine ⟨_, rfl, ds, [], p, [], p, [], hW0, ?_, ?_, ?_, ?_, fun h => by cases h⟩
  · rw [List.append_nil, hs ds hlen, hres]
    exact trodAll_cons_mk (shut_bool htb _) trodAll_mk0
  · rw [List.append_nil, hs ds hlen]
    exact trodAll_stays hl hb.toBelow _ _ _ _ hrd hlt hA
  · rw [List.append_nil, hs ds hlen, hsv]
    simp [DataW.TrodVars]
  · exact hb.frame _
end
theorem rels_cons {α β : Type} {R : α → β → Prop} {a : α} {as : List α} {bs : List β} (h : Rels R (a :: as) bs) : ∃ b r, bs = b :: r ∧ R a b ∧ Rels R as r := by
  cases h with | cons h hs => exact ⟨_, _, rfl, h, hs⟩
theorem rels_nil {α β : Type} {R : α → β → Prop} {bs : List β} (h : Rels R [] bs) : bs = [] := by cases h; rfl
end Go.Av

namespace Go.Av
variable [Gls]
def dstOk (nt : Nat) : Option Nat → Bool
  | some d => Nat.blt d nt
  | none => true
theorem dstOk_lt {nt : Nat} {dst : Option Nat} (h : dstOk nt dst = true) : ∀ d, dst = some d → d < nt := by
  rintro d rfl
  simpa [dstOk] using h
section
variable {P : Program} {T : Ty} {nt n0 : Nat} {s : St} {ops : Array Oper} {l : List Oper} {o : Oper} {K : St → Prop}
theorem stPu {a : AV} (hT : TyOk P T) (h : Pu T (evA s.A) s.H o.op a) (hg : o.guard = none) (hd : dstOk nt o.dst = true) (k : SemL P nt n0 ops l K ⟨updO s.A o.dst a, s.H, s.n⟩) :
    SemL P nt n0 ops (o :: l) K s :=
  SemL.step hg (dstOk_lt hd) (OpR.pu hT h) fun _ _ _ ⟨h1, h2, h3⟩ => by subst h1 h2 h3; exact k
theorem stMk {a : AV} {e : Eff} (hT : TyOk P T) (h : Mk T (evA s.A) s.H s.n o.op a e) (hx : ∀ old x, e = .app old x ∨ e = .new x → x.solo = true ∧ x.spent = false)
    (hg : o.guard = none) (hd : dstOk nt o.dst = true) (k : SemL P nt n0 ops l K ⟨updO s.A o.dst a, e.seq s.n s.H, s.n + 1⟩) : SemL P nt n0 ops (o :: l) K s :=
  SemL.step hg (dstOk_lt hd) (OpR.mk hT h hx) fun _ _ _ ⟨h1, h2, h3⟩ => by subst h1 h2 h3; exact k
theorem stNew {a : AV} {x : Obj} (hT : TyOk P T) (h : Mk T (evA s.A) s.H s.n o.op a (.new x)) (h1 : x.solo = true) (h2 : x.spent = false)
    (hg : o.guard = none) (hd : dstOk nt o.dst = true) (k : SemL P nt n0 ops l K ⟨updO s.A o.dst a, upd s.H s.n (some x), s.n + 1⟩) : SemL P nt n0 ops (o :: l) K s :=
  stMk hT h (fun old y hy => by rcases hy with hy | hy; cases hy; cases hy; exact ⟨h1, h2⟩) hg hd k
theorem stApp {a : AV} {old : Nat} {x : Obj} (hT : TyOk P T) (h : Mk T (evA s.A) s.H s.n o.op a (.app old x)) (h1 : x.solo = true) (h2 : x.spent = false)
    (hg : o.guard = none) (hd : dstOk nt o.dst = true) (k : SemL P nt n0 ops l K ⟨updO s.A o.dst a, upd (upd s.H old none) s.n (some x), s.n + 1⟩) : SemL P nt n0 ops (o :: l) K s :=
  stMk hT h (fun _ y hy => by rcases hy with hy | hy; cases hy; exact ⟨h1, h2⟩; cases hy) hg hd k
theorem stZero {a : AV} (hT : TyOk P T) (h : Mk T (evA s.A) s.H s.n o.op a .none)
    (hg : o.guard = none) (hd : dstOk nt o.dst = true) (k : SemL P nt n0 ops l K ⟨updO s.A o.dst a, s.H, s.n + 1⟩) : SemL P nt n0 ops (o :: l) K s :=
  stMk hT h (fun _ y hy => by rcases hy with hy | hy; cases hy; cases hy) hg hd k
theorem stSt {H' : Heap} (hT : TyOk P T) (h : StR T (evA s.A) s.H o.op H') (hg : o.guard = none) (hd : o.dst = none) (k : SemL P nt n0 ops l K ⟨s.A, H', s.n⟩) : SemL P nt n0 ops (o :: l) K s :=
  SemL.step hg (fun d h => by rw [hd] at h; cases h) (OpR.st hT h) fun _ _ _ ⟨h1, h2, h3⟩ => by subst h1 h2 h3; rw [hd]; exact k
theorem stPure {x : Operand} {args : Array Operand} {ts : Array Nat} {f : Nat} {bs : List AV} {r : AV} (ho : o.op = .call { callee := .value x, args := args, argTypes := ts }) (hx : evA s.A x = .fn f [])
    (hcv : Cvs false (fun _ => none) (args.toList.map (evA s.A)) bs) (hp0 : Pure P f bs r) (hg : o.guard = none) (hd : dstOk nt o.dst = true)
    (k : SemL P nt n0 ops l K ⟨updO s.A o.dst r, s.H, s.n⟩) : SemL P nt n0 ops (o :: l) K s :=
  SemL.step (R := fun r' H' n' => r' = r ∧ H' = s.H ∧ n' = s.n) hg (dstOk_lt hd) (OpR.call ho hx (by rw [List.append_nil]; exact HC.of_pure hp0 hcv (fun _ _ h => by cases h) (.inr fun _ => rfl))) fun _ _ _ ⟨h1, h2, h3⟩ => by subst h1 h2 h3; exact k
theorem stPureH {x : Operand} {args : Array Operand} {ts : Array Nat} {f : Nat} {bs : List AV} {r : AV} (ho : o.op = .call { callee := .value x, args := args, argTypes := ts }) (hx : evA s.A x = .fn f [])
    (hcv : Cvs false s.H (args.toList.map (evA s.A)) bs) (hp0 : Pure P f bs r) (hr : OwnO r) (hg : o.guard = none) (hd : dstOk nt o.dst = true)
    (k : SemL P nt n0 ops l K ⟨updO s.A o.dst r, s.H, s.n⟩) : SemL P nt n0 ops (o :: l) K s :=
  SemL.step (R := fun r' H' n' => r' = r ∧ H' = s.H ∧ n' = s.n) hg (dstOk_lt hd) (OpR.call ho hx (by rw [List.append_nil]; exact HC.of_pure hp0 hcv (fun _ _ h => h) (.inl hr))) fun _ _ _ ⟨h1, h2, h3⟩ => by subst h1 h2 h3; exact k
theorem stCall {x : Operand} {args : Array Operand} {ts : Array Nat} {f : Nat} {caps : List AV} {R : AV → Heap → Nat → Prop} (ho : o.op = .call { callee := .value x, args := args, argTypes := ts })
    (hx : evA s.A x = .fn f caps) (h : HC P f (args.toList.map (evA s.A) ++ caps) s.H s.n R) (hg : o.guard = none) (hd : dstOk nt o.dst = true)
    (k : ∀ r H' n', R r H' n' → SemL P nt n0 ops l K ⟨updO s.A o.dst r, H', n'⟩) : SemL P nt n0 ops (o :: l) K s :=
  SemL.step hg (dstOk_lt hd) (OpR.call ho hx h) k
theorem stGuard {j t : Nat} {want b : Bool} (hg : o.guard = some (j, want)) (hj : (ops[j]?).bind (·.dst) = some t) (ht : Nat.blt t nt = true) (hb : strip (s.A t) = .sc (.bool b)) (hd : dstOk nt o.dst = true)
    (h : b = want → SemL P nt n0 ops ({ o with guard := none } :: l) K s) (hn : b ≠ want → SemL P nt n0 ops l K ⟨updO s.A o.dst (.sc undef), s.H, s.n⟩) : SemL P nt n0 ops (o :: l) K s := by
  intro c0 H0 c act g Qx hQ R
  have hy := yielded_eq g hj (by simpa using ht) hb
  by_cases hbw : b = want
  · have := h hbw c0 H0 c act g Qx hQ R
    exact wpListR_cons_eq (o' := { o with guard := none }) rfl (by simp [Region.wanted, hg, hy, hbw]) this
  · have := hn hbw c0 H0 c _ (g.next (dstOk_lt hd) (.refl c) rfl (fun b hb => .inl hb) (.refl c s.H) (fun q x hx => .inr ⟨q, x, hx, rfl⟩) g.inv g.solo (Nat.le_refl _) (v := undef) .sc .sc) Qx (fun c' s' act' g' hd' => hQ c' s' act' g' (hd'.trans (put_defers _ _ _))) R
    exact wpListR_skip (by simp [Region.wanted, hg, hy, hbw]) this
end
def fr : List (Nat × AV) → Nat → AV
  | [], _ => .junk
  | (d, v) :: l, t => bif Nat.beq t d then v else fr l t
def hp0 : List (Nat × Obj) → Heap
  | [], _ => none
  | (d, x) :: l, o => bif Nat.beq o d then some x else hp0 l o
end Go.Av

namespace Go.Av
variable [Gls]
def foldS {V : Type} (f : Nat → V → V) (S : Nat → Bool) : Nat → V → V
  | 0, v => v
  | n + 1, v => bif S n then f n (foldS f S n v) else foldS f S n v
theorem foldS_congr {V : Type} {f : Nat → V → V} {S S' : Nat → Bool} : ∀ (n : Nat) (v : V), (∀ k, k < n → (∀ u, f k u = u) ∨ S k = S' k) → foldS f S n v = foldS f S' n v := by
  intro n
  induction n with
  | zero => intro v _; rfl
  | succ n ih =>
    intro v h
    have := ih v (fun k hk => h k (by omega))
    simp only [foldS, this]
    rcases h n (by omega) with h1 | h1
    · cases S n <;> cases S' n <;> simp [h1]
    · rw [h1]
theorem foldS_insert {V : Type} {f : Nat → V → V} {S : Nat → Bool} {i : Nat} (hi : S i = false) : ∀ (n : Nat) (v : V), i < n → (∀ k, k < n → S k = true → (∀ u, f k u = u) ∨ k < i) →
    foldS f (fun k => S k || Nat.beq k i) n v = f i (foldS f S n v) := by
  intro n
  induction n with
  | zero => intro v h; omega
  | succ n ih =>
    intro v hlt h
    simp only [foldS]
    by_cases hn : n = i
    · subst hn
      have hb : Nat.beq n n = true := by simp
      rw [hi, hb, Bool.false_or, cond_true, cond_false]
      congr 1
      refine foldS_congr n v fun k hk => .inr ?_
      have : Nat.beq k n = false := by rw [← Bool.not_eq_true, Nat.beq_eq]; omega
      simp [this]
    · have hb : Nat.beq n i = false := by rw [← Bool.not_eq_true, Nat.beq_eq]; exact hn
      have := ih v (by omega) (fun k hk => h k (by omega))
      rw [this, hb, Bool.or_false]
      cases hs : S n with
      | false => rfl
      | true =>
        rcases h n (by omega) hs with h1 | h1
        · simp [h1]
        · omega
theorem foldS_none {V : Type} {f : Nat → V → V} : ∀ (n : Nat) (v : V), foldS f (fun _ => false) n v = v
  | 0, _ => rfl
  | n + 1, v => foldS_none n v
def preOf (o : Oper) : List Nat := (o.after.toList.filter (Region.binds .any)).map (·.on)
def masksGo : List Nat → List Oper → List Nat
  | done, [] => done
  | done, o :: r => masksGo (done ++ [(preOf o).foldl (fun m j => m ||| 2 ^ j ||| done.getD j 0) 0]) r
def masks (ops : List Oper) : List Nat := masksGo [] ops
structure MaskOk (l : List Oper) (ms : List Nat) : Prop where
  len : ms.length = l.length
  step : ∀ (i : Nat) o m, l[i]? = some o → ms[i]? = some m → (∀ j ∈ preOf o, j < i) → ∀ q, m.testBit q = true → ∃ j ∈ preOf o, q = j ∨ (ms.getD j 0).testBit q = true
theorem foldl_bits (done : List Nat) : ∀ (l : List Nat) (m q : Nat), (l.foldl (fun m j => m ||| 2 ^ j ||| done.getD j 0) m).testBit q = true → m.testBit q = true ∨ ∃ j ∈ l, q = j ∨ (done.getD j 0).testBit q = true := by
  intro l
  induction l with
  | nil => intro m q h; exact .inl h
  | cons a l ih =>
    intro m q h
    rw [List.foldl_cons] at h
    rcases ih _ q h with h1 | ⟨j, hj, h2⟩
    · rw [Nat.testBit_or, Nat.testBit_or, Nat.testBit_two_pow] at h1
      simp only [Bool.or_eq_true, decide_eq_true_eq] at h1
      rcases h1 with (h1 | h1) | h1
      · exact .inl h1
      · exact .inr ⟨a, List.mem_cons_self .., .inl h1.symm⟩
      · exact .inr ⟨a, List.mem_cons_self .., .inr h1⟩
    · exact .inr ⟨j, List.mem_cons_of_mem _ hj, h2⟩
theorem masksGo_ok : ∀ (r pre : List Oper) (done : List Nat), MaskOk pre done → MaskOk (pre ++ r) (masksGo done r) := by
  intro r
  induction r with
  | nil => intro pre done h; simpa [masksGo] using h
  | cons o r ih =>
    intro pre done h
    have := ih (pre ++ [o]) (done ++ [(preOf o).foldl (fun m j => m ||| 2 ^ j ||| done.getD j 0) 0]) ?_
    · simpa [masksGo] using this
    · refine ⟨by simp [h.len], fun i o' m ho hm hlt q hq => ?_⟩
      have hget : ∀ j, j < done.length → (done ++ [(preOf o).foldl (fun m j => m ||| 2 ^ j ||| done.getD j 0) 0]).getD j 0 = done.getD j 0 := by
        intro j hj
        simp [List.getD, List.getElem?_append_left hj]
      by_cases hi : i < pre.length
      · rw [List.getElem?_append_left hi] at ho
        rw [List.getElem?_append_left (by rw [h.len]; exact hi)] at hm
        obtain ⟨j, hj, h2⟩ := h.step i o' m ho hm hlt q hq
        refine ⟨j, hj, ?_⟩
        rw [hget j (by rw [h.len]; have := hlt j hj; omega)]
        exact h2
      · have hie : i = pre.length := by
          have := (List.getElem?_eq_some_iff.1 ho).1
          simp at this; omega
        subst hie
        simp at ho
        subst ho
        rw [← h.len] at hm
        simp at hm
        subst hm
        rcases foldl_bits done _ 0 q hq with h1 | ⟨j, hj, h2⟩
        · simp at h1
        · refine ⟨j, hj, ?_⟩
          rw [hget j (by rw [h.len]; exact hlt j hj)]
          exact h2
theorem masks_ok (l : List Oper) : MaskOk l (masks l) := by
  have := masksGo_ok l [] [] ⟨rfl, fun i o m h => by simp at h⟩
  simpa [masks] using this
theorem closed_masks {l : List Oper} {S : Nat → Bool} (hpre : ∀ (i : Nat) o, l[i]? = some o → ∀ j ∈ preOf o, j < i) (hS : ∀ (i : Nat) o, l[i]? = some o → S i = true → ∀ j ∈ preOf o, S j = true) :
    ∀ (i : Nat) o, l[i]? = some o → (∀ j ∈ preOf o, S j = true) → ∀ q, ((masks l).getD i 0).testBit q = true → S q = true ∧ q < i := by
  intro i
  induction i using Nat.strongRecOn with
  | _ i ih =>
    intro o ho hj q hq
    have hlt : i < (masks l).length := by rw [(masks_ok l).len]; exact (List.getElem?_eq_some_iff.1 ho).1
    have hm : (masks l)[i]? = some ((masks l).getD i 0) := by simp [List.getD, hlt]
    obtain ⟨j, hjm, h2⟩ := (masks_ok l).step i o _ ho hm (hpre i o ho) q hq
    have hji := hpre i o ho j hjm
    rcases h2 with rfl | h2
    · exact ⟨hj q hjm, hji⟩
    · have hjl : j < l.length := by have := (List.getElem?_eq_some_iff.1 ho).1; omega
      obtain ⟨h3, h4⟩ := ih j hji l[j] (List.getElem?_eq_getElem hjl) (hS j _ (List.getElem?_eq_getElem hjl) (hj j hjm)) q h2
      exact ⟨h3, by omega⟩
end Go.Av

namespace Go.Av
variable [Gls]
structure GoodM (nt : Nat) (c0 : Ctx) (H0 : Heap) (n0 : Nat) (c : Ctx) (A : Nat → AV) (H : Heap) (M : Nat → Prop) (act : Act) : Prop where
  inv : Inv c H M
  solo : ∀ o x, H o = some x → x.solo = true ∧ x.spent = false
  frame : ∀ t, VRel c false (A t) (act.tmps.getD t undef)
  ok : ∀ t, (A t).Ok M
  size : act.tmps.size = nt
  reach : Reach c0 H0 n0 c H
  le0 : ∀ q, q < n0 → M q
inductive WEff where
  | none
  | new (x : Obj)
  | app (old : Nat) (x : Obj)
  | set (o : Nat) (x : Obj)
def WEff.at (id : Nat) (o : Nat) : WEff → Option (Option Obj)
  | .none => .none
  | .new x => bif Nat.beq o id then some (some x) else .none
  | .app old x => bif Nat.beq o id then some (some x) else bif Nat.beq o old then some .none else .none
  | .set o' x => bif Nat.beq o o' then some (some x) else .none
def WEff.objs (id : Nat) : WEff → List Nat
  | .none => []
  | .new _ => [id]
  | .app old _ => [id, old]
  | .set o _ => [o]
theorem WEff.at_objs {id o : Nat} {e : WEff} (h : o ∉ e.objs id) : e.at id o = Option.none := by
  cases e <;> simp only [WEff.objs, List.mem_cons, List.not_mem_nil, or_false, not_or, not_false_eq_true, WEff.at] at h ⊢
  · have : Nat.beq o id = false := by rw [← Bool.not_eq_true, Nat.beq_eq]; exact h
    rw [this]; rfl
  · rename_i old _
    have h1 : Nat.beq o id = false := by rw [← Bool.not_eq_true, Nat.beq_eq]; exact h.1
    have h2 : Nat.beq o old = false := by rw [← Bool.not_eq_true, Nat.beq_eq]; exact h.2
    rw [h1, h2]; rfl
  · rename_i q _
    have : Nat.beq o q = false := by rw [← Bool.not_eq_true, Nat.beq_eq]; exact h
    rw [this]; rfl
def WEff.go (id : Nat) (e : WEff) (H : Heap) : Heap := fun o => (e.at id o).getD (H o)
theorem WEff.go_none (id : Nat) (H : Heap) : WEff.go id .none H = H := rfl
theorem WEff.go_new (id : Nat) (x : Obj) (H : Heap) : WEff.go id (.new x) H = upd H id (some x) := by
  funext o
  simp only [WEff.go, WEff.at]
  by_cases h : o = id
  · subst h; rw [upd_same]; simp
  · have : Nat.beq o id = false := by rw [← Bool.not_eq_true, Nat.beq_eq]; exact h
    rw [this, upd_other _ _ h]; rfl
theorem WEff.go_app (id old : Nat) (x : Obj) (H : Heap) : WEff.go id (.app old x) H = upd (upd H old Option.none) id (some x) := by
  funext o
  simp only [WEff.go, WEff.at]
  by_cases h : o = id
  · subst h; rw [upd_same]; simp
  · have h1 : Nat.beq o id = false := by rw [← Bool.not_eq_true, Nat.beq_eq]; exact h
    rw [h1, upd_other _ _ h, cond_false]
    by_cases h2 : o = old
    · subst h2; rw [upd_same]; simp
    · have h3 : Nat.beq o old = false := by rw [← Bool.not_eq_true, Nat.beq_eq]; exact h2
      rw [h3, upd_other _ _ h2]; rfl
theorem WEff.go_set (id o' : Nat) (x : Obj) (H : Heap) : WEff.go id (.set o' x) H = upd H o' (some x) := by
  funext o
  simp only [WEff.go, WEff.at]
  by_cases h : o = o'
  · subst h; rw [upd_same]; simp
  · have : Nat.beq o o' = false := by rw [← Bool.not_eq_true, Nat.beq_eq]; exact h
    rw [this, upd_other _ _ h]; rfl
inductive DOp (P : Program) (T : Ty) (A : Nat → AV) (V : Heap) (id : Nat) (o : Oper) : AV → WEff → Prop
  | pu {a} (h : Pu T (evA A) V o.op a) : DOp P T A V id o a .none
  | zero {a} (h : Mk T (evA A) V id o.op a .none) : DOp P T A V id o a .none
  | new {a x} (h : Mk T (evA A) V id o.op a (.new x)) (h1 : x.solo = true) (h2 : x.spent = false) : DOp P T A V id o a (.new x)
  | app {a old x} (h : Mk T (evA A) V id o.op a (.app old x)) (h1 : x.solo = true) (h2 : x.spent = false) : DOp P T A V id o a (.app old x)
  | store {t p x q i k y e ti} (ho : o.op = .store t p x) (hdst : o.dst = none) (hp : evA A p = .ptr q i k) (hH : V q = some y) (he : y.es[i]? = some e) (ht : T t = some ti) (hw : (evA A x).whole = true)
      (hsz : (evA A x).cells.length = ti.size) (hle : k + ti.size ≤ e.cells.length) (hpos : ti.size ≠ 0) : DOp P T A V id o (.sc undef) (.set q { y with es := y.es.set i (storeE e k (evA A x)) })
  | room {s x g t et n m b ti te xs y} (ho : o.op = .call { callee := .builtin .append, args := #[s, x], argTypes := #[t, t] }) (hs : evA A s = .ref b 0 n) (hg : evA A g = .mref b m) (hH : V b = some y)
      (hn : n ≤ y.es.length) (hroom : n + xs.length ≤ m) (hes : y.esz = te.size) (hx : SrcR V (evA A x) xs) (hne : xs ≠ []) (ht : T t = some ti) (hk : ti.kind = .slice et) (hte : T et = some te)
      (hsz : ∀ e ∈ xs, e.cells.length = te.size) : DOp P T A V id o (.ref b 0 (n + xs.length)) (.set b { y with es := y.es.take n ++ xs ++ y.es.drop (n + xs.length) })
  | pure {x args ts f caps bs r Vr} (ho : o.op = .call { callee := .value x, args := args, argTypes := ts }) (hx : evA A x = .fn f caps)
      (hcv : Cvs false Vr (args.toList.map (evA A) ++ caps) bs) (hp : Pure P f bs r) (hsub : ∀ o x, Vr o = some x → V o = some x) (hr : OwnO r ∨ ((∀ o, Vr o = none) ∧ ∀ M, r.Ok M)) : DOp P T A V id o r .none
  | callNew {x args ts f caps bs q len y} (ho : o.op = .call { callee := .value x, args := args, argTypes := ts }) (hx : evA A x = .fn f caps)
      (hcv : Cvs false (fun _ => none) (args.toList.map (evA A) ++ caps) bs) (hbs : ∀ b ∈ bs, ∀ M, b.Ok M) (hp : HC P f bs (fun _ => none) 0 (fun r H' _ => r = .ref q 0 len ∧ H' q = some y)) (hfree : ∀ e ∈ y.es, ∀ a ∈ e.cells, ∀ M, a.Ok M)
      (h1 : y.solo = true) (h2 : y.spent = false) : DOp P T A V id o (.ref id 0 len) (.new y)
  | callNewV {x args ts f caps q len y n V'} (ho : o.op = .call { callee := .value x, args := args, argTypes := ts }) (hx : evA A x = .fn f caps)
      (hV' : ∀ o x, V' o = some x → V o = some x ∧ o < n ∧ ∀ e ∈ x.es, ∀ a ∈ e.cells, a.Ok (fun q => ∃ z, V' q = some z)) (has : ∀ a ∈ args.toList.map (evA A) ++ caps, a.Ok (fun q => ∃ z, V' q = some z))
      (hp : HC P f (args.toList.map (evA A) ++ caps) V' n (fun r H' _ => r = .ref q 0 len ∧ H' q = some y ∧ n ≤ q ∧ ∀ o x, V' o = some x → H' o = some x)) (hfree : ∀ e ∈ y.es, ∀ a ∈ e.cells, a.Ok (fun q => ∃ z, V' q = some z))
      (h1 : y.solo = true) (h2 : y.spent = false) : DOp P T A V id o (.ref id 0 len) (.new y)
  | callSet {x args ts f caps q len as y y' v} (ho : o.op = .call { callee := .value x, args := args, argTypes := ts }) (hx : evA A x = .fn f caps) (hq : V q = some y)
      (hargs : args.toList.map (evA A) ++ caps = .ref q 0 len :: as) (has : ∀ a ∈ as, ∀ M, a.Ok M) (hfree : ∀ e ∈ y.es, ∀ a ∈ e.cells, ∀ M, a.Ok M) (hfree' : ∀ e ∈ y'.es, ∀ a ∈ e.cells, ∀ M, a.Ok M)
      (hp : HC P f (.ref 0 0 len :: as) (fun p => bif Nat.beq p 0 then some y else Option.none) 1 (fun r H' _ => r = .sc v ∧ H' 0 = some y')) (h1 : y'.solo = true) (h2 : y'.spent = false) : DOp P T A V id o (.sc v) (.set q y')
theorem OwnO.ok {a : AV} (h : OwnO a) (M : Nat → Prop) : a.Ok M := by
  induction h with
  | sc => exact .sc
  | nils => exact .nils
  | agg _ ih => exact .agg ih
  | tup _ ih => exact .tup ih
  | listNil => exact .list
  | list => exact .list
theorem GoodM.next {nt n0 : Nat} {c0 c c' : Ctx} {H0 H : Heap} {A : Nat → AV} {M M' : Nat → Prop} {act : Act} (g : GoodM nt c0 H0 n0 c A H M act) {H' : Heap} {dst : Option Nat} {a : AV} {v : Value}
    (hd : ∀ d, dst = some d → d < nt) (hle : c.Le M c') (hsa : c'.Sa = c.Sa) (hso : ∀ b, c'.So b → c.So b ∨ c.w.heap.size ≤ b ∨ ∃ o x, H o = some x ∧ (c.ρ o).blk = b) (hfr : Fr c H c'.w) (hown : OwnRel c H c' H')
    (hI : Inv c' H' M') (hs : ∀ o x, H' o = some x → x.solo = true ∧ x.spent = false) (hn : ∀ q, M q → M' q) (hv : VRel c' false a v) (hok : a.Ok M') :
    GoodM nt c0 H0 n0 c' (updO A dst a) H' M' (act.put dst v) := by
  refine ⟨hI, hs, ?_, ?_, ?_, g.reach.step hle (fun q hq => g.le0 q hq) hsa hso hfr hown, fun q hq => hn q (g.le0 q hq)⟩
  · intro t
    cases dst with
    | none => exact (g.frame t).mono hle (.inr (g.ok t))
    | some d =>
      simp only [updO, Act.put]
      rw [getD_set (by rw [g.size]; exact hd d rfl)]
      by_cases h : t = d
      · subst h; rw [if_pos rfl, upd_same]; exact hv
      · rw [if_neg h, upd_other _ _ h]; exact (g.frame t).mono hle (.inr (g.ok t))
  · intro t
    cases dst with
    | none => exact (g.ok t).mono hn
    | some d =>
      simp only [updO]
      by_cases h : t = d
      · subst h; rw [upd_same]; exact hok
      · rw [upd_other _ _ h]; exact (g.ok t).mono hn
  · cases dst with
    | none => exact g.size
    | some d => simpa [Act.put] using g.size
section
variable {nt n0 : Nat} {c0 c : Ctx} {H0 H : Heap} {A : Nat → AV} {M : Nat → Prop} {act : Act}
theorem GoodM.junk (g : GoodM nt c0 H0 n0 c A H M act) {A' : Nat → AV} (hA : ∀ t, A' t = A t ∨ A' t = .junk) : GoodM nt c0 H0 n0 c A' H M act :=
  ⟨g.inv, g.solo, fun t => by rcases hA t with h | h <;> rw [h]; exact g.frame t; exact .junk, fun t => by rcases hA t with h | h <;> rw [h]; exact g.ok t; exact .junk, g.size, g.reach, g.le0⟩
theorem GoodM.ev (g : GoodM nt c0 H0 n0 c A H M act) (x : Operand) : VRel c false (evA A x) (act.eval x) := by
  cases x with
  | tmp t => exact strip_rel (g.frame t)
  | const v => exact ofConst_rel c false v
  | global k => exact .sc
  | func f => exact .fn (fun _ => rfl) (by simp) (fun i a v ha _ => by simp at ha)
theorem GoodM.evOk (g : GoodM nt c0 H0 n0 c A H M act) (x : Operand) : (evA A x).Ok M := by
  cases x with
  | tmp t => exact strip_ok (g.ok t)
  | const v => exact ofConst_ok _ v
  | global k => exact .sc
  | func f => exact .fn (fun a ha => by simp at ha)
theorem Inv.view (hI : Inv c H M) {V : Heap} (hV : ∀ o x, V o = some x → H o = some x) : Inv c V M :=
  hI.forget (fun o x hx => ⟨x, hV o x hx, rfl, rfl, fun h => h⟩) (fun o o' x x' hx hx' hne hb => by
      have := hI.sep o o' x x' (hV o x hx) (hV o' x' hx') hne hb
      exact ⟨this.1, fun h => (this.2 h).1⟩)
theorem mkStep {P : Program} {T : Ty} {o : Oper} {a : AV} {e : Eff} {A' : Nat → AV} {V : Heap} {id : Nat} (hT : TyOk P T) (g : GoodM nt c0 H0 n0 c A H M act) (hA : ∀ t, A' t = A t ∨ A' t = .junk)
    (hV : ∀ o x, V o = some x → H o = some x) (hid : ¬ M id) (h : Mk T (evA A') V id o.op a e) (hx : ∀ old x, e = .app old x ∨ e = .new x → x.solo = true ∧ x.spent = false) (hd : ∀ d, o.dst = some d → d < nt)
    (K : Act → World → Prop) (Q : Exit → Act → World → Prop)
    (hK : ∀ c' v, GoodM nt c0 H0 n0 c' (updO A o.dst a) (e.seq id H) (fun q => M q ∨ q = id) (act.put o.dst v) → K (act.put o.dst v) c'.w) : o.wp P act c.w K Q := by
  have g' := g.junk hA
  obtain ⟨v, c', h1, hle, hsa, hso, hv, hok, hI1, hfr, hown⟩ := mk_ok hT g.inv hV hid g'.ev g'.evOk h
  unfold Oper.wp
  rw [h1]
  have key : Inv c' (e.seq id H) (fun q => M q ∨ q = id) ∧ (∀ o x, e.seq id H o = some x → x.solo = true ∧ x.spent = false) ∧ OwnRel c H c' (e.seq id H) := by
    cases e with
    | none => exact ⟨hI1, g.solo, hown⟩
    | new x =>
      refine ⟨hI1, fun o y hy => ?_, hown⟩
      simp only [Eff.seq] at hy
      by_cases ho : o = id
      · subst ho; rw [upd_same] at hy; cases hy; exact hx 0 x (.inr rfl)
      · rw [upd_other _ _ ho] at hy; exact g.solo o y hy
    | app old x =>
      have hxs := hx old x (.inl rfl)
      have hcase : ∀ o y, (Eff.app old x).seq id H o = some y → (o = id ∧ y = x) ∨ (o ≠ id ∧ o ≠ old ∧ H o = some y) := by
        intro o y hy
        simp only [Eff.seq] at hy
        by_cases ho : o = id
        · subst ho; rw [upd_same] at hy; cases hy; exact .inl ⟨rfl, rfl⟩
        · rw [upd_other _ _ ho] at hy
          by_cases hoo : o = old
          · subst hoo; rw [upd_same] at hy; cases hy
          · rw [upd_other _ _ hoo] at hy; exact .inr ⟨ho, hoo, hy⟩
      have hback : ∀ o y, (Eff.app old x).seq id H o = some y → ∃ z, (Eff.app old x).apply id H o = some z ∧ z.es = y.es ∧ z.esz = y.esz ∧ (y.spent = false → z.spent = false) := by
        intro o y hy
        rcases hcase o y hy with ⟨rfl, rfl⟩ | ⟨h1, h2, h3⟩
        · exact ⟨_, upd_same _ _ _, rfl, rfl, fun h => h⟩
        · exact ⟨y, by simp only [Eff.apply, upd_other _ _ h1, upd_other _ _ h2]; exact h3, rfl, rfl, fun h => h⟩
      have hsep : ∀ o o' y y', (Eff.app old x).seq id H o = some y → (Eff.app old x).seq id H o' = some y' → o ≠ o' → (c'.ρ o).blk ≠ (c'.ρ o').blk := by
        intro o o' y y' hy hy' hne hb
        obtain ⟨z, hz, _, _, hsp⟩ := hback o y hy
        obtain ⟨z', hz', _, _, hsp'⟩ := hback o' y' hy'
        have hy0 : y.spent = false := by rcases hcase o y hy with ⟨_, rfl⟩ | ⟨_, _, h3⟩; exact hxs.2; exact (g.solo o y h3).2
        have hy0' : y'.spent = false := by rcases hcase o' y' hy' with ⟨_, rfl⟩ | ⟨_, _, h3⟩; exact hxs.2; exact (g.solo o' y' h3).2
        have := ((hI1.sep o o' z z' hz hz' hne hb).2 (hsp hy0)).1
        rw [hsp' hy0'] at this
        cases this
      refine ⟨hI1.forget hback fun o o' y y' hy hy' hne hb => absurd hb (hsep o o' y y' hy hy' hne), fun o y hy => ?_, fun o y hy => ?_⟩
      · rcases hcase o y hy with ⟨_, rfl⟩ | ⟨_, _, h3⟩
        · exact hxs
        · exact g.solo o y h3
      · obtain ⟨z, hz, _⟩ := hback o y hy
        exact hown o z hz
  exact hK c' v (g.next hd hle hsa (fun b hb => .inl (by rw [hso] at hb; exact hb)) hfr key.2.2 key.1 key.2.1 (fun q => .inl) hv hok)
theorem DOp.step {P : Program} {T : Ty} {o : Oper} {a : AV} {e : WEff} {A' : Nat → AV} {V : Heap} {id b : Nat} (hT : TyOk P T) (g : GoodM nt c0 H0 n0 c A H M act) (hM : ∀ q, M q → q < b) (hA : ∀ t, A' t = A t ∨ A' t = .junk)
    (hV : ∀ o x, V o = some x → H o = some x) (hid : ¬ M id) (h : DOp P T A' V id o a e) (hd : ∀ d, o.dst = some d → d < nt)
    (K : Act → World → Prop) (Q : Exit → Act → World → Prop)
    (hK : ∀ c' v, GoodM nt c0 H0 n0 c' (updO A o.dst a) (e.go id H) (fun q => M q ∨ q = id) (act.put o.dst v) → K (act.put o.dst v) c'.w) : o.wp P act c.w K Q := by
  have g' := g.junk hA
  have more : ∀ {q}, M q → M q ∨ q = id := fun h => .inl h
  cases h with
  | pu h =>
    obtain ⟨v, h1, h2, h3⟩ := pu_ok hT (g.inv.view hV) g'.ev g'.evOk h
    unfold Oper.wp
    rw [h1]
    exact hK c v (g.next hd (.refl c) rfl (fun b hb => .inl hb) (.refl c H) (fun q x hx => .inr ⟨q, x, hx, rfl⟩) (g.inv.more fun q h => .inl h) g.solo (fun q => .inl) h2 (h3.mono fun q h => .inl h))
  | zero h =>
    refine mkStep hT g hA hV hid h (fun old x hx => by rcases hx with hx | hx <;> cases hx) hd K Q fun c' v hg => hK c' v ?_
    exact hg
  | @new a x h hs1 hs2 =>
    refine mkStep hT g hA hV hid h (fun old y hx => by rcases hx with hx | hx <;> cases hx; exact ⟨hs1, hs2⟩) hd K Q fun c' v hg => hK c' v ?_
    rw [WEff.go_new]; exact hg
  | @app a old x h hs1 hs2 =>
    refine mkStep hT g hA hV hid h (fun old' y hx => by rcases hx with hx | hx <;> cases hx; exact ⟨hs1, hs2⟩) hd K Q fun c' v hg => hK c' v ?_
    rw [WEff.go_app]; exact hg
  | @store t p x q i k y e ti ho hdst hp hH he ht hw hsz hle hpos =>
    have hst : StR T (evA A') H o.op (upd H q (some { y with es := y.es.set i (storeE e k (evA A' x)) })) := by
      rw [ho]; exact .store hp (hV _ _ hH) (g.solo _ _ (hV _ _ hH)).1 he ht hw hsz hle hpos
    obtain ⟨c', h1, hle', hsa, hso, hI, hfr, hown⟩ := st_ok hT g.inv g'.ev g'.evOk hst
    unfold Oper.wp
    rw [h1]
    have hsolo := hst.solo g.solo
    have := hK c' undef
    rw [hdst, WEff.go_set] at this
    show K (act.put o.dst undef) c'.w
    rw [hdst]
    exact this (g.next (dst := none) (fun d h => by cases h) hle' hsa (fun b hb => .inl (by rw [hso] at hb; exact hb)) hfr hown (hI.more fun q h => .inl h) hsolo (fun q => .inl) (a := .sc undef) .sc .sc)
  | @room s x gg t et n m b ti te xs y ho hs hg hH hn hroom hes hx hne ht hk hte hsz =>
    have hx' : SrcR H (evA A' x) xs := by
      revert hx
      generalize evA A' x = u
      intro hx
      cases hx with
      | list => exact .list
      | nils => exact .nils
      | ref h1 h2 => exact .ref (hV _ _ h1) h2
    obtain ⟨v, c', h1, hle', hsa, hso, hv, hok, hI, hfr, hown⟩ := room_ok hT g.inv g'.ev g'.evOk ho hs hg (hV _ _ hH) (g.solo _ _ (hV _ _ hH)).1 hn hroom hes hx' hne ht hk hte hsz
    unfold Oper.wp
    rw [h1]
    have hsolo : ∀ q z, upd H b (some { y with es := y.es.take n ++ xs ++ y.es.drop (n + xs.length) }) q = some z → z.solo = true ∧ z.spent = false := by
      intro q z hz
      by_cases hq : q = b
      · subst hq; rw [upd_same] at hz; cases hz; exact g.solo q y (hV _ _ hH)
      · rw [upd_other _ _ hq] at hz; exact g.solo q z hz
    refine hK c' v ?_
    rw [WEff.go_set]
    exact g.next hd hle' hsa (fun b hb => .inl (by rw [hso] at hb; exact hb)) hfr hown (hI.more fun q h => .inl h) hsolo (fun q => .inl) hv (hok.mono fun q h => .inl h)
  | @pure x args ts f caps bs r Vr ho hx hcv hp hsub hr =>
    have hcall := HC.of_pure (H := H) (n := b) hp hcv (fun o x h => hV o x (hsub o x h)) (hr.imp (fun h => h) (·.1))
    let s : St := ⟨A', H, b⟩
    obtain ⟨⟨fn, code, hfn⟩, hc⟩ := hcall
    have hfx := g'.ev x
    rw [hx] at hfx
    have hfo := g'.evOk x
    rw [hx] at hfo
    obtain ⟨cv, hcv', hcl, hcr⟩ := hfx.fn_inv
    let vs : Array Value := args.map act.eval ++ cv
    have hrun : (execOp act.eval o).run P c.w = .ok (.enter f vs) c.w := by
      simp only [execOp, ho, resolve, hcv', Deferred.ofValue, Sem.run_bind, Sem.run_pure, Result.andThen_ok, invoke, callFunc, run_program, hfn.here, hfn.name, hfn.body, Option.isNone_some, Bool.false_eq_true, if_false, Array.empty_append]
      rfl
    unfold Oper.wp
    rw [hrun, Oper.upon_enter]
    have hrel : VRels c false (args.toList.map (evA A') ++ caps) vs := by
      refine ⟨by simp [vs, hcl], fun i a v ha hv => ?_⟩
      rw [List.getElem?_append] at ha
      simp only [vs, Array.getElem?_append, Array.size_map] at hv
      simp only [List.length_map, Array.length_toList] at ha
      by_cases hi : i < args.size
      · rw [if_pos hi] at ha hv
        rw [List.getElem?_map] at ha
        rw [Array.getElem?_map] at hv
        cases hq : args[i]? with
        | none => simp [hq] at hv
        | some q =>
          have hq' : args.toList[i]? = some q := by simpa using hq
          simp only [hq', Option.map_some, Option.some.injEq] at ha
          simp only [hq, Option.map_some, Option.some.injEq] at hv
          subst ha hv
          exact g'.ev q
      · rw [if_neg hi] at ha hv
        exact hcr _ a v ha hv
    have hoks : ∀ a ∈ args.toList.map (evA A') ++ caps, a.Ok (· < b) := by
      intro a ha
      rcases List.mem_append.1 ha with ha | ha
      · obtain ⟨q, _, rfl⟩ := List.mem_map.1 ha
        exact (g'.evOk q).mono hM
      · cases hfo with | fn hfo => exact (hfo a ha).mono hM
    refine (hc c vs (g.inv.more hM) g.solo hrel hoks).mono ?_
    rintro e w' ⟨v, r', H', n', c', ⟨rfl, rfl, rfl⟩, rfl, rfl, hle, hsa, hso, hfr, hown, hI, hs, hn, hv, hok⟩
    have hrefs : r'.Ok M := by
      rcases hr with h1 | h1
      · exact h1.ok M
      · exact h1.2 M
    refine hK c' v (g.next hd (hle.weaken hM) hsa hso hfr hown ?_ hs (fun q => .inl) hv (hrefs.mono fun q h => .inl h))
    refine ⟨fun o x hx => ?_, hI.sep, hI.stab, hI.lt, hI.base, hI.own, hI.low, hI.glob⟩
    obtain ⟨h1, _, h3⟩ := g.inv.obj o x hx
    exact ⟨.inl h1, (hI.obj o x hx).2.1, fun e he a ha => (h3 e he a ha).mono fun q h => .inl h⟩
  | @callNew x args ts f caps bs q len y ho hx hcv hbs hp hfree hs1 hs2 =>
    obtain ⟨⟨fn, code, hfn⟩, hc⟩ := hp
    have hfx := g'.ev x
    rw [hx] at hfx
    obtain ⟨cv, hcv', hcl, hcr⟩ := hfx.fn_inv
    let vs : Array Value := args.map act.eval ++ cv
    have hrun : (execOp act.eval o).run P c.w = .ok (.enter f vs) c.w := by
      simp only [execOp, ho, resolve, hcv', Deferred.ofValue, Sem.run_bind, Sem.run_pure, Result.andThen_ok, invoke, callFunc, run_program, hfn.here, hfn.name, hfn.body, Option.isNone_some, Bool.false_eq_true, if_false, Array.empty_append]
      rfl
    unfold Oper.wp
    rw [hrun, Oper.upon_enter]
    have hI0 : Inv c (fun _ => none) (· < 0) := ⟨(fun o x hx => by cases hx), (fun o o' x x' hx => by cases hx), (fun o x hx => by cases hx), g.inv.lt, g.inv.base, g.inv.own, (fun o x hx => by cases hx), g.inv.glob⟩
    have hrel0 : VRels c false (args.toList.map (evA A') ++ caps) vs := by
      refine ⟨by simp [vs, hcl], fun i a v ha hv => ?_⟩
      rw [List.getElem?_append] at ha
      simp only [vs, Array.getElem?_append, Array.size_map] at hv
      simp only [List.length_map, Array.length_toList] at ha
      by_cases hi : i < args.size
      · rw [if_pos hi] at ha hv
        rw [List.getElem?_map] at ha
        rw [Array.getElem?_map] at hv
        cases hq : args[i]? with
        | none => simp [hq] at hv
        | some q =>
          have hq' : args.toList[i]? = some q := by simpa using hq
          simp only [hq', Option.map_some, Option.some.injEq] at ha
          simp only [hq, Option.map_some, Option.some.injEq] at hv
          subst ha hv
          exact g'.ev q
      · rw [if_neg hi] at ha hv
        exact hcr _ a v ha hv
    have hrel : VRels c false bs vs := by
      refine ⟨by rw [← hcv.len]; exact hrel0.len, fun i b v hb hvv => ?_⟩
      have hlt : i < (args.toList.map (evA A') ++ caps).length := by rw [hcv.len]; exact (List.getElem?_eq_some_iff.1 hb).1
      have ha := List.getElem?_eq_getElem hlt
      exact (cv_ok hI0 (c' := c) rfl (fun b hb => Ctx.S_of_or hb) (fun h => by cases h) (fun o x hx => by cases hx) (hcv.rel i _ b ha hb) (hrel0.rel i _ v ha hvv)).shallow
    refine (hc c vs hI0 (fun o x hx => by cases hx) hrel (fun a ha => hbs a ha _)).mono ?_
    rintro e w' ⟨v, r', H', n', c', ⟨rfl, hy⟩, rfl, rfl, hle, hsa, hso, hfr, hown, hI, hs, hn, hv, hok⟩
    have hold : ∀ p, p < c.w.heap.size → c'.w.heap[p]? = c.w.heap[p]? := fun p hp => hfr.block p hp (fun o x hx => by cases hx)
    have hblk : ∀ o x, H o = some x → (c.ρ o).blk < c.w.heap.size := by
      intro o x hx
      obtain ⟨_, ⟨⟨cur, hcb, _⟩, _⟩, _⟩ := g.inv.obj o x hx
      exact (Array.getElem?_eq_some_iff.1 hcb).1
    have hnew : c.w.heap.size ≤ (c'.ρ q).blk := by
      rcases hown q y hy with h | ⟨o', x', h, _⟩
      · exact h
      · cases h
    have hso' : ∀ p, c'.So p → c.So p ∨ c.w.heap.size ≤ p := fun p hp => by
      rcases hso p hp with h | h | ⟨o, x, h, _⟩
      · exact .inl h
      · exact .inr h
      · cases h
    let c2 : Ctx := ⟨c'.w, upd c.ρ id (c'.ρ q), c.Sa, c'.So, c.B⟩
    have hρ : ∀ o, o ≠ id → c2.ρ o = c.ρ o := fun o ho => upd_other _ _ ho
    have hρid : c2.ρ id = c'.ρ q := upd_same _ _ _
    have hMid : ∀ o, M o → o ≠ id := fun o ho e => hid (e ▸ ho)
    have hle2 : c.Le M c2 := ⟨fun o ho => hρ o (hMid o ho), fun _ h => h, fun p hp => hle.so p hp, fun p hp => hold p (g.inv.lt p hp), rfl⟩
    have hB : c'.B = c.B := hle.B
    have hle3 : c'.Le (fun _ => False) c2 := ⟨fun o ho => ho.elim, fun p hp => by show c.Sa p; rw [← hsa]; exact hp, fun _ h => h, fun _ _ => rfl, hB.symm⟩
    have hcase : ∀ o x, upd H id (some y) o = some x → (o = id ∧ x = y) ∨ (o ≠ id ∧ H o = some x) := by
      intro o x hx
      by_cases ho : o = id
      · subst ho; rw [upd_same] at hx; cases hx; exact .inl ⟨rfl, rfl⟩
      · rw [upd_other _ _ ho] at hx; exact .inr ⟨ho, hx⟩
    have hI2 : Inv c2 (upd H id (some y)) (fun q => M q ∨ q = id) := by
      refine ⟨fun o x hx => ?_, fun o o' x x' hx hx' hne hb => ?_, fun o x hx => ?_, fun p hp => ?_, by show c.B ≤ _; rw [← hB]; exact hI.base, fun p hp => by show c.B ≤ _; rw [← hB]; exact hI.own p hp, fun o x hx => ?_, ?_⟩
      · rcases hcase o x hx with ⟨rfl, rfl⟩ | ⟨hne, hx⟩
        · obtain ⟨_, ⟨⟨cur, hb, hss, hcl⟩, h3, h4, h5⟩, _⟩ := hI.obj q x hy
          refine ⟨.inr rfl, ?_, fun e he a ha => hfree e he a ha _⟩
          rw [hρid]
          refine ⟨⟨cur, hb, hss, fun i e he => ?_⟩, h3, h4, h5⟩
          obtain ⟨k1, k2⟩ := hcl i e he
          exact ⟨k1, fun k a ha => by obtain ⟨v, hv, hr, h7⟩ := k2 k a ha; exact ⟨v, hv, hr.mono hle3 (.inr (hfree e (List.mem_of_getElem? he) a (List.mem_of_getElem? ha) _)), h7⟩⟩
        · obtain ⟨i1, ⟨⟨cur, hb, hss, hcl⟩, h3, h4, h5⟩, h6⟩ := g.inv.obj o x hx
          refine ⟨.inl i1, ?_, fun e he a ha => (h6 e he a ha).mono fun q h => .inl h⟩
          rw [hρ o hne]
          refine ⟨⟨cur, by show c'.w.heap[(c.ρ o).blk]? = _; rw [hold _ (hblk o x hx)]; exact hb, hss, fun i e he => ?_⟩, h3, h4, h5⟩
          obtain ⟨k1, k2⟩ := hcl i e he
          exact ⟨k1, fun k a ha => by obtain ⟨v, hv, hr, h7⟩ := k2 k a ha; exact ⟨v, hv, hr.mono hle2 (.inr (h6 e (List.mem_of_getElem? he) a (List.mem_of_getElem? ha))), h7⟩⟩
      · exfalso
        rcases hcase o x hx with ⟨rfl, rfl⟩ | ⟨hn1, hx⟩ <;> rcases hcase o' x' hx' with ⟨rfl, rfl⟩ | ⟨hn2, hx'⟩
        · exact hne rfl
        · rw [hρid, hρ o' hn2] at hb
          have := hblk o' x' ‹H o' = some x'›
          omega
        · rw [hρid, hρ o hn1] at hb
          have := hblk o x ‹H o = some x›
          omega
        · rw [hρ o hn1, hρ o' hn2] at hb
          have := (g.inv.sep o o' x x' ‹H o = some x› ‹H o' = some x'› hne hb).1
          rw [(g.solo o x ‹H o = some x›).1] at this; cases this
      · rcases hcase o x hx with ⟨rfl, rfl⟩ | ⟨hne, hx⟩
        · rw [hρid]
          have := hI.stab q x hy
          exact ⟨fun h => this.1 (by rw [hsa]; exact h), this.2⟩
        · rw [hρ o hne]
          have := g.inv.stab o x hx
          exact ⟨this.1, fun h => (hso' _ h).elim this.2 fun h => by have := hblk o x hx; omega⟩
      · refine hI.lt p (hp.imp (fun h => by rw [hsa]; exact h) fun h => h)
      · rcases hcase o x hx with ⟨rfl, rfl⟩ | ⟨hne, hx⟩
        · rw [hρid]; show c.B ≤ _; rw [← hB]; exact hI.low q x hy
        · rw [hρ o hne]; exact g.inv.low o x hx
      · exact hI.glob.of (fun p hp => by show c.Sa p; rw [← hsa]; exact hp) fun _ _ => rfl
    refine hK c2 v ?_
    rw [WEff.go_new]
    refine g.next (c' := c2) hd hle2 rfl (fun p hp => (hso' p hp).imp (fun h => h) .inl) ⟨hfr.os, hfr.tape, hfr.output, hfr.size, fun p hp _ => hold p hp⟩ (fun o x hx => ?_) hI2 (fun o x hx => ?_) (fun q => .inl) ?_ (.ref (.inr rfl))
    · rcases hcase o x hx with ⟨rfl, rfl⟩ | ⟨hne, hx⟩
      · rw [hρid]; exact .inl hnew
      · exact .inr ⟨o, x, hx, by rw [hρ o hne]⟩
    · rcases hcase o x hx with ⟨rfl, rfl⟩ | ⟨hne, hx⟩
      · exact ⟨hs1, hs2⟩
      · exact g.solo o x hx
    · obtain ⟨hp, hle'⟩ := hv.ref_inv
      rw [hp]
      have : VRel c2 false (.ref id 0 len) (.slice (some ⟨(c2.ρ id).blk, 0 * (c2.ρ id).esz, none⟩) len ((c2.ρ id).cap - 0)) := .ref (by rw [hρid]; exact hle')
      rw [hρid] at this
      exact this
  | @callSet x args ts f caps q len as y y' v ho hx hq hargs has hfree hfree' hp hs1 hs2 =>
    obtain ⟨⟨fn, code, hfn⟩, hc⟩ := hp
    have hfx := g'.ev x
    rw [hx] at hfx
    obtain ⟨cv, hcv', hcl, hcr⟩ := hfx.fn_inv
    let vs : Array Value := args.map act.eval ++ cv
    have hrun : (execOp act.eval o).run P c.w = .ok (.enter f vs) c.w := by
      simp only [execOp, ho, resolve, hcv', Deferred.ofValue, Sem.run_bind, Sem.run_pure, Result.andThen_ok, invoke, callFunc, run_program, hfn.here, hfn.name, hfn.body, Option.isNone_some, Bool.false_eq_true, if_false, Array.empty_append]
      rfl
    unfold Oper.wp
    rw [hrun, Oper.upon_enter]
    have hqH : H q = some y := hV _ _ hq
    have hrel0 : VRels c false (args.toList.map (evA A') ++ caps) vs := by
      refine ⟨by simp [vs, hcl], fun i a v ha hv => ?_⟩
      rw [List.getElem?_append] at ha
      simp only [vs, Array.getElem?_append, Array.size_map] at hv
      simp only [List.length_map, Array.length_toList] at ha
      by_cases hi : i < args.size
      · rw [if_pos hi] at ha hv
        rw [List.getElem?_map] at ha
        rw [Array.getElem?_map] at hv
        cases hq : args[i]? with
        | none => simp [hq] at hv
        | some q =>
          have hq' : args.toList[i]? = some q := by simpa using hq
          simp only [hq', Option.map_some, Option.some.injEq] at ha
          simp only [hq, Option.map_some, Option.some.injEq] at hv
          subst ha hv
          exact g'.ev q
      · rw [if_neg hi] at ha hv
        exact hcr _ a v ha hv
    rw [hargs] at hrel0
    let c1 : Ctx := { c with ρ := fun _ => c.ρ q }
    have hle1 : c.Le (fun _ => False) c1 := ⟨fun o ho => ho.elim, fun _ h => h, fun _ h => h, fun _ _ => rfl, rfl⟩
    let H1 : Heap := fun p => bif Nat.beq p 0 then some y else none
    have hH1 : ∀ o z, H1 o = some z → o = 0 ∧ z = y := by
      intro o z hz
      simp only [H1] at hz
      cases hb : Nat.beq o 0 with
      | true => rw [hb, cond_true] at hz; cases hz; exact ⟨Nat.eq_of_beq_eq_true hb, rfl⟩
      | false => rw [hb] at hz; cases hz
    obtain ⟨i1, ⟨⟨cur, hcb, hcs, hcc⟩, hfit, hpos, hsame⟩, _⟩ := g.inv.obj q y hqH
    have hI0 : Inv c1 H1 (· < 1) := by
      refine ⟨fun o z hz => ?_, fun o o' z z' hz hz' hne => ?_, fun o z hz => ?_, g.inv.lt, g.inv.base, g.inv.own, fun o z hz => ?_, g.inv.glob.rho _⟩
      · obtain ⟨rfl, rfl⟩ := hH1 o z hz
        refine ⟨Nat.one_pos, ⟨⟨cur, hcb, hcs, fun i e he => ?_⟩, hfit, hpos, hsame⟩, fun e he a ha => hfree e he a ha _⟩
        obtain ⟨k1, k2⟩ := hcc i e he
        exact ⟨k1, fun k a ha => by obtain ⟨v, hv, hr, h7⟩ := k2 k a ha; exact ⟨v, hv, hr.mono hle1 (.inr (hfree e (List.mem_of_getElem? he) a (List.mem_of_getElem? ha) _)), h7⟩⟩
      · exact absurd ((hH1 o z hz).1.trans (hH1 o' z' hz').1.symm) hne
      · obtain ⟨rfl, rfl⟩ := hH1 o z hz; exact g.inv.stab q z hqH
      · obtain ⟨rfl, rfl⟩ := hH1 o z hz; exact g.inv.low q z hqH
    have hrel : VRels c1 false (.ref 0 0 len :: as) vs := by
      refine ⟨hrel0.len, fun i a v ha hv => ?_⟩
      cases i with
      | zero =>
        have ha : some (AV.ref 0 0 len) = some a := ha
        cases ha
        have h0 := hrel0.rel 0 _ v rfl hv
        cases h0 with | ref hle => exact .ref (c := c1) (o := 0) hle
      | succ i =>
        have ha : as[i]? = some a := ha
        exact (hrel0.rel (i + 1) a v ha hv).mono hle1 (.inr (has a (List.mem_of_getElem? ha) _))
    refine (hc c1 vs hI0 (fun o z hz => by obtain ⟨rfl, rfl⟩ := hH1 o z hz; exact g.solo q z hqH) hrel (fun a ha => by
      rcases List.mem_cons.1 ha with rfl | ha
      · exact .ref Nat.one_pos
      · exact has a ha _)).mono ?_
    rintro e w' ⟨u, r', H', n', c', ⟨rfl, hy⟩, rfl, rfl, hle, hsa, hso, hfr, hown, hI, hs, hn, hv, hok⟩
    have hρ0 : c'.ρ 0 = c.ρ q := hle.rho 0 Nat.one_pos
    have hblk : ∀ o x, H o = some x → (c.ρ o).blk < c.w.heap.size := by
      intro o x hx
      obtain ⟨_, ⟨⟨cur, hcb, _⟩, _⟩, _⟩ := g.inv.obj o x hx
      exact (Array.getElem?_eq_some_iff.1 hcb).1
    have hsep : ∀ o x, H o = some x → o ≠ q → (c.ρ o).blk ≠ (c.ρ q).blk := fun o x hx hne hb => by
      have := (g.inv.sep o q x y hx hqH hne hb).1
      rw [(g.solo o x hx).1] at this; cases this
    have hso' : ∀ p, c'.So p → c.So p ∨ c.w.heap.size ≤ p := fun p hp => by
      rcases hso p hp with h | h | ⟨o, z, h, h2⟩
      · exact .inl h
      · exact .inr h
      · exfalso
        have h2 : (c.ρ q).blk = p := h2
        have := (hI.stab 0 y' hy).2
        rw [hρ0, h2] at this
        exact this hp
    have hold : ∀ p, p < c.w.heap.size → (c.ρ q).blk ≠ p → c'.w.heap[p]? = c.w.heap[p]? := fun p hp hn => hfr.block p hp fun o z _ => hn
    have holdS : ∀ p, c.Sa p ∨ c.So p → c'.w.heap[p]? = c.w.heap[p]? := hle.heap
    let c2 : Ctx := ⟨c'.w, c.ρ, c.Sa, c'.So, c.B⟩
    have hle2 : c.Le M c2 := ⟨fun o ho => rfl, fun _ h => h, fun p hp => hle.so p hp, holdS, rfl⟩
    have hB : c'.B = c.B := hle.B
    have hle3 : c'.Le (fun _ => False) c2 := ⟨fun o ho => ho.elim, fun p hp => by show c.Sa p; rw [← (show c'.Sa = c.Sa from hsa)]; exact hp, fun _ h => h, fun _ _ => rfl, hB.symm⟩
    have hcase : ∀ o x, upd H q (some y') o = some x → (o = q ∧ x = y') ∨ (o ≠ q ∧ H o = some x) := by
      intro o x hx
      by_cases ho : o = q
      · subst ho; rw [upd_same] at hx; cases hx; exact .inl ⟨rfl, rfl⟩
      · rw [upd_other _ _ ho] at hx; exact .inr ⟨ho, hx⟩
    have hI2 : Inv c2 (upd H q (some y')) (fun p => M p ∨ p = id) := by
      refine ⟨fun o x hx => ?_, fun o o' x x' hx hx' hne hb => ?_, fun o x hx => ?_, fun p hp => ?_, by show c.B ≤ _; rw [← hB]; exact hI.base, fun p hp => by show c.B ≤ _; rw [← hB]; exact hI.own p hp, fun o x hx => ?_, ?_⟩
      · rcases hcase o x hx with ⟨rfl, rfl⟩ | ⟨hne, hx⟩
        · obtain ⟨_, ⟨⟨cur', hb, hss, hcl⟩, h3, h4, h5⟩, _⟩ := hI.obj 0 x hy
          rw [hρ0] at hb hss hcl h3 h4 h5
          refine ⟨.inl i1, ⟨⟨cur', hb, hss, fun i e he => ?_⟩, h3, h4, h5⟩, fun e he a ha => hfree' e he a ha _⟩
          obtain ⟨k1, k2⟩ := hcl i e he
          exact ⟨k1, fun k a ha => by obtain ⟨v, hv, hr, h7⟩ := k2 k a ha; exact ⟨v, hv, hr.mono hle3 (.inr (hfree' e (List.mem_of_getElem? he) a (List.mem_of_getElem? ha) _)), h7⟩⟩
        · obtain ⟨j1, ⟨⟨cur', hb, hss, hcl⟩, h3, h4, h5⟩, h6⟩ := g.inv.obj o x hx
          refine ⟨.inl j1, ⟨⟨cur', by show c'.w.heap[(c.ρ o).blk]? = _; rw [hold _ (hblk o x hx) (fun e => hsep o x hx hne e.symm)]; exact hb, hss, fun i e he => ?_⟩, h3, h4, h5⟩, fun e he a ha => (h6 e he a ha).mono fun q h => .inl h⟩
          obtain ⟨k1, k2⟩ := hcl i e he
          exact ⟨k1, fun k a ha => by obtain ⟨v, hv, hr, h7⟩ := k2 k a ha; exact ⟨v, hv, hr.mono hle2 (.inr (h6 e (List.mem_of_getElem? he) a (List.mem_of_getElem? ha))), h7⟩⟩
      · exfalso
        rcases hcase o x hx with ⟨rfl, rfl⟩ | ⟨hn1, hx⟩ <;> rcases hcase o' x' hx' with ⟨rfl, rfl⟩ | ⟨hn2, hx'⟩
        · exact hne rfl
        · exact hsep o' x' ‹H o' = some x'› hn2 hb.symm
        · exact hsep o x ‹H o = some x› hn1 hb
        · have := (g.inv.sep o o' x x' ‹H o = some x› ‹H o' = some x'› hne hb).1
          rw [(g.solo o x ‹H o = some x›).1] at this; cases this
      · have hold1 : ∀ o z, H o = some z → ¬ c2.Sa (c2.ρ o).blk ∧ ¬ c2.So (c2.ρ o).blk := fun o z hz => by
          have := g.inv.stab o z hz
          exact ⟨this.1, fun h => (hso' _ h).elim this.2 fun h => by have := hblk o z hz; have h : c.w.heap.size ≤ (c.ρ o).blk := h; omega⟩
        rcases hcase o x hx with ⟨rfl, rfl⟩ | ⟨hne, hx⟩
        · exact hold1 o y hqH
        · exact hold1 o x hx
      · refine hI.lt p (hp.imp (fun h => by rw [show c'.Sa = c.Sa from hsa]; exact h) fun h => h)
      · rcases hcase o x hx with ⟨rfl, rfl⟩ | ⟨hne, hx⟩
        · exact g.inv.low o y hqH
        · exact g.inv.low o x hx
      · exact hI.glob.of (fun p hp => by show c.Sa p; rw [← (show c'.Sa = c.Sa from hsa)]; exact hp) fun _ _ => rfl
    refine hK c2 u ?_
    rw [WEff.go_set]
    have hu := hv.sc_inv
    refine g.next (c' := c2) hd hle2 rfl (fun p hp => (hso' p hp).imp (fun h => h) .inl) ⟨hfr.os, hfr.tape, hfr.output, hfr.size, fun p hp hn => hold p hp (hn q y hqH)⟩ (fun o x hx => ?_) hI2 (fun o x hx => ?_) (fun q => .inl) (by rw [← hu]; exact .sc) .sc
    · rcases hcase o x hx with ⟨rfl, rfl⟩ | ⟨hne, hx⟩
      · exact .inr ⟨o, y, hqH, rfl⟩
      · exact .inr ⟨o, x, hx, rfl⟩
    · rcases hcase o x hx with ⟨rfl, rfl⟩ | ⟨hne, hx⟩
      · exact ⟨hs1, hs2⟩
      · exact g.solo o x hx
  | @callNewV x args ts f caps q len y n V' ho hx hV' has hp hfree hs1 hs2 =>
    obtain ⟨⟨fn, code, hfn⟩, hc⟩ := hp
    have hfx := g'.ev x
    rw [hx] at hfx
    obtain ⟨cv, hcv', hcl, hcr⟩ := hfx.fn_inv
    let vs : Array Value := args.map act.eval ++ cv
    have hrun : (execOp act.eval o).run P c.w = .ok (.enter f vs) c.w := by
      simp only [execOp, ho, resolve, hcv', Deferred.ofValue, Sem.run_bind, Sem.run_pure, Result.andThen_ok, invoke, callFunc, run_program, hfn.here, hfn.name, hfn.body, Option.isNone_some, Bool.false_eq_true, if_false, Array.empty_append]
      rfl
    unfold Oper.wp
    rw [hrun, Oper.upon_enter]
    have hVH : ∀ o x, V' o = some x → H o = some x := fun o x hx => hV _ _ (hV' o x hx).1
    have hVM : ∀ o, (∃ z, V' o = some z) → M o := fun o ⟨z, hz⟩ => (g.inv.obj o z (hVH o z hz)).1
    have hI0 : Inv c V' (· < n) := by
      have h := g.inv.view hVH
      refine ⟨fun o x hx => ?_, h.sep, h.stab, h.lt, h.base, h.own, h.low, h.glob⟩
      obtain ⟨_, h2, _⟩ := h.obj o x hx
      exact ⟨(hV' o x hx).2.1, h2, fun e he a ha => ((hV' o x hx).2.2 e he a ha).mono fun q ⟨z, hz⟩ => (hV' q z hz).2.1⟩
    have hrel : VRels c false (args.toList.map (evA A') ++ caps) vs := by
      refine ⟨by simp [vs, hcl], fun i a v ha hv => ?_⟩
      rw [List.getElem?_append] at ha
      simp only [vs, Array.getElem?_append, Array.size_map] at hv
      simp only [List.length_map, Array.length_toList] at ha
      by_cases hi : i < args.size
      · rw [if_pos hi] at ha hv
        rw [List.getElem?_map] at ha
        rw [Array.getElem?_map] at hv
        cases hq : args[i]? with
        | none => simp [hq] at hv
        | some q =>
          have hq' : args.toList[i]? = some q := by simpa using hq
          simp only [hq', Option.map_some, Option.some.injEq] at ha
          simp only [hq, Option.map_some, Option.some.injEq] at hv
          subst ha hv
          exact g'.ev q
      · rw [if_neg hi] at ha hv
        exact hcr _ a v ha hv
    refine (hc c vs hI0 (fun o x hx => g.solo o x (hVH o x hx)) hrel (fun a ha => (has a ha).mono fun q ⟨z, hz⟩ => (hV' q z hz).2.1)).mono ?_
    rintro e w' ⟨v, r', H', n', c', ⟨rfl, hy, hqn, hkeep⟩, rfl, rfl, hle, hsa, hso, hfr, hown, hI, hs, hn, hv, hok⟩
    have hblk : ∀ o x, H o = some x → (c.ρ o).blk < c.w.heap.size := by
      intro o x hx
      obtain ⟨_, ⟨⟨cur, hcb, _⟩, _⟩, _⟩ := g.inv.obj o x hx
      exact (Array.getElem?_eq_some_iff.1 hcb).1
    have hρn : ∀ o, (∃ z, V' o = some z) → c'.ρ o = c.ρ o := fun o ⟨z, hz⟩ => hle.rho o (hV' o z hz).2.1
    have hqV : ∀ o x, V' o = some x → (c'.ρ q).blk ≠ (c.ρ o).blk := fun o x hx hb => by
      have hne : q ≠ o := fun e => by have := (hV' o x hx).2.1; omega
      rw [← hρn o ⟨x, hx⟩] at hb
      have := (hI.sep q o y x hy (hkeep o x hx) hne hb).1
      rw [hs1] at this; cases this
    have hnew : c.w.heap.size ≤ (c'.ρ q).blk := by
      rcases hown q y hy with h | ⟨o', x', h, h2⟩
      · exact h
      · exact absurd h2.symm (hqV o' x' h)
    have hso' : ∀ p, c'.So p → c.So p ∨ c.w.heap.size ≤ p := fun p hp => by
      rcases hso p hp with h | h | ⟨o, x, h, h2⟩
      · exact .inl h
      · exact .inr h
      · exfalso
        have := (hI.stab o x (hkeep o x h)).2
        rw [hρn o ⟨x, h⟩, h2] at this
        exact this hp
    have hold : ∀ p, p < c.w.heap.size → (∀ o x, V' o = some x → (c.ρ o).blk ≠ p) → c'.w.heap[p]? = c.w.heap[p]? := fun p hp hn => hfr.block p hp hn
    have holdS : ∀ p, c.Sa p ∨ c.So p → c'.w.heap[p]? = c.w.heap[p]? := hle.heap
    let c2 : Ctx := ⟨c'.w, upd c.ρ id (c'.ρ q), c.Sa, c'.So, c.B⟩
    have hρ : ∀ o, o ≠ id → c2.ρ o = c.ρ o := fun o ho => upd_other _ _ ho
    have hρid : c2.ρ id = c'.ρ q := upd_same _ _ _
    have hMid : ∀ o, M o → o ≠ id := fun o ho e => hid (e ▸ ho)
    have hle2 : c.Le M c2 := ⟨fun o ho => hρ o (hMid o ho), fun _ h => h, fun p hp => hle.so p hp, holdS, rfl⟩
    have hB : c'.B = c.B := hle.B
    have hle3 : c'.Le (fun o => ∃ z, V' o = some z) c2 := ⟨fun o ho => (hρ o (hMid o (hVM o ho))).trans (hρn o ho).symm, fun p hp => by show c.Sa p; rw [← hsa]; exact hp, fun _ h => h, fun _ _ => rfl, hB.symm⟩
    have hcase : ∀ o x, upd H id (some y) o = some x → (o = id ∧ x = y) ∨ (o ≠ id ∧ H o = some x) := by
      intro o x hx
      by_cases ho : o = id
      · subst ho; rw [upd_same] at hx; cases hx; exact .inl ⟨rfl, rfl⟩
      · rw [upd_other _ _ ho] at hx; exact .inr ⟨ho, hx⟩
    have hI2 : Inv c2 (upd H id (some y)) (fun q => M q ∨ q = id) := by
      refine ⟨fun o x hx => ?_, fun o o' x x' hx hx' hne hb => ?_, fun o x hx => ?_, fun p hp => ?_, by show c.B ≤ _; rw [← hB]; exact hI.base, fun p hp => by show c.B ≤ _; rw [← hB]; exact hI.own p hp, fun o x hx => ?_, ?_⟩
      · rcases hcase o x hx with ⟨rfl, rfl⟩ | ⟨hne, hx⟩
        · obtain ⟨_, ⟨⟨cur, hb, hss, hcl⟩, h3, h4, h5⟩, _⟩ := hI.obj q x hy
          refine ⟨.inr rfl, ?_, fun e he a ha => (hfree e he a ha).mono fun q hq => .inl (hVM q hq)⟩
          rw [hρid]
          refine ⟨⟨cur, hb, hss, fun i e he => ?_⟩, h3, h4, h5⟩
          obtain ⟨k1, k2⟩ := hcl i e he
          exact ⟨k1, fun k a ha => by obtain ⟨v, hv, hr, h7⟩ := k2 k a ha; exact ⟨v, hv, hr.mono hle3 (.inr (hfree e (List.mem_of_getElem? he) a (List.mem_of_getElem? ha))), h7⟩⟩
        · obtain ⟨i1, ⟨⟨cur, hb, hss, hcl⟩, h3, h4, h5⟩, h6⟩ := g.inv.obj o x hx
          refine ⟨.inl i1, ?_, fun e he a ha => (h6 e he a ha).mono fun q h => .inl h⟩
          rw [hρ o hne]
          by_cases hin : ∃ z, V' o = some z
          · obtain ⟨z, hz⟩ := hin
            have hzx : z = x := by have := hVH o z hz; rw [hx] at this; exact (Option.some.inj this).symm
            subst hzx
            obtain ⟨_, ⟨⟨cur', hb', hss', hcl'⟩, h3', h4', h5'⟩, _⟩ := hI.obj o z (hkeep o z hz)
            rw [hρn o ⟨z, hz⟩] at hb' hss' hcl' h3' h4' h5'
            refine ⟨⟨cur', hb', hss', fun i e he => ?_⟩, h3', h4', h5'⟩
            obtain ⟨k1, k2⟩ := hcl' i e he
            exact ⟨k1, fun k a ha => by obtain ⟨v, hv, hr, h7⟩ := k2 k a ha; exact ⟨v, hv, hr.mono hle3 (.inr ((hV' o z hz).2.2 e (List.mem_of_getElem? he) a (List.mem_of_getElem? ha))), h7⟩⟩
          · have hnb : ∀ o' x', V' o' = some x' → (c.ρ o').blk ≠ (c.ρ o).blk := fun o' x' hx' hb => by
              have hne' : o' ≠ o := fun e => hin ⟨x', e ▸ hx'⟩
              have := (g.inv.sep o' o x' x (hVH o' x' hx') hx hne' hb).1
              rw [(g.solo o' x' (hVH o' x' hx')).1] at this; cases this
            refine ⟨⟨cur, by show c'.w.heap[(c.ρ o).blk]? = _; rw [hold _ (hblk o x hx) hnb]; exact hb, hss, fun i e he => ?_⟩, h3, h4, h5⟩
            obtain ⟨k1, k2⟩ := hcl i e he
            exact ⟨k1, fun k a ha => by obtain ⟨v, hv, hr, h7⟩ := k2 k a ha; exact ⟨v, hv, hr.mono hle2 (.inr (h6 e (List.mem_of_getElem? he) a (List.mem_of_getElem? ha))), h7⟩⟩
      · exfalso
        rcases hcase o x hx with ⟨rfl, rfl⟩ | ⟨hn1, hx⟩ <;> rcases hcase o' x' hx' with ⟨rfl, rfl⟩ | ⟨hn2, hx'⟩
        · exact hne rfl
        · rw [hρid, hρ o' hn2] at hb
          have := hblk o' x' ‹H o' = some x'›
          omega
        · rw [hρid, hρ o hn1] at hb
          have := hblk o x ‹H o = some x›
          omega
        · rw [hρ o hn1, hρ o' hn2] at hb
          have := (g.inv.sep o o' x x' ‹H o = some x› ‹H o' = some x'› hne hb).1
          rw [(g.solo o x ‹H o = some x›).1] at this; cases this
      · rcases hcase o x hx with ⟨rfl, rfl⟩ | ⟨hne, hx⟩
        · rw [hρid]
          have := hI.stab q x hy
          exact ⟨fun h => this.1 (by rw [hsa]; exact h), this.2⟩
        · rw [hρ o hne]
          have := g.inv.stab o x hx
          exact ⟨this.1, fun h => (hso' _ h).elim this.2 fun h => by have := hblk o x hx; omega⟩
      · refine hI.lt p (hp.imp (fun h => by rw [hsa]; exact h) fun h => h)
      · rcases hcase o x hx with ⟨rfl, rfl⟩ | ⟨hne, hx⟩
        · rw [hρid]; show c.B ≤ _; rw [← hB]; exact hI.low q x hy
        · rw [hρ o hne]; exact g.inv.low o x hx
      · exact hI.glob.of (fun p hp => by show c.Sa p; rw [← hsa]; exact hp) fun _ _ => rfl
    refine hK c2 v ?_
    rw [WEff.go_new]
    refine g.next (c' := c2) hd hle2 rfl (fun p hp => (hso' p hp).imp (fun h => h) .inl) ⟨hfr.os, hfr.tape, hfr.output, hfr.size, fun p hp hn => hold p hp fun o x hx => hn o x (hVH o x hx)⟩ (fun o x hx => ?_) hI2 (fun o x hx => ?_) (fun q => .inl) ?_ (.ref (.inr rfl))
    · rcases hcase o x hx with ⟨rfl, rfl⟩ | ⟨hne, hx⟩
      · rw [hρid]; exact .inl hnew
      · exact .inr ⟨o, x, hx, by rw [hρ o hne]⟩
    · rcases hcase o x hx with ⟨rfl, rfl⟩ | ⟨hne, hx⟩
      · exact ⟨hs1, hs2⟩
      · exact g.solo o x hx
    · obtain ⟨hp, hle'⟩ := hv.ref_inv
      rw [hp]
      have : VRel c2 false (.ref id 0 len) (.slice (some ⟨(c2.ρ id).blk, 0 * (c2.ρ id).esz, none⟩) len ((c2.ρ id).cap - 0)) := .ref (by rw [hρid]; exact hle')
      rw [hρid] at this
      exact this
end
end Go.Av

namespace Go.Av
variable [Gls]
def heapFree : Op → Bool
  | .move _ | .assign _ | .pick .. | .binOp .. | .unOp .. | .convert .. | .fieldAddr .. | .field .. | .extract .. | .nilCheck _ | .index .. | .slice _ _ none (some (.const _)) none => true
  | _ => false
def badGo (i mi : Nat) : Nat → List Oper → List Nat → List Nat
  | k, o :: r, m :: ms =>
    let rest := badGo i mi (k + 1) r ms
    match o.dst with
    | none => rest
    | some d => bif Nat.beq k i then rest else bif Nat.blt k i then (bif Nat.testBit mi k then rest else d :: rest) else (bif Nat.testBit m i then rest else d :: rest)
  | _, _, _ => []
def memB (t : Nat) : List Nat → Bool
  | [] => false
  | a :: r => Nat.beq t a || memB t r
theorem memB_iff {t : Nat} {l : List Nat} : memB t l = true ↔ t ∈ l := by
  induction l with
  | nil => simp [memB]
  | cons a r ih => simp only [memB, Bool.or_eq_true, Nat.beq_eq, ih, List.mem_cons]
theorem bad_mem {i mi : Nat} : ∀ (l : List Oper) (ms : List Nat) (k0 k : Nat) (o : Oper) (m d : Nat), l[k]? = some o → ms[k]? = some m → o.dst = some d → k0 + k ≠ i →
    (k0 + k < i → Nat.testBit mi (k0 + k) = false) → (i < k0 + k → Nat.testBit m i = false) → d ∈ badGo i mi k0 l ms := by
  intro l
  induction l with
  | nil => intro ms k0 k o m d ho; simp at ho
  | cons a l ih =>
    intro ms k0 k o m d ho hm hd hne h1 h2
    cases ms with
    | nil => simp at hm
    | cons b ms =>
      cases k with
      | zero =>
        simp at ho hm
        subst ho hm
        simp only [badGo, hd]
        have hb : Nat.beq k0 i = false := by rw [← Bool.not_eq_true, Nat.beq_eq]; simpa using hne
        rw [hb, cond_false]
        by_cases hlt : k0 < i
        · have : Nat.blt k0 i = true := by simpa using hlt
          have h1' : Nat.testBit mi k0 = false := h1 (by simpa using hlt)
          rw [this, cond_true, h1']
          exact List.mem_cons_self ..
        · have : Nat.blt k0 i = false := by rw [← Bool.not_eq_true]; simpa using hlt
          rw [this, cond_false, h2 (by simp at hne; omega)]
          exact List.mem_cons_self ..
      | succ k =>
        simp at ho hm
        have := ih ms (k0 + 1) k o m d ho hm hd (by omega) (fun h => by have := h1 (by omega); rwa [show k0 + 1 + k = k0 + (k + 1) by omega]) (fun h => h2 (by omega))
        simp only [badGo]
        cases a.dst with
        | none => exact this
        | some d' =>
          simp only []
          cases Nat.beq k0 i <;> simp only [cond_true, cond_false] <;> first
            | exact this
            | (cases Nat.blt k0 i <;> simp only [cond_true, cond_false]
               · cases Nat.testBit b i <;> simp only [cond_true, cond_false]
                 · exact List.mem_cons_of_mem _ this
                 · exact this
               · cases Nat.testBit mi k0 <;> simp only [cond_true, cond_false]
                 · exact List.mem_cons_of_mem _ this
                 · exact this)
def frD (bad : List Nat) (A : Nat → AV) : Nat → AV := fun t => bif memB t bad then .junk else A t
def hiddenGo (base mi o : Nat) : Nat → List WEff → Bool
  | k, e :: es => (memB o (e.objs (base + k)) && !Nat.testBit mi k) || hiddenGo base mi o (k + 1) es
  | _, [] => false
def hidden (base mi : Nat) (hf : Nat → Bool) (es : List WEff) (o : Nat) : Bool :=
  hf o || (Nat.ble base o && !Nat.testBit mi (o - base)) || hiddenGo base mi o 0 es
def hpD (base mi : Nat) (hf : Nat → Bool) (es : List WEff) (H : Heap) : Heap := fun o => bif hidden base mi hf es o then none else H o
def writeOk (base mk : Nat) (os : List Nat) : Nat → List (Nat × (Nat → Bool)) → List WEff → List WEff → Bool
  | i, (mi, hf) :: ms, pre, e :: es =>
    (Nat.testBit mk i || os.all (fun o => hidden base mi hf pre o && !memB o (e.objs (base + i)))) && writeOk base mk os (i + 1) ms (pre ++ [e]) es
  | _, _, _, _ => true
theorem hiddenGo_false {base mi o : Nat} : ∀ (es : List WEff) (k0 k : Nat) (e : WEff), es[k]? = some e → hiddenGo base mi o k0 es = false → o ∈ e.objs (base + (k0 + k)) → Nat.testBit mi (k0 + k) = true := by
  intro es
  induction es with
  | nil => intro k0 k e he; simp at he
  | cons a es ih =>
    intro k0 k e he h ho
    simp only [hiddenGo, Bool.or_eq_false_iff] at h
    cases k with
    | zero =>
      simp at he; subst he
      have hm : memB o (a.objs (base + k0)) = true := memB_iff.2 (by simpa using ho)
      have := h.1
      rw [hm, Bool.true_and] at this
      simpa using this
    | succ k =>
      simp at he
      have := ih (k0 + 1) k e he h.2 (by rwa [show k0 + 1 + k = k0 + (k + 1) by omega])
      rwa [show k0 + (k + 1) = k0 + 1 + k by omega]
theorem writeOk_spec {base mk : Nat} {os : List Nat} : ∀ (es : List WEff) (i0 : Nat) (ms : List (Nat × (Nat → Bool))) (pre : List WEff), writeOk base mk os i0 ms pre es = true → ms.length = es.length →
    ∀ (i : Nat) (e : WEff) (m : Nat × (Nat → Bool)), es[i]? = some e → ms[i]? = some m → Nat.testBit mk (i0 + i) = true ∨ ∀ o ∈ os, hidden base m.1 m.2 (pre ++ es.take i) o = true ∧ o ∉ e.objs (base + (i0 + i)) := by
  intro es
  induction es with
  | nil => intro i0 ms pre h hl i e m he; simp at he
  | cons a es ih =>
    intro i0 ms pre h hl i e m he hm
    cases ms with
    | nil => simp at hl
    | cons b ms =>
      obtain ⟨mi, hf⟩ := b
      simp only [writeOk, Bool.and_eq_true] at h
      cases i with
      | zero =>
        simp at he hm
        subst he hm
        rcases Bool.or_eq_true_iff.1 h.1 with h1 | h1
        · exact .inl h1
        · right
          intro o ho
          have := List.all_eq_true.1 h1 o ho
          simp only [Bool.and_eq_true, Bool.not_eq_true', ← Bool.not_eq_true, memB_iff] at this
          refine ⟨by simpa using this.1, by simpa using this.2⟩
      | succ i =>
        simp at he hm
        have := ih (i0 + 1) ms (pre ++ [a]) h.2 (by simpa using hl) i e m he hm
        rw [show i0 + (i + 1) = i0 + 1 + i by omega]
        simpa using this
def dstOkD (nt : Nat) (bad : List Nat) : Option Nat → Bool
  | some d => Nat.blt d nt && !memB d bad
  | none => true
def boolIs (want : Bool) : Value → Bool
  | .bool b => b == want
  | _ => false
def hz0 (o : Oper) (_ : Nat) : Bool := heapFree o.op
inductive DRun (hz : Oper → Nat → Bool) (P : Program) (T : Ty) (nt base : Nat) (ops : Array Oper) (ms : List Nat) : Nat → List Oper → (Nat → AV) → Heap → List WEff → (Nat → AV) → Heap → Prop
  | nil {i A H es} : DRun hz P T nt base ops ms i [] A H es A H
  | op {i o l A H es a e A' H'} (hg : o.guard = none) (hd : dstOkD nt (badGo i (ms.getD i 0) 0 ops.toList ms) o.dst = true)
      (h : DOp P T (frD (badGo i (ms.getD i 0) 0 ops.toList ms) A) (hpD base (ms.getD i 0) (hz o) es H) (base + i) o a e)
      (hw : writeOk base (ms.getD i 0) (e.objs (base + i)) 0 ((ms.zip (ops.toList.map hz)).take i) [] es = true)
      (k : DRun hz P T nt base ops ms (i + 1) l (updO A o.dst a) (e.go (base + i) H) (es ++ [e]) A' H') : DRun hz P T nt base ops ms i (o :: l) A H es A' H'
  | run {i o l A H es a e A' H' j t want} (hg : o.guard = some (j, want)) (hd : dstOkD nt (badGo i (ms.getD i 0) 0 ops.toList ms) o.dst = true) (hj : (ops[j]?).bind (·.dst) = some t) (ht : Nat.blt t nt = true)
      (hb : strip (frD (badGo i (ms.getD i 0) 0 ops.toList ms) A t) = .sc (.bool want))
      (h : DOp P T (frD (badGo i (ms.getD i 0) 0 ops.toList ms) A) (hpD base (ms.getD i 0) (hz o) es H) (base + i) o a e)
      (hw : writeOk base (ms.getD i 0) (e.objs (base + i)) 0 ((ms.zip (ops.toList.map hz)).take i) [] es = true)
      (k : DRun hz P T nt base ops ms (i + 1) l (updO A o.dst a) (e.go (base + i) H) (es ++ [e]) A' H') : DRun hz P T nt base ops ms i (o :: l) A H es A' H'
  | skip {i o l A H es A' H' j t want v} (hg : o.guard = some (j, want)) (hd : dstOkD nt (badGo i (ms.getD i 0) 0 ops.toList ms) o.dst = true) (hj : (ops[j]?).bind (·.dst) = some t) (ht : Nat.blt t nt = true)
      (hb : strip (frD (badGo i (ms.getD i 0) 0 ops.toList ms) A t) = .sc v) (hbw : boolIs want v = false)
      (k : DRun hz P T nt base ops ms (i + 1) l (updO A o.dst (.sc undef)) H (es ++ [.none]) A' H') : DRun hz P T nt base ops ms i (o :: l) A H es A' H'
inductive DOne (hz : Oper → Nat → Bool) (P : Program) (T : Ty) (nt base : Nat) (ops : Array Oper) (ms : List Nat) (i : Nat) (o : Oper) (A : Nat → AV) (H : Heap) (es : List WEff) : AV → WEff → Prop
  | run {a e} (hg : o.guard = none ∨ ∃ j t want, o.guard = some (j, want) ∧ (ops[j]?).bind (·.dst) = some t ∧ t < nt ∧ strip (frD (badGo i (ms.getD i 0) 0 ops.toList ms) A t) = .sc (.bool want))
      (h : DOp P T (frD (badGo i (ms.getD i 0) 0 ops.toList ms) A) (hpD base (ms.getD i 0) (hz o) es H) (base + i) o a e) : DOne hz P T nt base ops ms i o A H es a e
  | skip {j t want v} (hg : o.guard = some (j, want)) (hj : (ops[j]?).bind (·.dst) = some t) (ht : t < nt)
      (hb : strip (frD (badGo i (ms.getD i 0) 0 ops.toList ms) A t) = .sc v) (hbw : boolIs want v = false) : DOne hz P T nt base ops ms i o A H es (.sc undef) .none
def stepA (l : List Oper) (rs : List (AV × WEff)) (k : Nat) (A : Nat → AV) : Nat → AV :=
  match l[k]?, rs[k]? with
  | some o, some r => updO A o.dst r.1
  | _, _ => A
def stepH (base : Nat) (rs : List (AV × WEff)) (k : Nat) (H : Heap) : Heap :=
  match rs[k]? with
  | some r => r.2.go (base + k) H
  | none => H
structure DAll (hz : Oper → Nat → Bool) (P : Program) (T : Ty) (nt base : Nat) (ops : Array Oper) (ms : List Nat) (A : Nat → AV) (H : Heap) (rs : List (AV × WEff)) : Prop where
  len : rs.length = ops.toList.length
  one : ∀ (i : Nat) o r, ops.toList[i]? = some o → rs[i]? = some r → dstOkD nt (badGo i (ms.getD i 0) 0 ops.toList ms) o.dst = true ∧
    DOne hz P T nt base ops ms i o (foldS (stepA ops.toList rs) (fun _ => true) i A) (foldS (stepH base rs) (fun _ => true) i H) ((rs.take i).map (·.2)) r.1 r.2 ∧
    writeOk base (ms.getD i 0) (r.2.objs (base + i)) 0 ((ms.zip (ops.toList.map hz)).take i) [] ((rs.take i).map (·.2)) = true
theorem writeOk_nil {base mk i : Nat} : ∀ (es : List WEff) (k : Nat) (ms : List (Nat × (Nat → Bool))) (pre : List WEff), writeOk base mk [] k ms pre es = true := by
  intro es
  induction es with
  | nil => intro k ms pre; cases ms <;> simp [writeOk]
  | cons a es ih => intro k ms pre; cases ms <;> simp [writeOk, ih]
theorem foldS_pre {V : Type} {f g : Nat → V → V} {S : Nat → Bool} : ∀ (n : Nat) (v : V), (∀ k, k < n → ∀ u, f k u = g k u) → foldS f S n v = foldS g S n v
  | 0, _, _ => rfl
  | n + 1, v, h => by simp only [foldS, foldS_pre n v (fun k hk => h k (by omega)), h n (by omega)]
theorem DRun.all {hz : Oper → Nat → Bool} {P : Program} {T : Ty} {nt base : Nat} {ops : Array Oper} {ms : List Nat} {i : Nat} {l : List Oper} {A : Nat → AV} {H : Heap} {es : List WEff} {A' : Nat → AV} {H' : Heap}
    (h : DRun hz P T nt base ops ms i l A H es A' H') : ∀ (A0 : Nat → AV) (H0 : Heap) (rs : List (AV × WEff)), i ≤ ops.toList.length → rs.length = i → es = rs.map (·.2) → ops.toList.drop i = l → A = foldS (stepA ops.toList rs) (fun _ => true) i A0 → H = foldS (stepH base rs) (fun _ => true) i H0 →
      (∀ (k : Nat) o r, ops.toList[k]? = some o → rs[k]? = some r → dstOkD nt (badGo k (ms.getD k 0) 0 ops.toList ms) o.dst = true ∧
        DOne hz P T nt base ops ms k o (foldS (stepA ops.toList rs) (fun _ => true) k A0) (foldS (stepH base rs) (fun _ => true) k H0) ((rs.take k).map (·.2)) r.1 r.2 ∧
        writeOk base (ms.getD k 0) (r.2.objs (base + k)) 0 ((ms.zip (ops.toList.map hz)).take k) [] ((rs.take k).map (·.2)) = true) →
      ∃ rs', DAll hz P T nt base ops ms A0 H0 rs' ∧ A' = foldS (stepA ops.toList rs') (fun _ => true) ops.toList.length A0 ∧ H' = foldS (stepH base rs') (fun _ => true) ops.toList.length H0 := by
  have ext : ∀ (i : Nat) (o : Oper) (l : List Oper) (A : Nat → AV) (H : Heap) (a : AV) (e : WEff) (A0 : Nat → AV) (H0 : Heap) (rs : List (AV × WEff)), rs.length = i → ops.toList.drop i = o :: l →
      A = foldS (stepA ops.toList rs) (fun _ => true) i A0 → H = foldS (stepH base rs) (fun _ => true) i H0 →
      dstOkD nt (badGo i (ms.getD i 0) 0 ops.toList ms) o.dst = true → DOne hz P T nt base ops ms i o A H (rs.map (·.2)) a e → writeOk base (ms.getD i 0) (e.objs (base + i)) 0 ((ms.zip (ops.toList.map hz)).take i) [] (rs.map (·.2)) = true →
      (∀ (k : Nat) o r, ops.toList[k]? = some o → rs[k]? = some r → dstOkD nt (badGo k (ms.getD k 0) 0 ops.toList ms) o.dst = true ∧
        DOne hz P T nt base ops ms k o (foldS (stepA ops.toList rs) (fun _ => true) k A0) (foldS (stepH base rs) (fun _ => true) k H0) ((rs.take k).map (·.2)) r.1 r.2 ∧
        writeOk base (ms.getD k 0) (r.2.objs (base + k)) 0 ((ms.zip (ops.toList.map hz)).take k) [] ((rs.take k).map (·.2)) = true) →
      i + 1 ≤ ops.toList.length ∧ (rs ++ [(a, e)]).length = i + 1 ∧ ops.toList.drop (i + 1) = l ∧ updO A o.dst a = foldS (stepA ops.toList (rs ++ [(a, e)])) (fun _ => true) (i + 1) A0 ∧ e.go (base + i) H = foldS (stepH base (rs ++ [(a, e)])) (fun _ => true) (i + 1) H0 ∧
      (∀ (k : Nat) o r, ops.toList[k]? = some o → (rs ++ [(a, e)])[k]? = some r → dstOkD nt (badGo k (ms.getD k 0) 0 ops.toList ms) o.dst = true ∧
        DOne hz P T nt base ops ms k o (foldS (stepA ops.toList (rs ++ [(a, e)])) (fun _ => true) k A0) (foldS (stepH base (rs ++ [(a, e)])) (fun _ => true) k H0) (((rs ++ [(a, e)]).take k).map (·.2)) r.1 r.2 ∧
        writeOk base (ms.getD k 0) (r.2.objs (base + k)) 0 ((ms.zip (ops.toList.map hz)).take k) [] (((rs ++ [(a, e)]).take k).map (·.2)) = true) := by
    intro i o l A H a e A0 H0 rs hlen hdrop hA hH hd hone hw hall
    have hoi : ops.toList[i]? = some o := by
      have := List.getElem?_drop (xs := ops.toList) (i := i) (j := 0)
      rw [hdrop] at this; simpa using this.symm
    have hget : ∀ k, k < i → (rs ++ [(a, e)])[k]? = rs[k]? := fun k hk => List.getElem?_append_left (by omega)
    have hA1 : ∀ k, k ≤ i → foldS (stepA ops.toList (rs ++ [(a, e)])) (fun _ => true) k A0 = foldS (stepA ops.toList rs) (fun _ => true) k A0 := by
      intro k hk
      refine foldS_pre k A0 fun q hq u => ?_
      simp only [stepA, hget q (by omega)]
    have hH1 : ∀ k, k ≤ i → foldS (stepH base (rs ++ [(a, e)])) (fun _ => true) k H0 = foldS (stepH base rs) (fun _ => true) k H0 := by
      intro k hk
      refine foldS_pre k H0 fun q hq u => ?_
      simp only [stepH, hget q (by omega)]
    have hlast : (rs ++ [(a, e)])[i]? = some (a, e) := by rw [← hlen]; simp
    refine ⟨(List.getElem?_eq_some_iff.1 hoi).1, by simp [hlen], ?_, ?_, ?_, ?_⟩
    · have := congrArg List.tail hdrop
      rw [List.tail_drop] at this
      simpa using this
    · show _ = bif true then stepA ops.toList (rs ++ [(a, e)]) i (foldS _ _ i A0) else _
      rw [hA1 i (Nat.le_refl _), ← hA, cond_true]
      simp only [stepA, hoi, hlast]
    · show _ = bif true then stepH base (rs ++ [(a, e)]) i (foldS _ _ i H0) else _
      rw [hH1 i (Nat.le_refl _), ← hH, cond_true]
      simp only [stepH, hlast]
    · intro k o' r ho' hr
      by_cases hk : k < i
      · rw [hget k hk] at hr
        have := hall k o' r ho' hr
        rw [hA1 k (by omega), hH1 k (by omega), List.take_append_of_le_length (by omega)]
        exact this
      · have hke : k = i := by
          have := (List.getElem?_eq_some_iff.1 hr).1
          simp at this; omega
        subst hke
        rw [hlast] at hr
        cases hr
        rw [hoi] at ho'
        cases ho'
        have ht : (rs ++ [(a, e)]).take k = rs := by rw [← hlen]; simp
        rw [hA1 k (Nat.le_refl _), hH1 k (Nat.le_refl _), ← hA, ← hH, ht]
        exact ⟨hd, hone, hw⟩
  induction h with
  | @nil i A H es =>
    intro A0 H0 rs hile hlen hes hdrop hA hH hall
    have hle : ops.toList.length ≤ i := List.drop_eq_nil_iff.1 hdrop
    have hi : i = ops.toList.length := by omega
    subst hi
    exact ⟨rs, ⟨hlen, hall⟩, hA, hH⟩
  | @op i o l A H es a e A' H' hg hd h hw k ih =>
    intro A0 H0 rs hile hlen hes hdrop hA hH hall
    subst hes
    obtain ⟨h0, h1, h2, h3, h4, h5⟩ := ext i o l A H a e A0 H0 rs hlen hdrop hA hH hd (.run (.inl hg) h) hw hall
    exact ih A0 H0 _ h0 h1 (by simp) h2 h3 h4 h5
  | @run i o l A H es a e A' H' j t want hg hd hj ht hb h hw k ih =>
    intro A0 H0 rs hile hlen hes hdrop hA hH hall
    subst hes
    obtain ⟨h0, h1, h2, h3, h4, h5⟩ := ext i o l A H a e A0 H0 rs hlen hdrop hA hH hd (.run (.inr ⟨j, t, want, hg, hj, by simpa using ht, hb⟩) h) hw hall
    exact ih A0 H0 _ h0 h1 (by simp) h2 h3 h4 h5
  | @skip i o l A H es A' H' j t want v hg hd hj ht hb hbw k ih =>
    intro A0 H0 rs hile hlen hes hdrop hA hH hall
    subst hes
    obtain ⟨h0, h1, h2, h3, h4, h5⟩ := ext i o l A H (.sc undef) .none A0 H0 rs hlen hdrop hA hH hd (.skip hg hj (by simpa using ht) hb hbw) (writeOk_nil (i := 0) _ _ _ _) hall
    exact ih A0 H0 _ h0 h1 (by simp) h2 h3 h4 h5
end Go.Av

namespace Go.Av
variable [Gls]
theorem foldS_lt {V : Type} {f : Nat → V → V} {i : Nat} : ∀ (n : Nat) (v : V), i ≤ n → foldS f (fun k => Nat.blt k i) n v = foldS f (fun _ => true) i v := by
  intro n
  induction n with
  | zero => intro v h; have : i = 0 := by omega
            subst this; rfl
  | succ n ih =>
    intro v h
    by_cases hi : i = n + 1
    · subst hi
      refine foldS_congr _ v fun k hk => .inr ?_
      simpa using hk
    · have : Nat.blt n i = false := by rw [← Bool.not_eq_true]; simp; omega
      simp only [foldS, this, cond_false]
      exact ih v (by omega)
def gA (l : List Oper) (rs : List (AV × WEff)) (t : Nat) (k : Nat) (v : AV) : AV :=
  match l[k]?, rs[k]? with
  | some o, some r => if o.dst = some t then r.1 else v
  | _, _ => v
def gH (base : Nat) (rs : List (AV × WEff)) (o : Nat) (k : Nat) (u : Option Obj) : Option Obj :=
  match rs[k]? with
  | some r => (r.2.at (base + k) o).getD u
  | none => u
theorem stepA_at (l : List Oper) (rs : List (AV × WEff)) (S : Nat → Bool) (A0 : Nat → AV) (t : Nat) : ∀ n, foldS (stepA l rs) S n A0 t = foldS (gA l rs t) S n (A0 t) := by
  intro n
  induction n with
  | zero => rfl
  | succ n ih =>
    simp only [foldS]
    cases S n with
    | false => simpa using ih
    | true =>
      simp only [cond_true]
      rw [← ih]
      unfold stepA gA
      cases l[n]? with
      | none => rfl
      | some o =>
        cases rs[n]? with
        | none => rfl
        | some r =>
          simp only []
          cases hd : o.dst with
          | none => simp [updO]
          | some d =>
            simp only [updO, Option.some.injEq]
            by_cases h : t = d
            · subst h; rw [upd_same, if_pos rfl]
            · rw [upd_other _ _ h, if_neg (fun e => h e.symm)]
theorem stepH_at (base : Nat) (rs : List (AV × WEff)) (S : Nat → Bool) (H0 : Heap) (o : Nat) : ∀ n, foldS (stepH base rs) S n H0 o = foldS (gH base rs o) S n (H0 o) := by
  intro n
  induction n with
  | zero => rfl
  | succ n ih =>
    simp only [foldS]
    cases S n with
    | false => simpa using ih
    | true =>
      simp only [cond_true]
      rw [← ih]
      unfold stepH gH
      cases rs[n]? with
      | none => rfl
      | some r => rfl
def preLt : Nat → List Oper → Bool
  | i, o :: l => (preOf o).all (fun j => Nat.blt j i) && preLt (i + 1) l
  | _, [] => true
theorem preLt_spec : ∀ (l : List Oper) (i0 : Nat), preLt i0 l = true → ∀ (i : Nat) o, l[i]? = some o → ∀ j ∈ preOf o, j < i0 + i := by
  intro l
  induction l with
  | nil => intro i0 h i o ho; simp at ho
  | cons a l ih =>
    intro i0 h i o ho j hj
    simp only [preLt, Bool.and_eq_true] at h
    cases i with
    | zero =>
      simp at ho; subst ho
      simpa using List.all_eq_true.1 h.1 j hj
    | succ i =>
      have := ih (i0 + 1) h.2 i o (by simpa using ho) j hj
      omega
section
variable {hz : Oper → Nat → Bool} {P : Program} {T : Ty} {nt n0 base : Nat} {ops : Array Oper} {A0 : Nat → AV} {H0 : Heap} {rs : List (AV × WEff)}
structure Down (l : List Oper) (S : Nat → Bool) : Prop where
  lt : ∀ k, S k = true → k < l.length
  pre : ∀ (k : Nat), S k = true → ∀ q, ((masks l).getD k 0).testBit q = true → S q = true
theorem view_A (hall : DAll hz P T nt base ops (masks ops.toList) A0 H0 rs) {S : Nat → Bool} (hS : Down ops.toList S) {i : Nat} (hi : i < ops.toList.length) (hn : S i = false)
    (hr : ∀ q, ((masks ops.toList).getD i 0).testBit q = true → S q = true) {t : Nat} (ht : memB t (badGo i ((masks ops.toList).getD i 0) 0 ops.toList (masks ops.toList)) = false) :
    foldS (stepA ops.toList rs) (fun _ => true) i A0 t = foldS (stepA ops.toList rs) S ops.toList.length A0 t := by
  rw [stepA_at, stepA_at, ← foldS_lt ops.toList.length _ (by omega)]
  refine foldS_congr _ _ fun k hk => ?_
  have ho := List.getElem?_eq_getElem hk
  have hml : k < (masks ops.toList).length := by rw [(masks_ok _).len]; exact hk
  by_cases hd : (ops.toList[k]).dst = some t
  · right
    have hnot : t ∉ badGo i ((masks ops.toList).getD i 0) 0 ops.toList (masks ops.toList) := fun h => by rw [memB_iff.2 h] at ht; cases ht
    have hmk : (masks ops.toList)[k]? = some ((masks ops.toList).getD k 0) := by simp [List.getD, hml]
    by_cases hki : k = i
    · subst hki; rw [hn]; exact (show Nat.blt k k = false by rw [← Bool.not_eq_true, Nat.blt_eq]; omega)
    · by_cases hlt : k < i
      · have hb : Nat.blt k i = true := by simpa using hlt
        rw [hb]
        cases hq : Nat.testBit ((masks ops.toList).getD i 0) k with
        | true => exact (hr k hq).symm
        | false =>
          exact absurd (bad_mem (i := i) (mi := (masks ops.toList).getD i 0) _ _ 0 k _ _ t ho hmk hd (by omega) (fun _ => by simpa using hq) (fun h => by omega)) hnot
      · have hb : Nat.blt k i = false := by rw [← Bool.not_eq_true]; simpa using hlt
        rw [hb]
        cases hq : Nat.testBit ((masks ops.toList).getD k 0) i with
        | true =>
          cases hs : S k with
          | false => rfl
          | true => have := hS.pre k hs i hq; rw [hn] at this; cases this
        | false =>
          exact absurd (bad_mem (i := i) (mi := (masks ops.toList).getD i 0) _ _ 0 k _ _ t ho hmk hd (by omega) (fun h => by omega) (fun _ => hq)) hnot
  · left
    intro u
    unfold gA
    rw [ho]
    cases rs[k]? with
    | none => rfl
    | some r => simp only [if_neg hd]
theorem write_spec (hall : DAll hz P T nt base ops (masks ops.toList) A0 H0 rs) {k i o : Nat} {r ri : AV × WEff} (hr : rs[k]? = some r) (hri : rs[i]? = some ri) (hik : i < k) (ho : o ∈ r.2.objs (base + k)) :
    Nat.testBit ((masks ops.toList).getD k 0) i = true ∨
      (hidden base ((masks ops.toList).getD i 0) ((ops.toList[i]?).elim (fun _ => false) hz) ((rs.take i).map (·.2)) o = true ∧ o ∉ ri.2.objs (base + i)) := by
  have hk : k < rs.length := (List.getElem?_eq_some_iff.1 hr).1
  have hkl : k < ops.toList.length := by rw [← hall.len]; exact hk
  obtain ⟨_, _, hw⟩ := hall.one k _ r (List.getElem?_eq_getElem hkl) hr
  have hml : (masks ops.toList).length = ops.toList.length := (masks_ok _).len
  have hil : i < ops.toList.length := by omega
  have := writeOk_spec _ 0 _ [] hw (by simp [hml, hall.len]) i ri.2 ((masks ops.toList).getD i 0, hz (ops.toList[i])) ?_ ?_
  · simp only [Nat.zero_add, List.nil_append] at this
    refine this.imp id fun h => ?_
    have := h o ho
    rw [← List.map_take, List.take_take, Nat.min_eq_left (by omega)] at this
    rw [List.getElem?_eq_getElem hil]
    exact this
  · rw [List.getElem?_map, List.getElem?_take, if_pos hik, hri]; rfl
  · rw [List.getElem?_take, if_pos hik, List.getElem?_zip_eq_some]
    refine ⟨?_, ?_⟩
    · have : i < (masks ops.toList).length := by omega
      simp only [List.getD, List.getElem?_eq_getElem this, Option.getD_some]
    · rw [List.getElem?_map, List.getElem?_eq_getElem hil]; rfl
theorem view_H (hall : DAll hz P T nt base ops (masks ops.toList) A0 H0 rs) {S : Nat → Bool} (hS : Down ops.toList S) {i : Nat} (hi : i < ops.toList.length) (hn : S i = false)
    (hr : ∀ q, ((masks ops.toList).getD i 0).testBit q = true → S q = true) {o : Nat}
    (ht : hidden base ((masks ops.toList).getD i 0) (hz (ops.toList[i])) ((rs.take i).map (·.2)) o = false) :
    foldS (stepH base rs) (fun _ => true) i H0 o = foldS (stepH base rs) S ops.toList.length H0 o := by
  rw [stepH_at, stepH_at, ← foldS_lt ops.toList.length _ (by omega)]
  refine foldS_congr _ _ fun k hk => ?_
  have hkr : k < rs.length := by rw [hall.len]; exact hk
  have hir : i < rs.length := by rw [hall.len]; exact hi
  have hrk := List.getElem?_eq_getElem hkr
  by_cases hd : o ∈ (rs[k]).2.objs (base + k)
  · right
    by_cases hki : k = i
    · subst hki; rw [hn]; exact (show Nat.blt k k = false by rw [← Bool.not_eq_true, Nat.blt_eq]; omega)
    · by_cases hlt : k < i
      · have hb : Nat.blt k i = true := by simpa using hlt
        rw [hb]
        simp only [hidden, Bool.or_eq_false_iff] at ht
        have := hiddenGo_false _ 0 k (rs[k]).2 (by rw [List.getElem?_map, List.getElem?_take, if_pos hlt, hrk]; rfl) ht.2 (by simpa using hd)
        exact (hr k (by simpa using this)).symm
      · have hb : Nat.blt k i = false := by rw [← Bool.not_eq_true]; simpa using hlt
        rw [hb]
        rcases write_spec hall hrk (List.getElem?_eq_getElem hir) (by omega) hd with h | h
        · cases hs : S k with
          | false => rfl
          | true => have := hS.pre k hs i h; rw [hn] at this; cases this
        · rw [List.getElem?_eq_getElem hi] at h
          have h1 : hidden base ((masks ops.toList).getD i 0) (hz (ops.toList[i])) ((rs.take i).map (·.2)) o = true := h.1
          rw [ht] at h1; cases h1
  · left
    intro u
    unfold gH
    rw [hrk]
    simp only [WEff.at_objs hd, Option.getD_none]
theorem insert_A (hall : DAll hz P T nt base ops (masks ops.toList) A0 H0 rs) {S : Nat → Bool} (hS : Down ops.toList S) {i : Nat} (hi : i < ops.toList.length) (hn : S i = false)
    {r : AV × WEff} (hri : rs[i]? = some r) (hdst : dstOkD nt (badGo i ((masks ops.toList).getD i 0) 0 ops.toList (masks ops.toList)) (ops.toList[i]).dst = true) :
    foldS (stepA ops.toList rs) (fun k => S k || Nat.beq k i) ops.toList.length A0 = updO (foldS (stepA ops.toList rs) S ops.toList.length A0) (ops.toList[i]).dst r.1 := by
  funext t
  rw [stepA_at]
  have hoi := List.getElem?_eq_getElem hi
  by_cases hd : (ops.toList[i]).dst = some t
  · rw [foldS_insert hn _ _ hi]
    · rw [hd]
      simp only [updO, upd_same]
      unfold gA
      rw [hoi, hri]
      simp only [if_pos hd]
    · intro k hk hs
      by_cases hki : k < i
      · exact .inr hki
      · left
        intro u
        have hne : k ≠ i := fun h => by subst h; rw [hn] at hs; cases hs
        have hok := List.getElem?_eq_getElem hk
        have hml : k < (masks ops.toList).length := by rw [(masks_ok _).len]; exact hk
        have hmk : (masks ops.toList)[k]? = some ((masks ops.toList).getD k 0) := by simp [List.getD, hml]
        have hdk : (ops.toList[k]).dst ≠ some t := by
          intro hdk
          rw [hd] at hdst
          simp only [dstOkD, Bool.and_eq_true, Bool.not_eq_true'] at hdst
          have hnot : t ∉ badGo i ((masks ops.toList).getD i 0) 0 ops.toList (masks ops.toList) := fun h => by rw [memB_iff.2 h] at hdst; cases hdst.2
          cases hq : Nat.testBit ((masks ops.toList).getD k 0) i with
          | true => have := hS.pre k hs i hq; rw [hn] at this; cases this
          | false => exact hnot (bad_mem (i := i) (mi := (masks ops.toList).getD i 0) _ _ 0 k _ _ t hok hmk hdk (by omega) (fun h => by omega) (fun _ => hq))
        unfold gA
        rw [hok]
        cases rs[k]? with
        | none => rfl
        | some r => simp only [if_neg hdk]
  · have : updO (foldS (stepA ops.toList rs) S ops.toList.length A0) (ops.toList[i]).dst r.1 t = foldS (stepA ops.toList rs) S ops.toList.length A0 t := by
      cases h : (ops.toList[i]).dst with
      | none => rfl
      | some d => simp only [updO]; exact upd_other _ _ (fun e => hd (by rw [h, e]))
    rw [this, stepA_at]
    refine foldS_congr _ _ fun k hk => ?_
    by_cases hki : k = i
    · subst hki
      left
      intro u
      unfold gA
      rw [hoi, hri]
      simp only [if_neg hd]
    · right
      have : Nat.beq k i = false := by rw [← Bool.not_eq_true, Nat.beq_eq]; exact hki
      simp [this]
theorem insert_H (hall : DAll hz P T nt base ops (masks ops.toList) A0 H0 rs) {S : Nat → Bool} (hS : Down ops.toList S) {i : Nat} (hi : i < ops.toList.length) (hn : S i = false)
    {r : AV × WEff} (hri : rs[i]? = some r) :
    foldS (stepH base rs) (fun k => S k || Nat.beq k i) ops.toList.length H0 = r.2.go (base + i) (foldS (stepH base rs) S ops.toList.length H0) := by
  funext o
  rw [stepH_at]
  by_cases hd : o ∈ r.2.objs (base + i)
  · rw [foldS_insert hn _ _ hi]
    · unfold gH
      rw [hri]
      simp only [WEff.go]
      rw [stepH_at]
      rfl
    · intro k hk hs
      by_cases hki : k < i
      · exact .inr hki
      · left
        intro u
        have hne : k ≠ i := fun h => by subst h; rw [hn] at hs; cases hs
        have hkr : k < rs.length := by rw [hall.len]; exact hk
        have hrk := List.getElem?_eq_getElem hkr
        have hdk : o ∉ (rs[k]).2.objs (base + k) := by
          intro hdk
          rcases write_spec hall hrk hri (by omega) hdk with h | h
          · have := hS.pre k hs i h; rw [hn] at this; cases this
          · exact h.2 hd
        unfold gH
        rw [hrk]
        simp only [WEff.at_objs hdk, Option.getD_none]
  · have : r.2.go (base + i) (foldS (stepH base rs) S ops.toList.length H0) o = foldS (stepH base rs) S ops.toList.length H0 o := by
      simp only [WEff.go, WEff.at_objs hd, Option.getD_none]
    rw [this, stepH_at]
    refine foldS_congr _ _ fun k hk => ?_
    by_cases hki : k = i
    · subst hki
      left
      intro u
      unfold gH
      rw [hri]
      simp only [WEff.at_objs hd, Option.getD_none]
    · right
      have : Nat.beq k i = false := by rw [← Bool.not_eq_true, Nat.beq_eq]; exact hki
      simp [this]
theorem yieldedM {c0 c : Ctx} {H0 H : Heap} {A : Nat → AV} {M : Nat → Prop} {act : Act} (g : GoodM nt c0 H0 n0 c A H M act) {j t : Nat} {b : Bool} (hj : (ops[j]?).bind (·.dst) = some t) (ht : t < nt)
    (hb : strip (A t) = .sc (.bool b)) : yielded ops act.tmps j = some b := by
  have h1 := g.ev (.tmp t)
  simp only [evA, hb] at h1
  have h2 := h1.sc_inv
  simp only [Act.eval] at h2
  have hlt : t < act.tmps.size := by rw [g.size]; exact ht
  unfold yielded
  rw [hj]
  simp only [Option.bind_some, Array.getElem?_eq_getElem hlt]
  have : act.tmps[t] = .bool b := by simpa [hlt] using h2
  rw [this]
def AtS (base : Nat) (S : Nat → Bool) (q : Nat) : Prop := q < base ∨ ∃ k, S k = true ∧ q = base + k
theorem ready_mem {md : Region.Mode} {listed : Array Bool} {i : Nat} : i ∈ Region.ready md ops listed ↔
    i < ops.size ∧ listed.getD i true = false ∧ ((ops[i]?).map (·.after.all fun e => !Region.binds md e || listed.getD e.on false)).getD false = true := by
  simp [Region.ready]
theorem notWanted {c0 c : Ctx} {H0 H : Heap} {A : Nat → AV} {M : Nat → Prop} {act : Act} (g : GoodM nt c0 H0 n0 c A H M act) {o : Oper} {j t : Nat} {want : Bool} {v : Value} (hg : o.guard = some (j, want)) (hj : (ops[j]?).bind (·.dst) = some t) (ht : t < nt)
    (hb : strip (A t) = .sc v) (hv : boolIs want v = false) : Region.wanted o (yielded ops act.tmps) = false := by
  have h1 := g.ev (.tmp t)
  simp only [evA, hb] at h1
  have h2 := h1.sc_inv
  simp only [Act.eval] at h2
  have hlt : t < act.tmps.size := by rw [g.size]; exact ht
  have h3 : act.tmps[t] = v := by simpa [hlt] using h2
  unfold Region.wanted yielded
  rw [hg]
  simp only [hj, Option.bind_some, Array.getElem?_eq_getElem hlt, h3]
  cases v <;> first | rfl | (simp only [boolIs] at hv; simpa using hv)
theorem notWantedS {c0 c : Ctx} {H0 : Heap} {s : St} {act : Act} (g : Good nt c0 H0 n0 c s act) {o : Oper} {j t : Nat} {want : Bool} {v : Value} (hg : o.guard = some (j, want)) (hj : (ops[j]?).bind (·.dst) = some t) (ht : t < nt)
    (hb : strip (s.A t) = .sc v) (hv : boolIs want v = false) : Region.wanted o (yielded ops act.tmps) = false :=
  notWanted (M := (· < s.n)) ⟨g.inv, g.solo, g.frame, g.ok, g.size, g.reach, fun q hq => Nat.lt_of_lt_of_le hq g.le0⟩ hg hj ht hb hv
theorem stSkip {s : St} {l : List Oper} {o : Oper} {K : St → Prop} {j t : Nat} {want : Bool} {v : Value} (hg : o.guard = some (j, want)) (hj : (ops[j]?).bind (·.dst) = some t) (ht : Nat.blt t nt = true) (hb : strip (s.A t) = .sc v) (hd : dstOk nt o.dst = true)
    (hv : boolIs want v = false) (hn : SemL P nt n0 ops l K ⟨updO s.A o.dst (.sc undef), s.H, s.n⟩) : SemL P nt n0 ops (o :: l) K s := by
  intro c0 H0 c act g Qx hQ R
  have hw := notWantedS g hg hj (by simpa using ht) hb hv
  have := hn c0 H0 c _ (g.next (dstOk_lt hd) (.refl c) rfl (fun b hb => .inl hb) (.refl c s.H) (fun q x hx => .inr ⟨q, x, hx, rfl⟩) g.inv g.solo (Nat.le_refl _) (v := undef) .sc .sc) Qx (fun c' s' act' g' hd' => hQ c' s' act' g' (hd'.trans (put_defers _ _ _))) R
  exact wpListR_skip hw this
theorem wanted_none {o : Oper} {ys : Nat → Option Bool} (h : o.guard = none) : Region.wanted o ys = true := by simp [Region.wanted, h]
theorem wanted_some {o : Oper} {ys : Nat → Option Bool} {j : Nat} {want b : Bool} (h : o.guard = some (j, want)) (hy : ys j = some b) : Region.wanted o ys = (b == want) := by
  simp [Region.wanted, h, hy]
theorem drawn_go (hT : TyOk P T) (hpre : preLt 0 ops.toList = true) (hall : DAll hz P T nt base ops (masks ops.toList) A0 H0 rs) {Q : AExit → St → Prop}
    (hQ : Q .normal ⟨foldS (stepA ops.toList rs) (fun _ => true) ops.toList.length A0, foldS (stepH base rs) (fun _ => true) ops.toList.length H0, base + ops.toList.length⟩)
    {c0 : Ctx} {HH : Heap} {ds : List Deferred} (hb0 : n0 ≤ base) :
    ∀ (fuel : Nat) (listed : Array Bool) (L : List Nat) (c : Ctx) (act : Act), listed.size = ops.size → L.length ≤ fuel → (∀ k, k < ops.size → listed.getD k false = false → k ∈ L) →
      (∀ (i : Nat) o, ops.toList[i]? = some o → listed.getD i false = true → ∀ j ∈ preOf o, listed.getD j false = true) →
      GoodM nt c0 HH n0 c (foldS (stepA ops.toList rs) (fun k => listed.getD k false) ops.toList.length A0) (foldS (stepH base rs) (fun k => listed.getD k false) ops.toList.length H0)
        (AtS base (fun k => listed.getD k false)) act →
      act.defers = ds → wpAny P .any ops (CQ nt c0 HH n0 ds Q) fuel listed act c.w := by
  have hlen : ops.toList.length = ops.size := Array.length_toList
  have fin : ∀ (listed : Array Bool) (c : Ctx) (act : Act), listed.size = ops.size → (∀ (i : Nat) o, ops.toList[i]? = some o → listed.getD i false = true → ∀ j ∈ preOf o, listed.getD j false = true) →
      GoodM nt c0 HH n0 c (foldS (stepA ops.toList rs) (fun k => listed.getD k false) ops.toList.length A0) (foldS (stepH base rs) (fun k => listed.getD k false) ops.toList.length H0)
        (AtS base (fun k => listed.getD k false)) act → Region.ready .any ops listed = [] → act.defers = ds → CQ nt c0 HH n0 ds Q .normal act c.w := by
    intro listed c act hsz hdown g hr hds
    have hfull : ∀ k, k < ops.size → listed.getD k false = true := by
      intro k
      induction k using Nat.strongRecOn with
      | _ k ih =>
        intro hk
        cases hl : listed.getD k false with
        | true => rfl
        | false =>
          have hkl : k < listed.size := by omega
          have hmem : k ∈ Region.ready .any ops listed := by
            rw [ready_mem]
            refine ⟨hk, ?_, ?_⟩
            · simp only [Array.getD_eq_getD_getElem?, Array.getElem?_eq_getElem hkl, Option.getD_some] at hl ⊢
              exact hl
            · rw [Array.getElem?_eq_getElem hk]
              simp only [Option.map_some, Option.getD_some]
              rw [Array.all_eq_true_iff_forall_mem]
              intro e he
              cases hbd : Region.binds .any e with
              | false => rfl
              | true =>
                have hpk : ops.toList[k]? = some ops[k] := by simp [hk]
                have hin : e.on ∈ preOf ops[k] := List.mem_map.2 ⟨e, List.mem_filter.2 ⟨by simpa using he, hbd⟩, rfl⟩
                have hlt := preLt_spec _ 0 hpre k _ hpk e.on hin
                rw [ih e.on (by omega) (by omega)]
                rfl
          rw [hr] at hmem; cases hmem
    have hcongr : ∀ k, k < ops.toList.length → listed.getD k false = true := fun k hk => hfull k (by omega)
    refine ⟨c, ⟨_, _, _⟩, .normal, rfl, ?_, hds, rfl, hQ⟩
    have hA : foldS (stepA ops.toList rs) (fun k => listed.getD k false) ops.toList.length A0 = foldS (stepA ops.toList rs) (fun _ => true) ops.toList.length A0 :=
      foldS_congr _ _ fun k hk => .inr (hcongr k hk)
    have hH : foldS (stepH base rs) (fun k => listed.getD k false) ops.toList.length H0 = foldS (stepH base rs) (fun _ => true) ops.toList.length H0 :=
      foldS_congr _ _ fun k hk => .inr (hcongr k hk)
    rw [hA, hH] at g
    have hM : ∀ q, AtS base (fun k => listed.getD k false) q → q < base + ops.toList.length := by
      rintro q (h | ⟨k, hk, rfl⟩)
      · omega
      · have : k < listed.size := by
          cases Nat.lt_or_ge k listed.size with
          | inl h => exact h
          | inr h => simp [Array.getD_eq_getD_getElem?, Array.getElem?_eq_none h] at hk
        omega
    exact ⟨g.inv.more hM, g.solo, g.frame, fun t => (g.ok t).mono hM, g.size, g.reach, by show n0 ≤ base + _; omega⟩
  intro fuel
  induction fuel with
  | zero =>
    intro listed L c act hsz hL hin hdown g hds
    have hnil : L = [] := List.length_eq_zero_iff.1 (by omega)
    subst hnil
    have hr : Region.ready .any ops listed = [] := by
      rw [List.eq_nil_iff_forall_not_mem]
      intro i hi
      rw [ready_mem] at hi
      obtain ⟨h1, h2, _⟩ := hi
      have := hin i h1 (by
        have hil : i < listed.size := by omega
        simp only [Array.getD_eq_getD_getElem?, Array.getElem?_eq_getElem hil, Option.getD_some] at h2 ⊢
        exact h2)
      cases this
    exact ⟨hr, fin listed c act hsz hdown g hr hds⟩
  | succ fuel ih =>
    intro listed L c act hsz hL hin hdown g hds
    refine ⟨fun hr => fin listed c act hsz hdown g hr hds, fun i hi => ?_⟩
    rw [ready_mem] at hi
    obtain ⟨h1, h2, h3⟩ := hi
    have hil : i < listed.size := by omega
    have hli : listed.getD i false = false := by
      simp only [Array.getD_eq_getD_getElem?, Array.getElem?_eq_getElem hil, Option.getD_some] at h2 ⊢
      exact h2
    have hi' : i < ops.toList.length := by omega
    have hoi : ops.toList[i]? = some ops.toList[i] := List.getElem?_eq_getElem hi'
    have hoa : ops[i]? = some ops.toList[i] := by rw [← Array.getElem?_toList]; exact hoi
    have hprei : ∀ j ∈ preOf ops.toList[i], listed.getD j false = true := by
      intro j hj
      obtain ⟨e, he, rfl⟩ := List.mem_map.1 hj
      obtain ⟨he1, he2⟩ := List.mem_filter.1 he
      rw [hoa] at h3
      simp only [Option.map_some, Option.getD_some] at h3
      rw [Array.all_eq_true_iff_forall_mem] at h3
      have := h3 e (by simpa using he1)
      rw [he2] at this
      simpa using this
    have hpl : ∀ (i : Nat) o, ops.toList[i]? = some o → ∀ j ∈ preOf o, j < i := fun i o ho j hj => by
      have := preLt_spec _ 0 hpre i o ho j hj; omega
    have hcm := closed_masks (S := fun k => listed.getD k false) hpl hdown
    have hS : Down ops.toList (fun k => listed.getD k false) := by
      refine ⟨fun k hk => ?_, fun k hk q hq => ?_⟩
      · cases Nat.lt_or_ge k listed.size with
        | inl h => omega
        | inr h => simp [Array.getD_eq_getD_getElem?, Array.getElem?_eq_none h] at hk
      · have hkl : k < ops.toList.length := by
          cases Nat.lt_or_ge k listed.size with
          | inl h => omega
          | inr h => simp [Array.getD_eq_getD_getElem?, Array.getElem?_eq_none h] at hk
        exact (hcm k _ (List.getElem?_eq_getElem hkl) (hdown k _ (List.getElem?_eq_getElem hkl) hk) q hq).1
    have hri : ∀ q, ((masks ops.toList).getD i 0).testBit q = true → listed.getD q false = true := fun q hq => (hcm i _ hoi hprei q hq).1
    have hirs : i < rs.length := by rw [hall.len]; exact hi'
    obtain ⟨hdst, hone, _⟩ := hall.one i _ _ hoi (List.getElem?_eq_getElem hirs)
    have hdlt : ∀ d, (ops.toList[i]).dst = some d → d < nt := by
      intro d hd
      rw [hd] at hdst
      simp only [dstOkD, Bool.and_eq_true] at hdst
      simpa using hdst.1
    have hA : ∀ t, frD (badGo i ((masks ops.toList).getD i 0) 0 ops.toList (masks ops.toList)) (foldS (stepA ops.toList rs) (fun _ => true) i A0) t = foldS (stepA ops.toList rs) (fun k => listed.getD k false) ops.toList.length A0 t ∨
        frD (badGo i ((masks ops.toList).getD i 0) 0 ops.toList (masks ops.toList)) (foldS (stepA ops.toList rs) (fun _ => true) i A0) t = .junk := by
      intro t
      unfold frD
      cases ht : memB t (badGo i ((masks ops.toList).getD i 0) 0 ops.toList (masks ops.toList)) with
      | true => exact .inr rfl
      | false => exact .inl (view_A hall hS hi' hli hri ht)
    have hV : ∀ o x, hpD base ((masks ops.toList).getD i 0) (hz (ops.toList[i])) ((rs.take i).map (·.2)) (foldS (stepH base rs) (fun _ => true) i H0) o = some x →
        foldS (stepH base rs) (fun k => listed.getD k false) ops.toList.length H0 o = some x := by
      intro o x hx
      unfold hpD at hx
      cases ht : hidden base ((masks ops.toList).getD i 0) (hz (ops.toList[i])) ((rs.take i).map (·.2)) o with
      | true => rw [ht] at hx; cases hx
      | false =>
        rw [ht, cond_false] at hx
        rw [← view_H hall hS hi' hli hri ht]
        exact hx
    have hid : ¬ AtS base (fun k => listed.getD k false) (base + i) := by
      rintro (h | ⟨k, hk, h⟩)
      · omega
      · have : k = i := by omega
        subst this
        have hk' : listed.getD k false = true := hk
        rw [hli] at hk'; cases hk'
    have hMb : ∀ q, AtS base (fun k => listed.getD k false) q → q < base + ops.toList.length := by
      rintro q (h | ⟨k, hk, rfl⟩)
      · omega
      · have := hS.lt k hk; omega
    have hset : ∀ k, (listed.setIfInBounds i true).getD k false = (listed.getD k false || Nat.beq k i) := by
      intro k
      simp only [Array.getD_eq_getD_getElem?]
      by_cases hk : k = i
      · subst hk
        rw [Array.getElem?_setIfInBounds_self, if_pos hil]
        simp
      · rw [Array.getElem?_setIfInBounds_ne (fun e => hk e.symm)]
        have : Nat.beq k i = false := by rw [← Bool.not_eq_true, Nat.beq_eq]; exact hk
        rw [this, Bool.or_false]
    have hfn : (fun k => (listed.setIfInBounds i true).getD k false) = (fun k => listed.getD k false || Nat.beq k i) := funext hset
    have after : ∀ (c' : Ctx) (v : Value) (e : WEff), e = (rs[i]).2 →
        GoodM nt c0 HH n0 c' (updO (foldS (stepA ops.toList rs) (fun k => listed.getD k false) ops.toList.length A0) (ops.toList[i]).dst (rs[i]).1)
          (e.go (base + i) (foldS (stepH base rs) (fun k => listed.getD k false) ops.toList.length H0)) (fun q => AtS base (fun k => listed.getD k false) q ∨ q = base + i) (act.put (ops.toList[i]).dst v) →
        wpAny P .any ops (CQ nt c0 HH n0 ds Q) fuel (listed.setIfInBounds i true) (act.put (ops.toList[i]).dst v) c'.w := by
      rintro c' v _ rfl g'
      have hiL : i ∈ L := hin i h1 hli
      refine ih _ (L.erase i) c' _ (by simpa using hsz) (by rw [List.length_erase_of_mem hiL]; omega) ?_ ?_ ?_ ((put_defers _ _ _).trans hds)
      · intro k hk hlk
        rw [hset] at hlk
        have h4 := Bool.or_eq_false_iff.1 hlk
        have hne : k ≠ i := fun h => by subst h; simp at h4
        exact (List.mem_erase_of_ne hne).2 (hin k hk h4.1)
      · intro k o ho hk j hj
        rw [hset] at hk ⊢
        rcases Bool.or_eq_true_iff.1 hk with hk | hk
        · rw [hdown k o ho hk j hj]; rfl
        · have : k = i := by simpa using hk
          subst this
          rw [hoi] at ho; cases ho
          rw [hprei j hj]; rfl
      · rw [hfn, insert_A hall hS hi' hli (List.getElem?_eq_getElem hirs) hdst, insert_H hall hS hi' hli (List.getElem?_eq_getElem hirs)]
        have hMM : (AtS base fun k => listed.getD k false || Nat.beq k i) = (fun q => AtS base (fun k => listed.getD k false) q ∨ q = base + i) := by
          funext q
          apply propext
          constructor
          · rintro (h | ⟨k, hk, rfl⟩)
            · exact .inl (.inl h)
            · rcases Bool.or_eq_true_iff.1 hk with hk | hk
              · exact .inl (.inr ⟨k, hk, rfl⟩)
              · have : k = i := by simpa using hk
                exact .inr (by rw [this])
          · rintro ((h | ⟨k, hk, rfl⟩) | rfl)
            · exact .inl h
            · exact .inr ⟨k, by simp [hk], rfl⟩
            · exact .inr ⟨i, by simp, rfl⟩
        rw [hMM]
        exact g'
    unfold wpOp
    rw [hoa]
    simp only []
    have gj := g.junk hA
    generalize hre : (rs[i]).2 = ef at hone after
    generalize hra : (rs[i]).1 = av at hone after
    cases hone with
    | @run a e hg h =>
      have hw : Region.wanted (ops.toList[i]) (yielded ops act.tmps) = true := by
        rcases hg with hg | ⟨j, t, want, hg, hj, ht, hb⟩
        · exact wanted_none hg
        · rw [wanted_some hg (yieldedM gj hj ht hb)]; simp
      rw [if_pos hw]
      left
      refine DOp.step hT g hMb hA hV hid h hdlt _ _ fun c' v g' => ?_
      exact after c' v _ rfl g'
    | @skip j t want v hg hj ht hb hbw =>
      have hw : Region.wanted (ops.toList[i]) (yielded ops act.tmps) = false := notWanted gj hg hj ht hb hbw
      rw [if_neg (by rw [hw]; simp)]
      refine after c undef _ rfl ?_
      rw [WEff.go_none]
      exact g.next hdlt (.refl c) rfl (fun b hb => .inl hb) (.refl c _) (fun q x hx => .inr ⟨q, x, hx, rfl⟩) (g.inv.more fun q h => .inl h) g.solo (fun q => .inl) .sc .sc
theorem Good.drew {c0 c : Ctx} {s : St} {act : Act} {HH : Heap} (g : Good nt c0 HH n0 c s act) : Good nt c0 HH n0 { c with w := { c.w with drawn := c.w.drawn + 1 } } s act := by
  have hle : c.Le (fun _ => True) { c with w := { c.w with drawn := c.w.drawn + 1 } } := ⟨fun _ _ => rfl, fun _ h => h, fun _ h => h, fun _ _ => rfl, rfl⟩
  have all : ∀ {a : AV} {M : Nat → Prop}, a.Ok M → a.Ok (fun _ => True) := fun h => h.mono fun _ _ => trivial
  have r := g.reach
  refine ⟨⟨fun o x hx => ?_, g.inv.sep, g.inv.stab, g.inv.lt, g.inv.base, g.inv.own, g.inv.low, g.inv.glob.mono hle⟩, g.solo, fun t => (g.frame t).mono hle (.inr (all (g.ok t))), g.ok, g.size, ⟨r.rho, r.os, r.tape, ⟨r.output.1, Nat.le_trans r.output.2 (dr_le (Nat.le_succ _))⟩, r.size, r.block, r.stable, r.sa, r.so1, r.so2, r.B, r.own⟩, g.le0⟩
  obtain ⟨h1, ⟨⟨cur, hb, hs, hc⟩, h3, h4, h5⟩, h6⟩ := g.inv.obj o x hx
  refine ⟨h1, ⟨⟨cur, hb, hs, fun i e he => ?_⟩, h3, h4, h5⟩, h6⟩
  obtain ⟨g1, g2⟩ := hc i e he
  exact ⟨g1, fun k a ha => by obtain ⟨v, hv, hr, h7⟩ := g2 k a ha; exact ⟨v, hv, hr.mono hle (.inr (all (h6 e (List.mem_of_getElem? he) a (List.mem_of_getElem? ha)))), h7⟩⟩
theorem SemC.drawn {s : St} {id : Nat} {Q : AExit → St → Prop} {A' : Nat → AV} {H' : Heap} (hm : P.follows .mixedOrders = true) (hT : TyOk P T) (hpre : preLt 0 ops.toList = true)
    (hrun : DRun hz P T nt s.n ops (masks ops.toList) 0 ops.toList s.A s.H [] A' H') (hQ : Q .normal ⟨A', H', s.n + ops.toList.length⟩) : SemC P nt n0 (.region id ops true) Q s := by
  obtain ⟨rs, hall, hA, hH⟩ := hrun.all s.A s.H [] (Nat.zero_le _) rfl rfl rfl rfl rfl (fun k o r _ hr => by simp at hr)
  subst hA hH
  intro c0 HH c act g0 R hR
  have g := g0.drew
  refine wpR_region_any hm hR (by rintro a w ⟨c, s, ae, _, _, _, h, _⟩; cases ae <;> cases h) ?_
  have hzz : ∀ k, (Array.replicate ops.size false).getD k false = false := by
    intro k
    simp only [Array.getD_eq_getD_getElem?, Array.getElem?_replicate]
    split <;> rfl
  have hfn : (fun k => (Array.replicate ops.size false).getD k false) = (fun _ => false) := funext hzz
  refine drawn_go hT hpre hall hQ g.le0 ops.size _ (List.range ops.size) { c with w := { c.w with drawn := c.w.drawn + 1 } } act (by simp) (by simp) (fun k hk _ => List.mem_range.2 hk) (fun i o _ h => by rw [hzz] at h; cases h) ?_ rfl
  rw [hfn, foldS_none, foldS_none]
  have hM : ∀ q, q < s.n → AtS s.n (fun _ => false) q := fun q h => .inl h
  exact ⟨g.inv.more hM, g.solo, g.frame, fun t => (g.ok t).mono hM, g.size, g.reach, fun q hq => hM q (Nat.lt_of_lt_of_le hq g.le0)⟩
end
end Go.Av

namespace Go.Av
variable [Gls]
def derefF (H : Heap) : AV → Option (AV × Nat)
  | .ptr o i k => match H o with
    | some x => match x.es[i]? with
      | some e => some (e, k)
      | none => none
    | none => none
  | .elem _ e k => some (e, k)
  | _ => none
theorem derefF_ok {H : Heap} {p e : AV} {k : Nat} (h : derefF H p = some (e, k)) : Deref H p e k := by
  unfold derefF at h
  split at h
  · split at h
    · split at h
      · cases h; exact .ptr (by assumption) (by assumption)
      · cases h
    · cases h
  · cases h; exact .elem
  · cases h
def binF (T : Ty) (op : BinOp) (t : Nat) : AV → AV → Option AV
  | .sc (.int k a), .sc (.int k' b) =>
    match op with
    | .quo => if k = k' then (if b ≠ 0 then some (.sc (.int k (k.wrap (a.tdiv b)))) else none) else none
    | .rem => if k = k' then (if b ≠ 0 then some (.sc (.int k (a.tmod b))) else none) else none
    | .shl => if 0 ≤ b then some (.sc (.int k (k.wrap (a * 2 ^ (min b.toNat k.bits))))) else none
    | .shr => if 0 ≤ b then some (.sc (.int k (a.fdiv (2 ^ (min b.toNat k.bits))))) else none
    | op => if k = k' then (match intBin op k a b with | some v => some (.sc v) | none => none) else none
  | .sc (.bool a), .sc (.bool b) => match T t with
    | some ti => match ti.kind with
      | .bool => match op with
        | .eql => some (.sc (.bool (a == b)))
        | .neq => some (.sc (.bool (!(a == b))))
        | _ => none
      | _ => none
    | none => none
  | .agg xs, .agg ys => match T t with
    | some ti => if ti.eqok = true then (match op with
      | .eql => match eqT T 10000 t (.agg xs) (.agg ys) with | some r => some (.sc (.bool r)) | none => none
      | .neq => match eqT T 10000 t (.agg xs) (.agg ys) with | some r => some (.sc (.bool (!r))) | none => none
      | _ => none) else none
    | none => none
  | _, _ => none
theorem binF_ok {T : Ty} {ev : Operand → AV} {H : Heap} {op : BinOp} {t yt : Nat} {x y : Operand} {a : AV} (h : binF T op t (ev x) (ev y) = some a) : Pu T ev H (.binOp op t x y yt) a := by
  generalize hx : ev x = u at h
  generalize hy : ev y = v at h
  unfold binF at h
  split at h
  · split at h
    · split at h
      · rename_i hk; subst hk
        split at h
        · cases h; exact .quo hx hy (by assumption)
        · cases h
      · cases h
    · split at h
      · rename_i hk; subst hk
        split at h
        · cases h; exact .rem hx hy (by assumption)
        · cases h
      · cases h
    · split at h
      · cases h; exact .shl hx hy (by assumption)
      · cases h
    · split at h
      · cases h; exact .shr hx hy (by assumption)
      · cases h
    · split at h
      · rename_i hk; subst hk
        split at h
        · cases h; exact .binInt hx hy (by assumption)
        · cases h
      · cases h
  · split at h
    · split at h
      · split at h
        · cases h; exact .boolEq hx hy (by assumption) (by assumption)
        · cases h; exact .boolNe hx hy (by assumption) (by assumption)
        · cases h
      · cases h
    · cases h
  · split at h
    · split at h
      · split at h
        · split at h
          · cases h; exact .aggEq hx hy (by assumption) (by assumption) (by assumption)
          · cases h
        · split at h
          · cases h; exact .aggNe hx hy (by assumption) (by assumption) (by assumption)
          · cases h
        · cases h
      · cases h
    · cases h
  · cases h
def unF (op : UnOp) : AV → Option AV
  | .sc (.int k n) => match op with
    | .neg => some (.sc (.int k (k.wrap (0 - n))))
    | _ => none
  | .sc (.bool b) => match op with
    | .not => some (.sc (.bool (!b)))
    | _ => none
  | _ => none
def convF (T : Ty) (src dst : Nat) : AV → Option AV
  | .sc (.int _ n) => match T src with
    | some _ => match T dst with
      | some td => match td.kind with
        | .int k' => some (.sc (.int k' (k'.wrap n)))
        | _ => none
      | none => none
    | none => none
  | .sc (.string s) => match T src with
    | some _ => match T dst with
      | some td => match td.kind with
        | .string => some (.sc (.string s))
        | _ => none
      | none => none
    | none => none
  | _ => none
def fieldF (T : Ty) (s f : Nat) : Option (Nat × TI) :=
  match T s with
  | some ti => match ti.kind with
    | .struct fs => match fs[f]? with
      | some (off, ft) => match T ft with
        | some tf => some (off, tf)
        | none => none
      | none => none
    | _ => none
  | none => none
theorem fieldF_ok {T : Ty} {s f off : Nat} {tf : TI} (h : fieldF T s f = some (off, tf)) : ∃ ti fs ft, T s = some ti ∧ ti.kind = .struct fs ∧ fs[f]? = some (off, ft) ∧ T ft = some tf := by
  unfold fieldF at h
  split at h
  · split at h
    · split at h
      · split at h
        · cases h; exact ⟨_, _, _, by assumption, by assumption, by assumption, by assumption⟩
        · cases h
      · cases h
    · cases h
  · cases h
def sliceTy (T : Ty) (t : Nat) : Option TI :=
  match T t with
  | some ti => match ti.kind with
    | .slice et => T et
    | _ => none
  | none => none
theorem sliceTy_ok {T : Ty} {t : Nat} {te : TI} (h : sliceTy T t = some te) : ∃ ti et, T t = some ti ∧ ti.kind = .slice et ∧ T et = some te := by
  unfold sliceTy at h
  split at h
  · split at h
    · exact ⟨_, _, by assumption, by assumption, h⟩
    · cases h
  · cases h
def arrTy (T : Ty) (t : Nat) : Option (Nat × TI) :=
  match T t with
  | some ti => match ti.kind with
    | .array n et => match T et with
      | some te => some (n, te)
      | none => none
    | _ => none
  | none => none
theorem arrTy_ok {T : Ty} {t n : Nat} {te : TI} (h : arrTy T t = some (n, te)) : ∃ ti et, T t = some ti ∧ ti.kind = .array n et ∧ T et = some te := by
  unfold arrTy at h
  split at h
  · split at h
    · split at h
      · cases h; exact ⟨_, _, by assumption, by assumption, by assumption⟩
      · cases h
    · cases h
  · cases h
def ixF (T : Ty) (H : Heap) (t : Nat) (x : AV) (i : Int) : Option AV :=
  match x with
  | .list own es => match sliceTy T t with
    | some te => match es[i.toNat]? with
      | some e => if e.cells.length = te.size then some (.elem own e 0) else none
      | none => none
    | none => none
  | .ref o off len => match sliceTy T t with
    | some te => if i < len then (match H o with
      | some y => match y.es[off + i.toNat]? with
        | some e => if e.cells.length = te.size then some (.ptr o (off + i.toNat) 0) else none
        | none => none
      | none => none) else none
    | none => none
  | .ptr o j q => match arrTy T t with
    | some (n, te) => if i < n then some (.ptr o j (q + i.toNat * te.size)) else none
    | none => none
  | .elem own e q => match arrTy T t with
    | some (n, te) => if i < n then some (.elem own e (q + i.toNat * te.size)) else none
    | none => none
  | _ => none
def bdF (ev : Operand → AV) : Option Operand → Nat → Option Nat
  | none, d => some d
  | some x, _ => match ev x with
    | .sc (.int _ z) => if 0 ≤ z then some z.toNat else none
    | _ => none
theorem bdF_ok {ev : Operand → AV} {o : Option Operand} {d n : Nat} (h : bdF ev o d = some n) : Bd ev o d n := by
  unfold bdF at h
  split at h
  · cases h; exact .dflt
  · split at h
    · split at h
      · cases h; exact .given (by assumption) (by assumption)
      · cases h
    · cases h
def sliceF (T : Ty) (ev : Operand → AV) (H : Heap) (t : Nat) (x : AV) (lo hi : Option Operand) : Option AV :=
  match x with
  | .list own es => match sliceTy T t with
    | some te => match bdF ev lo 0, bdF ev hi es.length with
      | some l, some h => if l ≤ h then (if h ≤ es.length then (if es.all (fun e => e.cells.length == te.size) then some (.list own ((es.drop l).take (h - l))) else none) else none) else none
      | _, _ => none
    | none => none
  | .ref o off len => match sliceTy T t with
    | some te => match bdF ev lo 0, bdF ev hi len with
      | some l, some h => if h ≤ len then (if l < h then (match H o with
          | some y => if y.es.any (fun e => e.cells.length == te.size) then some (.ref o (off + l) (h - l)) else none
          | none => none)
        else if l = h then some (.list true []) else none) else none
      | _, _ => none
    | none => none
  | .nils => match sliceTy T t with
    | some _ => match bdF ev lo 0, bdF ev hi 0 with
      | some 0, some 0 => some .nils
      | _, _ => none
    | none => none
  | _ => none
def puF (T : Ty) (ev : Operand → AV) (H : Heap) : Op → Option AV
  | .move x => some (ev x)
  | .assign x => some (ev x)
  | .pick c a b => match ev c with
    | .sc (.bool true) => some (ev a)
    | .sc (.bool false) => some (ev b)
    | _ => none
  | .load t x => match T t with
    | some ti => match derefF H (ev x) with
      | some (e, k) => loadE ti e k
      | none => none
    | none => none
  | .nilCheck x => match ev x with
    | .ptr o i k => some (.ptr o i k)
    | .elem own e k => some (.elem own e k)
    | .fn f caps => some (.fn f caps)
    | _ => none
  | .binOp op t x y _ => binF T op t (ev x) (ev y)
  | .unOp op _ x => unF op (ev x)
  | .convert src dst x => convF T src dst (ev x)
  | .fieldAddr s x f => match fieldF T s f with
    | some (off, tf) => if tf.size ≠ 0 then (match ev x with
      | .ptr o i k => some (.ptr o i (k + off))
      | .elem own e k => some (.elem own e (k + off))
      | _ => none) else none
    | none => none
  | .field s x f => match fieldF T s f with
    | some (off, tf) => match ev x with
      | .agg cs => eqT.partA tf cs off
      | _ => none
    | none => none
  | .indexAddr t x ix => match ev ix with
    | .sc (.int _ i) => if 0 ≤ i then ixF T H t (ev x) i else none
    | _ => none
  | .index t x ix => match ev ix with
    | .sc (.int _ i) => if 0 ≤ i then (match ev x with
      | .agg cs => match arrTy T t with
        | some (n, te) => if i < n then eqT.partA te cs (i.toNat * te.size) else none
        | none => none
      | _ => none) else none
    | _ => none
  | .slice t x lo hi none => sliceF T ev H t (ev x) lo hi
  | .slice t x none (some hi) (some mx) => match sliceTy T t with
    | some _ => match bdF ev (some hi) 0, bdF ev (some mx) 0 with
      | some 0, some 0 => match ev x with
        | .list _ _ => some .nils
        | .ref _ _ _ => some .nils
        | .nils => some .nils
        | _ => none
      | _, _ => none
    | none => none
  | .extract x i => match ev x with
    | .tup cs => cs[i]?
    | _ => none
  | .makeFunc (.func f) ⟨[]⟩ caps => some (.fn f (caps.toList.map ev))
  | .call { callee := .builtin .len, args := ⟨[x]⟩, argTypes := ⟨[t]⟩ } => match T t with
    | some ti => match ti.kind with
      | .slice _ => match ev x with
        | .list own es => some (.sc (.int .i64 es.length))
        | .ref _ _ n => some (.sc (.int .i64 n))
        | .nils => some (.sc (.int .i64 (0 : Nat)))
        | _ => none
      | .string => match ev x with
        | .sc (.string s) => some (.sc (.int .i64 s.size))
        | _ => none
      | .array n _ => some (.sc (.int .i64 n))
      | _ => none
    | none => none
  | .call { callee := .builtin .min, args := ⟨[x, y]⟩, argTypes := _ } => match ev x, ev y with
    | .sc (.int k a), .sc (.int k' b) => if k = k' then some (.sc (.int k (if b < a then b else a))) else none
    | _, _ => none
  | .call { callee := .builtin .max, args := ⟨[x, y]⟩, argTypes := _ } => match ev x, ev y with
    | .sc (.int k a), .sc (.int k' b) => if k = k' then some (.sc (.int k (if b > a then b else a))) else none
    | _, _ => none
  | .build t ps => match T t with
    | some ti => match ofConst ti.zero with
      | .agg cs => match ti.kind with
        | .struct fs => if fs.all (fun p => (T p.2).isSome) then (match fillA (fun i => (fs[i]?).map fun p => (p.1, ((T p.2).map (·.size)).getD 0)) cs (ps.toList.map fun p => (p.1, ev p.2)) with
          | some r => some (.agg r)
          | none => none) else none
        | .array _ et => match T et with
          | some te => match fillA (fun i => some (i * te.size, te.size)) cs (ps.toList.map fun p => (p.1, ev p.2)) with
            | some r => some (.agg r)
            | none => none
          | none => none
        | _ => none
      | _ => none
    | none => none
  | _ => none
theorem puF_ok {T : Ty} {ev : Operand → AV} {H : Heap} {op : Op} {a : AV} (h : puF T ev H op = some a) : Pu T ev H op a := by
  unfold puF at h
  split at h
  · cases h; exact .move
  · cases h; exact .assign
  · split at h
    · cases h; exact .pick (by assumption) (fun _ => rfl) (fun h => by cases h)
    · cases h; exact .pick (by assumption) (fun h => by cases h) (fun _ => rfl)
    · cases h
  · split at h
    · split at h
      · exact .load (by assumption) (derefF_ok (by assumption)) h
      · cases h
    · cases h
  · split at h
    · rename_i hx; cases h; rw [← hx]; exact .nilCheckPtr hx
    · rename_i hx; cases h; rw [← hx]; exact .nilCheckElem hx
    · rename_i hx; cases h; rw [← hx]; exact .nilCheckFn hx
    · cases h
  · exact binF_ok h
  · unfold unF at h
    split at h
    · split at h
      · cases h; exact .neg (by assumption)
      · cases h
    · split at h
      · cases h; exact .not (by assumption)
      · cases h
    · cases h
  · unfold convF at h
    split at h
    · split at h
      · split at h
        · split at h
          · cases h; exact .conv (by assumption) (by assumption) (by assumption) (by assumption)
          · cases h
        · cases h
      · cases h
    · split at h
      · split at h
        · split at h
          · cases h; exact .convStr (by assumption) (by assumption) (by assumption) (by assumption)
          · cases h
        · cases h
      · cases h
    · cases h
  · split at h
    · rename_i hf
      obtain ⟨ti, fs, ft, h1, h2, h3, h4⟩ := fieldF_ok hf
      split at h
      · split at h
        · cases h; exact .fieldAddrPtr (by assumption) h1 h2 h3 h4 (by assumption)
        · cases h; exact .fieldAddrElem (by assumption) h1 h2 h3 h4 (by assumption)
        · cases h
      · cases h
    · cases h
  · split at h
    · rename_i hf
      obtain ⟨ti, fs, ft, h1, h2, h3, h4⟩ := fieldF_ok hf
      split at h
      · exact .field (by assumption) h1 h2 h3 h4 h
      · cases h
    · cases h
  · split at h
    · rename_i hix
      split at h
      · rename_i h0
        unfold ixF at h
        split at h
        · split at h
          · rename_i hs
            obtain ⟨ti, et, h1, h2, h3⟩ := sliceTy_ok hs
            split at h
            · split at h
              · cases h; exact .indexList (by assumption) hix h0 h1 h2 h3 (by assumption) (by assumption)
              · cases h
            · cases h
          · cases h
        · split at h
          · rename_i hs
            obtain ⟨ti, et, h1, h2, h3⟩ := sliceTy_ok hs
            split at h
            · split at h
              · split at h
                · split at h
                  · cases h; exact .indexRef (by assumption) hix h0 (by assumption) h1 h2 h3 (by assumption) (by assumption) (by assumption)
                  · cases h
                · cases h
              · cases h
            · cases h
          · cases h
        · split at h
          · rename_i hs
            obtain ⟨ti, et, h1, h2, h3⟩ := arrTy_ok hs
            split at h
            · cases h; exact .indexArr (by assumption) hix h0 (by assumption) h1 h2 h3
            · cases h
          · cases h
        · split at h
          · rename_i hs
            obtain ⟨ti, et, h1, h2, h3⟩ := arrTy_ok hs
            split at h
            · cases h; exact .indexArrElem (by assumption) hix h0 (by assumption) h1 h2 h3
            · cases h
          · cases h
        · cases h
      · cases h
    · cases h
  · split at h
    · rename_i hix
      split at h
      · rename_i h0
        split at h
        · split at h
          · rename_i hs
            obtain ⟨ti, et, h1, h2, h3⟩ := arrTy_ok hs
            split at h
            · exact .indexAgg (by assumption) hix h0 (by assumption) h1 h2 h3 h
            · cases h
          · cases h
        · cases h
      · cases h
    · cases h
  · unfold sliceF at h
    split at h
    · split at h
      · rename_i hs
        obtain ⟨ti, et, h1, h2, h3⟩ := sliceTy_ok hs
        split at h
        · split at h
          · split at h
            · split at h
              · rename_i hall
                cases h
                exact .sliceList (by assumption) (bdF_ok (by assumption)) (bdF_ok (by assumption)) (by assumption) (by assumption) h1 h2 h3 (fun e he => by simpa using List.all_eq_true.1 hall e he)
              · cases h
            · cases h
          · cases h
        · cases h
      · cases h
    · split at h
      · rename_i hs
        obtain ⟨ti, et, h1, h2, h3⟩ := sliceTy_ok hs
        split at h
        · split at h
          · split at h
            · split at h
              · split at h
                · rename_i hany
                  cases h
                  obtain ⟨e, he, hc⟩ := List.any_eq_true.1 hany
                  exact .sliceRef (by assumption) (bdF_ok (by assumption)) (bdF_ok (by assumption)) (by assumption) (by assumption) h1 h2 h3 (by assumption) ⟨e, he, by simpa using hc⟩
                · cases h
              · cases h
            · split at h
              · rename_i hl hh hle _ heq
                cases h
                subst heq
                exact .sliceRef0 (by assumption) (bdF_ok hl) (bdF_ok hh) hle h1 h2 h3
              · cases h
          · cases h
        · cases h
      · cases h
    · split at h
      · rename_i hs
        obtain ⟨ti, et, h1, h2, h3⟩ := sliceTy_ok hs
        split at h
        · cases h; exact .sliceNils (by assumption) (bdF_ok (by assumption)) (bdF_ok (by assumption)) h1 h2 h3
        · cases h
      · cases h
    · cases h
  · split at h
    · rename_i hs
      obtain ⟨ti, et, h1, h2, h3⟩ := sliceTy_ok hs
      split at h
      · split at h
        · rename_i hx; cases h; exact .sliceClone (by rw [hx]; rfl) (fun s => by rw [hx]; simp) (bdF_ok (by assumption)) (bdF_ok (by assumption)) h1 h2 h3
        · rename_i hx; cases h; exact .sliceClone (by rw [hx]; rfl) (fun s => by rw [hx]; simp) (bdF_ok (by assumption)) (bdF_ok (by assumption)) h1 h2 h3
        · rename_i hx; cases h; exact .sliceClone (by rw [hx]; rfl) (fun s => by rw [hx]; simp) (bdF_ok (by assumption)) (bdF_ok (by assumption)) h1 h2 h3
        · cases h
      · cases h
    · cases h
  · split at h
    · exact .extract (by assumption) h
    · cases h
  · cases h; exact .makeFunc
  · split at h
    · split at h
      · split at h
        · rename_i hx; cases h; exact .lenSlice (by rw [hx]; rfl) (by assumption) (by assumption) (fun s => by rw [hx]; simp)
        · rename_i hx; cases h; exact .lenSlice (by rw [hx]; rfl) (by assumption) (by assumption) (fun s => by rw [hx]; simp)
        · rename_i hx; cases h; exact .lenSlice (by rw [hx]; rfl) (by assumption) (by assumption) (fun s => by rw [hx]; simp)
        · cases h
      · split at h
        · cases h; exact .lenStr (by assumption) (by assumption) (by assumption)
        · cases h
      · cases h; exact .lenArr (by assumption) (by assumption)
      · cases h
    · cases h
  · split at h
    · split at h
      · rename_i hk; subst hk; cases h; exact .min2 (by assumption) (by assumption)
      · cases h
    · cases h
  · split at h
    · split at h
      · rename_i hk; subst hk; cases h; exact .max2 (by assumption) (by assumption)
      · cases h
    · cases h
  · split at h
    · split at h
      · split at h
        · split at h
          · rename_i hall
            split at h
            · cases h
              refine .buildS (by assumption) (by assumption) (by assumption) (fun p hp0 => ?_) (by assumption)
              have := List.all_eq_true.1 hall p hp0
              exact Option.isSome_iff_exists.1 this
            · cases h
          · cases h
        · split at h
          · split at h
            · cases h; exact .buildA (by assumption) (by assumption) (by assumption) (by assumption) (by assumption)
            · cases h
          · cases h
        · cases h
      · cases h
    · cases h
  · cases h
end Go.Av

namespace Go.Av
variable [Gls]
def srcF (H : Heap) : AV → Option (List AV)
  | .list _ es => some es
  | .nils => some []
  | .ref o off len => match H o with
    | some x => if off + len ≤ x.es.length then some ((x.es.drop off).take len) else none
    | none => none
  | _ => none
theorem srcF_ok {H : Heap} {a : AV} {xs : List AV} (h : srcF H a = some xs) : SrcR H a xs := by
  unfold srcF at h
  split at h
  · cases h; exact .list
  · cases h; exact .nils
  · split at h
    · split at h
      · cases h; exact .ref (by assumption) (by assumption)
      · cases h
    · cases h
  · cases h
def mkF (T : Ty) (ev : Operand → AV) (H : Heap) (id : Nat) : Op → Option (AV × Eff)
  | .box _ x => if (ev x).whole = true then (match (ev x).cells with
      | [] => none
      | a :: r => some (.ptr id 0 0, .new { es := [ev x], esz := (a :: r).length })) else none
  | .alloc elem => match T elem with
    | some ti => if ti.size ≠ 0 then some (.ptr id 0 0, .new { es := [ofConst ti.zero], esz := ti.size }) else none
    | none => none
  | .buildSlice t len ps => match sliceTy T t with
    | some te => if len = 0 then (match ps with
        | ⟨[]⟩ => some (.nils, .none)
        | _ => none)
      else if te.size ≠ 0 then (if len * te.size ≤ 2 ^ 24 then (match setParts te.size (List.replicate len (ofConst te.zero)) (ps.toList.map fun p => (p.1, ev p.2)) with
        | some es => some (.ref id 0 len, .new { es := es, esz := te.size })
        | none => none) else none) else none
    | none => none
  | .makeSlice t l cc => match sliceTy T t with
    | some te => match ev l, ev cc with
      | .sc (.int _ n), .sc (.int _ m) => if n = 0 ∧ m = 0 then some (.nils, .none) else
          if 0 ≤ n ∧ n ≤ m ∧ 0 < m ∧ te.size ≠ 0 ∧ te.bytes * m ≤ 2 ^ 48 ∧ m < 2 ^ 62 then some (.ref id 0 n.toNat, .new { es := List.replicate n.toNat (ofConst te.zero), esz := te.size }) else none
      | _, _ => none
    | none => none
  | .call { callee := .builtin .append, args := ⟨[s, x]⟩, argTypes := ⟨[t, t']⟩ } => if t = t' then (match sliceTy T t with
    | some te => match srcF H (ev x) with
      | some [] => match ev s with
        | .list own es => some (.list own es, .none)
        | .ref o off n => some (.ref o off n, .none)
        | .nils => some (.nils, .none)
        | _ => none
      | some (e :: r) => if (e :: r).all (fun e => e.cells.length == te.size) then (match ev s with
        | .nils => if te.size ≠ 0 ∧ (e :: r).length ≤ maxLen ∧ (e :: r).length * te.bytes ≤ 140737488355328 then some (.ref id 0 (e :: r).length, .new { es := e :: r, esz := te.size }) else none
        | .ref o 0 n => match H o with
          | some y => if y.es.length = n ∧ y.spent = false ∧ y.esz = te.size ∧ n + (e :: r).length ≤ maxLen ∧ (n + (e :: r).length) * te.bytes ≤ 140737488355328 then
              some (.ref id 0 (n + (e :: r).length), .app o { es := y.es ++ (e :: r), esz := te.size }) else none
          | none => none
        | _ => none) else none
      | none => none
    | none => none) else (match ev s, ev x, sliceTy T t, T t' with
    | .nils, .sc (.int _ n), some te, some tin => match tin.kind with
      | .int _ => if 0 < n ∧ te.size ≠ 0 ∧ n.toNat ≤ maxLen ∧ n.toNat * te.bytes ≤ 140737488355328 then some (.ref id 0 n.toNat, .new { es := List.replicate n.toNat (ofConst te.zero), esz := te.size }) else none
      | _ => none
    | _, _, _, _ => none)
  | _ => none
theorem mkF_ok {T : Ty} {ev : Operand → AV} {H : Heap} {id : Nat} {op : Op} {a : AV} {e : Eff} (h : mkF T ev H id op = some (a, e)) :
    Mk T ev H id op a e ∧ ∀ old x, e = .app old x ∨ e = .new x → x.solo = true ∧ x.spent = false := by
  unfold mkF at h
  split at h
  · split at h
    · rename_i hw
      split at h
      · cases h
      · rename_i hc
        cases h
        refine ⟨?_, fun old y hy => ?_⟩
        · rw [← hc]; exact .box hw (by rw [hc]; simp)
        · rcases hy with hy | hy <;> cases hy; exact ⟨rfl, rfl⟩
    · cases h
  · split at h
    · split at h
      · cases h
        exact ⟨.alloc (by assumption) (by assumption), fun old y hy => by rcases hy with hy | hy <;> cases hy; exact ⟨rfl, rfl⟩⟩
      · cases h
    · cases h
  · split at h
    · rename_i hs
      obtain ⟨ti, et, h1, h2, h3⟩ := sliceTy_ok hs
      split at h
      · rename_i h0
        subst h0
        split at h
        · cases h; exact ⟨.slice0 h1 h2 h3, fun old y hy => by rcases hy with hy | hy <;> cases hy⟩
        · cases h
      · split at h
        · split at h
          · split at h
            · cases h; exact ⟨.buildSlice h1 h2 h3 (by assumption) (by assumption) (by assumption) (by assumption), fun old y hy => by rcases hy with hy | hy <;> cases hy; exact ⟨rfl, rfl⟩⟩
            · cases h
          · cases h
        · cases h
    · cases h
  · split at h
    · rename_i hs
      obtain ⟨ti, et, h1, h2, h3⟩ := sliceTy_ok hs
      split at h
      · rename_i hl hc
        split at h
        · rename_i h0
          obtain ⟨rfl, rfl⟩ := h0
          cases h; exact ⟨.make0 hl hc h1 h2 h3, fun old y hy => by rcases hy with hy | hy <;> cases hy⟩
        · split at h
          · rename_i hh
            obtain ⟨g1, g2, g3, g4, g5, g6⟩ := hh
            cases h; exact ⟨.make hl hc g1 g2 g3 h1 h2 h3 g4 g5 g6, fun old y hy => by rcases hy with hy | hy <;> cases hy; exact ⟨rfl, rfl⟩⟩
          · cases h
      · cases h
    · cases h
  · split at h
    · rename_i ht
      subst ht
      split at h
      · rename_i hs
        obtain ⟨ti, et, h1, h2, h3⟩ := sliceTy_ok hs
        split at h
        · rename_i hx
          split at h
          · rename_i hv; cases h; rw [← hv]; exact ⟨.append0 (n := _) (by rw [hv]; rfl) (fun u => by rw [hv]; simp) (srcF_ok hx) h1 h2 h3, fun old y hy => by rcases hy with hy | hy <;> cases hy⟩
          · rename_i hv; cases h; rw [← hv]; exact ⟨.append0 (n := _) (by rw [hv]; rfl) (fun u => by rw [hv]; simp) (srcF_ok hx) h1 h2 h3, fun old y hy => by rcases hy with hy | hy <;> cases hy⟩
          · rename_i hv; cases h; rw [← hv]; exact ⟨.append0 (n := _) (by rw [hv]; rfl) (fun u => by rw [hv]; simp) (srcF_ok hx) h1 h2 h3, fun old y hy => by rcases hy with hy | hy <;> cases hy⟩
          · cases h
        · rename_i e r hx
          split at h
          · rename_i hall
            have hsz : ∀ e' ∈ e :: r, e'.cells.length = _ := fun e' he => by simpa using List.all_eq_true.1 hall e' he
            split at h
            · split at h
              · rename_i hv hh
                obtain ⟨g1, g2, g3⟩ := hh
                cases h
                exact ⟨.appendNil hv (srcF_ok hx) (by simp) h1 h2 h3 hsz g1 g2 g3, fun old y hy => by rcases hy with hy | hy <;> cases hy; exact ⟨rfl, rfl⟩⟩
              · cases h
            · split at h
              · split at h
                · rename_i hv _ _ hH hh
                  obtain ⟨g1, g2, g3, g4, g5⟩ := hh
                  cases h
                  exact ⟨.append hv hH g1 g2 g3 (srcF_ok hx) (by simp) h1 h2 h3 hsz g4 g5, fun old y hy => by rcases hy with hy | hy <;> cases hy; exact ⟨rfl, rfl⟩⟩
                · cases h
              · cases h
            · cases h
          · cases h
        · cases h
      · cases h
    · split at h
      · rename_i hs hx hst htn
        obtain ⟨ti, et, h1, h2, h3⟩ := sliceTy_ok hst
        split at h
        · rename_i hkn
          split at h
          · rename_i hh
            obtain ⟨g1, g2, g3, g4⟩ := hh
            cases h
            exact ⟨.appendZeros hs hx g1 htn hkn h1 h2 h3 g2 g3 g4, fun old y hy => by rcases hy with hy | hy <;> cases hy; exact ⟨rfl, rfl⟩⟩
          · cases h
        · cases h
      · cases h
  · cases h
def getF : List AV → Nat → AV
  | [], _ => .sc undef
  | a :: _, 0 => a
  | _ :: l, n + 1 => getF l n
def setF : List AV → Nat → AV → List AV
  | [], 0, a => [a]
  | [], n + 1, a => .sc undef :: setF [] n a
  | _ :: l, 0, a => a :: l
  | b :: l, n + 1, a => b :: setF l n a
theorem getF_set (a : AV) : ∀ (d : Nat) (l : List AV) (t : Nat), getF (setF l d a) t = if t = d then a else getF l t := by
  intro d
  induction d with
  | zero => intro l t; cases l <;> cases t <;> simp [setF, getF]
  | succ d ih => intro l t; cases l <;> cases t <;> simp [setF, getF, ih]
theorem getF_upd (l : List AV) (d : Nat) (a : AV) : getF (setF l d a) = upd (getF l) d a := by
  funext t
  rw [getF_set]
  by_cases h : t = d
  · subst h; rw [if_pos rfl, upd_same]
  · rw [if_neg h, upd_other _ _ h]
def setO (l : List AV) : Option Nat → AV → List AV
  | some d, a => setF l d a
  | none, _ => l
theorem getF_updO (l : List AV) (d : Option Nat) (a : AV) : getF (setO l d a) = updO (getF l) d a := by
  cases d with
  | none => rfl
  | some d => exact getF_upd l d a
theorem getF_args (as : List AV) : getF as = argA as := by
  funext t
  unfold argA
  induction as generalizing t with
  | nil => rfl
  | cons a l ih =>
    cases t with
    | zero => rfl
    | succ t => simpa [getF] using ih t
def delH (o : Nat) : List (Nat × Obj) → List (Nat × Obj)
  | [] => []
  | (q, x) :: l => bif Nat.beq o q then delH o l else (q, x) :: delH o l
theorem hp0_del (o : Nat) (l : List (Nat × Obj)) : hp0 (delH o l) = upd (hp0 l) o none := by
  funext q
  induction l with
  | nil =>
    by_cases h : q = o
    · subst h; rw [upd_same]; rfl
    · rw [upd_other _ _ h]; rfl
  | cons p l ih =>
    obtain ⟨d, x⟩ := p
    simp only [delH]
    by_cases hd : o = d
    · subst hd
      rw [show Nat.beq o o = true by simp, cond_true, ih]
      by_cases h : q = o
      · subst h; rw [upd_same, upd_same]
      · rw [upd_other _ _ h, upd_other _ _ h]
        have : Nat.beq q o = false := by rw [← Bool.not_eq_true, Nat.beq_eq]; exact h
        simp only [hp0, this, cond_false]
    · have hb : Nat.beq o d = false := by rw [← Bool.not_eq_true, Nat.beq_eq]; exact hd
      rw [hb, cond_false]
      simp only [hp0, ih]
      by_cases h : q = o
      · subst h; rw [upd_same, upd_same, hb]; rfl
      · rw [upd_other _ _ h, upd_other _ _ h]
theorem hp0_new (o : Nat) (x : Obj) (l : List (Nat × Obj)) : hp0 ((o, x) :: l) = upd (hp0 l) o (some x) := by
  funext q
  simp only [hp0]
  by_cases h : q = o
  · subst h; rw [upd_same]; simp
  · have : Nat.beq q o = false := by rw [← Bool.not_eq_true, Nat.beq_eq]; exact h
    rw [upd_other _ _ h, this]; rfl
theorem hp0_set (o : Nat) (x : Obj) (l : List (Nat × Obj)) : hp0 ((o, x) :: delH o l) = upd (hp0 l) o (some x) := by
  rw [hp0_new, hp0_del]
  funext q
  by_cases h : q = o
  · subst h; rw [upd_same, upd_same]
  · rw [upd_other _ _ h, upd_other _ _ h, upd_other _ _ h]
def effH (id : Nat) (l : List (Nat × Obj)) : Eff → List (Nat × Obj)
  | .none => l
  | .new x => (id, x) :: l
  | .app old x => (id, x) :: delH old l
theorem hp0_eff (id : Nat) (l : List (Nat × Obj)) (e : Eff) : hp0 (effH id l e) = e.seq id (hp0 l) := by
  cases e with
  | none => rfl
  | new x => exact hp0_new id x l
  | app old x =>
    show hp0 ((id, x) :: delH old l) = upd (upd (hp0 l) old none) id (some x)
    rw [hp0_new, hp0_del]
def weffH (id : Nat) (l : List (Nat × Obj)) : WEff → List (Nat × Obj)
  | .none => l
  | .new x => (id, x) :: l
  | .app old x => (id, x) :: delH old l
  | .set o x => (o, x) :: delH o l
theorem hp0_weff (id : Nat) (l : List (Nat × Obj)) (e : WEff) : hp0 (weffH id l e) = e.go id (hp0 l) := by
  cases e with
  | none => rfl
  | new x => rw [WEff.go_new]; exact hp0_new id x l
  | app old x =>
    rw [WEff.go_app]
    show hp0 ((id, x) :: delH old l) = upd (upd (hp0 l) old none) id (some x)
    rw [hp0_new, hp0_del]
  | set o x => rw [WEff.go_set]; exact hp0_set o x l
def stF (T : Ty) (ev : Operand → AV) (H : Heap) (t : Nat) (p x : Operand) : Option (Nat × Obj) :=
  match T t with
  | some ti => match ev p with
    | .ptr o i k => match H o with
      | some y => match y.es[i]? with
        | some e => if y.solo = true ∧ (ev x).whole = true ∧ (ev x).cells.length = ti.size ∧ k + ti.size ≤ e.cells.length ∧ ti.size ≠ 0 then
            some (o, { y with es := y.es.set i (storeE e k (ev x)) }) else none
        | none => none
      | none => none
    | _ => none
  | none => none
theorem stF_ok {T : Ty} {ev : Operand → AV} {H : Heap} {t : Nat} {p x : Operand} {q : Nat} {z : Obj} (h : stF T ev H t p x = some (q, z)) :
    ∃ i k y e ti, ev p = .ptr q i k ∧ H q = some y ∧ y.solo = true ∧ y.es[i]? = some e ∧ T t = some ti ∧ (ev x).whole = true ∧ (ev x).cells.length = ti.size ∧ k + ti.size ≤ e.cells.length ∧ ti.size ≠ 0 ∧
      z = { y with es := y.es.set i (storeE e k (ev x)) } := by
  unfold stF at h
  split at h
  · split at h
    · split at h
      · split at h
        · split at h
          · rename_i hh
            obtain ⟨g1, g2, g3, g4, g5⟩ := hh
            cases h
            exact ⟨_, _, _, _, _, by assumption, by assumption, g1, by assumption, by assumption, g2, g3, g4, g5, rfl⟩
          · cases h
        · cases h
      · cases h
    · cases h
  · cases h
def mapO (f : AV → Option AV) : List AV → Option (List AV)
  | [] => some []
  | a :: l => match f a with
    | some b => match mapO f l with
      | some r => some (b :: r)
      | none => none
    | none => none
theorem mapO_ok {f : AV → Option AV} : ∀ {l r : List AV}, mapO f l = some r → l.length = r.length ∧ ∀ (i : Nat) a b, l[i]? = some a → r[i]? = some b → f a = some b := by
  intro l
  induction l with
  | nil => intro r h; simp [mapO] at h; subst h; exact ⟨rfl, fun i a b ha => by simp at ha⟩
  | cons x l ih =>
    intro r h
    simp only [mapO] at h
    split at h
    · split at h
      · rename_i hx _ _ hr
        cases h
        obtain ⟨h1, h2⟩ := ih hr
        refine ⟨by simp [h1], fun i a b ha hb => ?_⟩
        cases i with
        | zero => simp at ha hb; subst ha hb; exact hx
        | succ i => simp at ha hb; exact h2 i a b ha hb
      · cases h
    · cases h
def elF (f : AV → Option AV) (e : AV) : Option AV :=
  match e with
  | .agg cs => match mapO f cs with
    | some r => some (.agg r)
    | none => none
  | e => match f e with
    | some (.agg _) => none
    | r => r
theorem elF_ok {f : AV → Option AV} {e e' : AV} (h : elF f e = some e') : e.cells.length = e'.cells.length ∧ ∀ (k : Nat) a b, e.cells[k]? = some a → e'.cells[k]? = some b → f a = some b := by
  unfold elF at h
  split at h
  · split at h
    · rename_i hm
      cases h
      exact mapO_ok hm
    · cases h
  · rename_i e0 hne
    split at h
    · cases h
    · rename_i r hna
      have h1 : e.cells = [e] := by cases e <;> first | rfl | exact (hne _ rfl).elim
      have h2 : e'.cells = [e'] := by
        cases e' <;> first | rfl | exact (hna _ h).elim
      rw [h1, h2]
      refine ⟨rfl, fun k a b ha hb => ?_⟩
      cases k with
      | zero => simp at ha hb; subst ha hb; exact h
      | succ k => simp at ha
def cvF (m : Bool) (H : Heap) : Nat → AV → Option AV
  | 0, _ => none
  | n + 1, a => match a with
    | .sc v => some (.sc v)
    | .nils => some (.list m [])
    | .agg cs => match mapO (cvF m H n) cs with
      | some r => some (.agg r)
      | none => none
    | .tup cs => match mapO (cvF m H n) cs with
      | some r => some (.tup r)
      | none => none
    | .list own es => match m with
      | true => some (.list own es)
      | false => match mapO (elF (cvF false H n)) es with
        | some r => some (.list false r)
        | none => none
    | .ref o off len => match H o with
      | some x => if off + len ≤ x.es.length then (match mapO (elF (cvF m H n)) ((x.es.drop off).take len) with
        | some r => some (.list m r)
        | none => none) else none
      | none => none
    | .fn f [] => some (.fn f [])
    | .ptr o i k => match m with
      | true => none
      | false => match H o with
        | some x => match x.es[i]? with
          | some e => match elF (cvF false H n) e with
            | some e' => some (.elem false e' k)
            | none => none
          | none => none
        | none => none
    | .elem _ e k => match m with
      | true => none
      | false => match elF (cvF false H n) e with
        | some e' => some (.elem false e' k)
        | none => none
    | _ => none
theorem cvF_ok {m : Bool} {H : Heap} : ∀ (n : Nat) (a b : AV), cvF m H n a = some b → Cv m H a b := by
  intro n
  induction n with
  | zero => intro a b h; cases h
  | succ n ih =>
    intro a b h
    unfold cvF at h
    split at h
    · cases h; exact .sc
    · cases h; exact .nils
    · split at h
      · rename_i hm
        cases h
        obtain ⟨h1, h2⟩ := mapO_ok hm
        exact .agg h1 fun i a b ha hb => ih a b (h2 i a b ha hb)
      · cases h
    · split at h
      · rename_i hm
        cases h
        obtain ⟨h1, h2⟩ := mapO_ok hm
        exact .tup h1 fun i a b ha hb => ih a b (h2 i a b ha hb)
      · cases h
    · split at h
      · cases h; exact .listS rfl
      · split at h
        · rename_i hm
          cases h
          obtain ⟨h1, h2⟩ := mapO_ok hm
          exact .listD rfl h1 (fun i e e' he he' => (elF_ok (h2 i e e' he he')).1) (fun i e e' k a b he he' ha hb => ih a b ((elF_ok (h2 i e e' he he')).2 k a b ha hb))
        · cases h
    · rename_i o off len
      split at h
      · rename_i x hH
        split at h
        · rename_i hle
          split at h
          · rename_i r hm
            cases h
            obtain ⟨h1, h2⟩ := mapO_ok hm
            have hlen : ∀ (i : Nat) e', r[i]? = some e' → i < len := fun i e' he' => by
              have := (List.getElem?_eq_some_iff.1 he').1
              rw [← h1] at this
              simp at this
              omega
            have hget : ∀ (i : Nat) e, i < len → x.es[off + i]? = some e → ((x.es.drop off).take len)[i]? = some e := fun i e hi he => by
              rw [List.getElem?_take, if_pos hi, List.getElem?_drop]; exact he
            refine .ref hH hle ?_ (fun i e e' he he' => ?_) (fun i e e' k a b he he' ha hb => ?_)
            · rw [← h1]; simp; omega
            · exact (elF_ok (h2 i e e' (hget i e (hlen i e' he') he) he')).1
            · exact ih a b ((elF_ok (h2 i e e' (hget i e (hlen i e' he') he) he')).2 k a b ha hb)
          · cases h
        · cases h
      · cases h
    · cases h; exact .fn0
    · split at h
      · cases h
      · split at h
        · rename_i hH
          split at h
          · rename_i he
            split at h
            · rename_i hm
              cases h
              exact .ptrL rfl hH he (elF_ok hm).1 fun k a b ha hb => ih a b ((elF_ok hm).2 k a b ha hb)
            · cases h
          · cases h
        · cases h
    · split at h
      · cases h
      · split at h
        · rename_i hm
          cases h
          exact .elemD rfl (elF_ok hm).1 fun k a b ha hb => ih a b ((elF_ok hm).2 k a b ha hb)
        · cases h
    · cases h
def ownF : Nat → AV → Bool
  | 0, _ => false
  | n + 1, a => match a with
    | .sc _ => true
    | .nils => true
    | .agg cs => cs.all (ownF n)
    | .tup cs => cs.all (ownF n)
    | .list _ [] => true
    | .list own es => own && es.all (fun e => e.cells.all (ownF n))
    | _ => false
theorem ownF_ok : ∀ (n : Nat) (a : AV), ownF n a = true → OwnO a := by
  intro n
  induction n with
  | zero => intro a h; cases h
  | succ n ih =>
    intro a h
    unfold ownF at h
    split at h
    · exact .sc
    · exact .nils
    · exact .agg fun a ha => ih a (List.all_eq_true.1 h a ha)
    · exact .tup fun a ha => ih a (List.all_eq_true.1 h a ha)
    · exact .listNil
    · simp only [Bool.and_eq_true] at h
      obtain ⟨h1, h2⟩ := h
      subst h1
      exact .list fun e he a ha => ih a (List.all_eq_true.1 (List.all_eq_true.1 h2 e he) a ha)
    · cases h
end Go.Av

namespace Go.Av
variable [Gls]
structure RS where
  F : List AV
  H : List (Nat × Obj)
  n : Nat
def RS.st (s : RS) : St := ⟨getF s.F, hp0 s.H, s.n⟩
abbrev Rec := Nat → List AV → List (Nat × Obj) → Nat → Option (AV × List (Nat × Obj) × Nat)
def RecOk (P : Program) (rec : Rec) : Prop :=
  ∀ f as H n r H' n', rec f as H n = some (r, H', n') → HC P f as (hp0 H) n (fun r2 H2 n2 => r2 = r ∧ H2 = hp0 H' ∧ n2 = n')
def opF (T : Ty) (rec : Rec) (s : RS) (o : Oper) : Option (AV × List (Nat × Obj) × Nat) :=
  match puF T (evA (getF s.F)) (hp0 s.H) o.op with
  | some a => some (a, s.H, s.n)
  | none => match mkF T (evA (getF s.F)) (hp0 s.H) s.n o.op with
    | some (a, e) => some (a, effH s.n s.H e, s.n + 1)
    | none => match o.op with
      | .store t p x => match stF T (evA (getF s.F)) (hp0 s.H) t p x with
        | some (q, z) => some (.sc undef, (q, z) :: delH q s.H, s.n)
        | none => none
      | .call { callee := .value x, args := args, argTypes := _ } => match evA (getF s.F) x with
        | .fn f caps => rec f (args.toList.map (evA (getF s.F)) ++ caps) s.H s.n
        | _ => none
      | _ => none
theorem opF_ok {P : Program} {T : Ty} {rec : Rec} {nt : Nat} {s : RS} {o : Oper} {a : AV} {H : List (Nat × Obj)} {n : Nat} (hT : TyOk P T) (hr : RecOk P rec) (h : opF T rec s o = some (a, H, n)) :
    OpR P nt o s.st (fun a' H' n' => a' = a ∧ H' = hp0 H ∧ n' = n) := by
  unfold opF at h
  split at h
  · rename_i hp'
    cases h
    exact OpR.pu hT (s := s.st) (puF_ok hp')
  · split at h
    · rename_i hm
      cases h
      obtain ⟨h1, h2⟩ := mkF_ok hm
      rw [hp0_eff]
      exact OpR.mk hT (s := s.st) h1 h2
    · split at h
      · rename_i ho
        split at h
        · rename_i hs
          cases h
          obtain ⟨i, k, y, e, ti, g1, g2, g3, g4, g5, g6, g7, g8, g9, rfl⟩ := stF_ok hs
          rw [hp0_set]
          refine OpR.st hT (s := s.st) ?_
          rw [ho]
          exact .store g1 g2 g3 g4 g5 g6 g7 g8 g9
        · cases h
      · rename_i ho
        split at h
        · rename_i hx
          exact OpR.call (s := s.st) ho hx (hr _ _ _ _ _ _ _ h)
        · cases h
      · cases h
def guardF (nt : Nat) (ops : Array Oper) (A : Nat → AV) (o : Oper) : Option Bool :=
  match o.guard with
  | none => some true
  | some (j, want) => match (ops[j]?).bind (·.dst) with
    | some t => if Nat.blt t nt = true then (match strip (A t) with
      | .sc v => some (boolIs want v)
      | _ => none) else none
    | none => none
def opsF (T : Ty) (rec : Rec) (nt : Nat) (ops : Array Oper) : List Oper → RS → Option RS
  | [], s => some s
  | o :: l, s => if dstOk nt o.dst = true then (match guardF nt ops (getF s.F) o with
    | some true => match opF T rec s o with
      | some (a, H, n) => opsF T rec nt ops l ⟨setO s.F o.dst a, H, n⟩
      | none => none
    | some false => opsF T rec nt ops l ⟨setO s.F o.dst (.sc undef), s.H, s.n⟩
    | none => none) else none
theorem opsF_ok {P : Program} {T : Ty} {rec : Rec} {nt n0 : Nat} {ops : Array Oper} (hT : TyOk P T) (hr : RecOk P rec) : ∀ (l : List Oper) (s r : RS), opsF T rec nt ops l s = some r →
    SemL P nt n0 ops l (fun s' => s' = r.st) s.st := by
  intro l
  induction l with
  | nil => intro s r h; simp [opsF] at h; subst h; exact SemL.nil rfl
  | cons o l ih =>
    intro s r h
    simp only [opsF] at h
    split at h
    · rename_i hd
      have hdlt := dstOk_lt hd
      split at h
      · rename_i hg
        split at h
        · rename_i a H n hop
          have hR := opF_ok (nt := nt) hT hr hop
          have hk := ih _ _ h
          have key : SemL P nt n0 ops ({ o with guard := none } :: l) (fun s' => s' = r.st) s.st := by
            refine SemL.step (R := fun a' H' n' => a' = a ∧ H' = hp0 H ∧ n' = n) rfl hdlt hR.noGuard ?_
            rintro a' H' n' ⟨rfl, rfl, rfl⟩
            have : (⟨updO s.st.A o.dst a', hp0 H, n'⟩ : St) = (RS.mk (setO s.F o.dst a') H n').st := by simp only [RS.st, getF_updO]
            show SemL P nt n0 ops l (fun s' => s' = r.st) ⟨updO s.st.A o.dst a', hp0 H, n'⟩
            rw [this]; exact hk
          unfold guardF at hg
          split at hg
          · rename_i hgn
            have ho : ({ o with guard := none } : Oper) = o := by cases o; simp at hgn; subst hgn; rfl
            rw [ho] at key; exact key
          · rename_i j want hgs
            split at hg
            · rename_i t hj
              split at hg
              · rename_i ht
                split at hg
                · rename_i v hb
                  have hv : v = .bool want := by
                    cases v <;> simp [boolIs] at hg
                    rw [hg]
                  rw [hv] at hb
                  exact stGuard (b := want) hgs hj ht hb hd (fun _ => key) (fun hne => absurd rfl hne)
                · cases hg
              · cases hg
            · cases hg
        · cases h
      · rename_i hg
        unfold guardF at hg
        split at hg
        · cases hg
        · rename_i j want hgs
          split at hg
          · rename_i t hj
            split at hg
            · rename_i ht
              split at hg
              · rename_i v hb
                refine stSkip hgs hj ht hb hd (by simpa using hg) ?_
                have hk := ih _ _ h
                have : (⟨updO s.st.A o.dst (.sc undef), s.st.H, s.st.n⟩ : St) = (RS.mk (setO s.F o.dst (.sc undef)) s.H s.n).st := by simp only [RS.st, getF_updO]
                rw [this]; exact hk
              · cases hg
            · cases hg
          · cases hg
      · cases h
    · cases h
def loopF (b : RS → Option (AExit × RS)) : Nat → RS → Option (AExit × RS)
  | 0, _ => none
  | m + 1, s => match b s with
    | some (.normal, s') => loopF b m s'
    | r => r
open Classical in
theorem SemC.loop0 {P : Program} {nt n0 : Nat} {s : St} {Q : AExit → St → Prop} {body : Code} (J : Nat → St → Prop) (h0 : ∃ m, J m s)
    (hr : ∀ m s, J m s → SemC P nt n0 body (fun e s' => match e with | .normal => ∃ m', J m' s' ∧ m' < m | e => Q e s') s) : SemC P nt n0 (.loop body) Q s := by
  intro c0 H0 c act g R hR
  let ds := act.defers
  let I' : Nat → Act → World → Prop := fun m act w => ∃ c s, c.w = w ∧ Good nt c0 H0 n0 c s act ∧ act.defers = ds ∧ J m s
  let I : Act → World → Prop := fun act w => ∃ m, I' m act w
  let μ : Act → World → Nat := fun act w => if h : ∃ m, I' m act w then Classical.choose (least h) else 0
  obtain ⟨m, hJ⟩ := h0
  refine wpIn_loop I μ ⟨m, c, s, rfl, g, rfl, hJ⟩ ?_
  intro a w hI
  have hm : μ a w = Classical.choose (least hI) := dif_pos hI
  obtain ⟨c1, s2, rfl, g1, hd1, hJ1⟩ := (Classical.choose_spec (least hI)).1
  refine wpIn_mono (hr _ _ hJ1 c0 H0 c1 a g1 R hR.loop) ?_
  rintro e a' w' ⟨c2, s3, ae, rfl, g2, hd2, rfl, hq⟩
  have hd3 : a'.defers = ds := hd2.trans hd1
  cases ae with
  | normal =>
    obtain ⟨m', hJ4, hlt⟩ := hq
    have hI4 : I' m' a' c2.w := ⟨c2, s3, rfl, g2, hd3, hJ4⟩
    refine ⟨⟨m', hI4⟩, ?_⟩
    have : μ a' c2.w = Classical.choose (least (⟨m', hI4⟩ : ∃ m, I' m a' c2.w)) := dif_pos (⟨m', hI4⟩ : ∃ m, I' m a' c2.w)
    rw [this, hm]
    exact Nat.lt_of_le_of_lt ((Classical.choose_spec (least (⟨m', hI4⟩ : ∃ m, I' m a' c2.w))).2 m' hI4) hlt
  | exit id => exact ⟨c2, s3, .exit id, rfl, g2, hd3, rfl, hq⟩
  | ret => exact ⟨c2, s3, .ret, rfl, g2, hd3, rfl, hq⟩
def dopF (T : Ty) (rec : Rec) (A : Nat → AV) (V : Heap) (id : Nat) (o : Oper) : Option (AV × WEff) :=
  match puF T (evA A) V o.op with
  | some a => some (a, .none)
  | none => match mkF T (evA A) V id o.op with
    | some (a, .none) => some (a, .none)
    | some (a, .new x) => some (a, .new x)
    | some (a, .app old x) => some (a, .app old x)
    | none => match o.op with
      | .store t p x => match o.dst with
        | none => match stF T (evA A) V t p x with
          | some (q, z) => some (.sc undef, .set q z)
          | none => none
        | some _ => none
      | .call { callee := .value x, args := args, argTypes := _ } => match evA A x with
        | .fn f [] => match mapO (cvF false V 100) (args.toList.map (evA A)) with
          | some bs => match rec f bs [] 0 with
            | some (r, H', _) => match cvF true (hp0 H') 100 r with
              | some r' => if ownF 100 r' = true then some (r', .none) else none
              | none => none
            | none => none
          | none => none
        | _ => none
      | _ => none
theorem Pure.of_hc {P : Program} {f : Nat} {bs : List AV} {r r' : AV} {H' : Heap} {n' : Nat} (h : HC P f bs (fun _ => none) 0 (fun r2 H2 n2 => r2 = r ∧ H2 = H' ∧ n2 = n')) (hc : Cv true H' r r') : Pure P f bs r' := by
  refine ⟨h.1, fun w S vs hS hG hv => ?_⟩
  let c : Ctx := ⟨w, pl0, S, fun _ => False, w.heap.size⟩
  have hI : Inv c (fun _ => none) (· < 0) :=
    ⟨fun o x h => (by cases h), fun o o' x x' h => (by cases h), fun o x h => (by cases h), fun b hb => hb.elim (hS b) False.elim, Nat.le_refl _, fun b hb => hb.elim, fun o x h => (by cases h), hG⟩
  have hvs : VRels c false bs vs := ⟨hv.len, fun i a v ha hvv => (hv.rel i a v ha hvv).shallow⟩
  have hok : ∀ a ∈ bs, a.Ok (· < 0) := by
    intro a ha
    obtain ⟨i, hi⟩ := List.getElem?_of_mem ha
    have : i < vs.size := by rw [← hv.len]; exact (List.getElem?_eq_some_iff.1 hi).1
    exact (hv.rel i a _ hi (Array.getElem?_eq_getElem this)).okDeep
  refine (h.2 c vs hI (fun o x h => by cases h) hvs hok).mono ?_
  rintro e w' ⟨v, r2, H2, n2, c', ⟨rfl, rfl, rfl⟩, rfl, rfl, hle, hsa, hso, hfr, hown, hI', hs, hn, hvr, hokr⟩
  refine ⟨v, rfl, ?_, ⟨⟨hfr.os, hfr.tape, hfr.output.1, hfr.size, fun k hk => hfr.block k hk (fun o x hx => (by cases hx))⟩, hfr.output.2⟩⟩
  have hB : c'.B = w.heap.size := hle.B
  refine cv_ok hI' (c' := ⟨c'.w, pl0, S, fun b => w.heap.size ≤ b ∧ b < c'.w.heap.size, w.heap.size⟩) rfl (fun b hb => ?_) (fun _ b hb => ?_) (fun o x hx => ?_) hc hvr
  · rcases hb with hb | hb
    · exact .inl ⟨rfl, by rw [hsa] at hb; exact hb⟩
    · exact .inr ⟨by rw [← hB]; exact hI'.own b hb, hI'.lt b (.inr hb)⟩
  · exact ⟨by rw [← hB]; exact hI'.own b hb, hI'.lt b (.inr hb)⟩
  · obtain ⟨_, ⟨⟨cur, hcb, _⟩, _⟩, _⟩ := hI'.obj o x hx
    exact .inr ⟨by rw [← hB]; exact hI'.low o x hx, (Array.getElem?_eq_some_iff.1 hcb).1⟩
theorem dopF_ok {P : Program} {T : Ty} {rec : Rec} {A : Nat → AV} {V : Heap} {id : Nat} {o : Oper} {a : AV} {e : WEff} (hr : RecOk P rec) (h : dopF T rec A V id o = some (a, e)) : DOp P T A V id o a e := by
  unfold dopF at h
  split at h
  · cases h; exact .pu (puF_ok (by assumption))
  · split at h
    · rename_i hm; cases h; exact .zero (mkF_ok hm).1
    · rename_i hm; cases h
      obtain ⟨h1, h2⟩ := mkF_ok hm
      have := h2 0 _ (.inr rfl)
      exact .new h1 this.1 this.2
    · rename_i hm; cases h
      obtain ⟨h1, h2⟩ := mkF_ok hm
      have := h2 _ _ (.inl rfl)
      exact .app h1 this.1 this.2
    · split at h
      · rename_i ho
        split at h
        · rename_i hd
          split at h
          · rename_i hs
            cases h
            obtain ⟨i, k, y, e, ti, g1, g2, g3, g4, g5, g6, g7, g8, g9, rfl⟩ := stF_ok hs
            exact .store ho hd g1 g2 g4 g5 g6 g7 g8 g9
          · cases h
        · cases h
      · rename_i ho
        split at h
        · rename_i hx
          split at h
          · rename_i hm
            split at h
            · rename_i hrec
              split at h
              · rename_i hc
                split at h
                · rename_i hown
                  cases h
                  obtain ⟨m1, m2⟩ := mapO_ok hm
                  exact .pure ho hx (by rw [List.append_nil]; exact ⟨m1, fun i a b ha hb => cvF_ok _ _ _ (m2 i a b ha hb)⟩) (Pure.of_hc (hr _ _ _ _ _ _ _ hrec) (cvF_ok _ _ _ hc)) (fun _ _ h => h) (.inl (ownF_ok _ _ hown))
                · cases h
              · cases h
            · cases h
          · cases h
        · cases h
      · cases h
def drawF (T : Ty) (rec : Rec) (nt base : Nat) (ops : Array Oper) (ms : List Nat) (hs : List (Nat × (Nat → Bool))) : Nat → List Oper → List AV → List (Nat × Obj) → List WEff → Option (List AV × List (Nat × Obj))
  | _, [], F, H, _ => some (F, H)
  | i, o :: l, F, H, es =>
    if dstOkD nt (badGo i (ms.getD i 0) 0 ops.toList ms) o.dst = true then
      (match guardF nt ops (frD (badGo i (ms.getD i 0) 0 ops.toList ms) (getF F)) o with
      | some true => match dopF T rec (frD (badGo i (ms.getD i 0) 0 ops.toList ms) (getF F)) (hpD base (ms.getD i 0) (hz0 o) es (hp0 H)) (base + i) o with
        | some (a, e) => if writeOk base (ms.getD i 0) (e.objs (base + i)) 0 (hs.take i) [] es = true then
            drawF T rec nt base ops ms hs (i + 1) l (setO F o.dst a) (weffH (base + i) H e) (es ++ [e]) else none
        | none => none
      | some false => drawF T rec nt base ops ms hs (i + 1) l (setO F o.dst (.sc undef)) H (es ++ [.none])
      | none => none) else none
theorem drawF_ok {P : Program} {T : Ty} {rec : Rec} {nt base : Nat} {ops : Array Oper} {ms : List Nat} (hr : RecOk P rec) : ∀ (l : List Oper) (i : Nat) (F : List AV) (H : List (Nat × Obj)) (es : List WEff) (F' : List AV) (H' : List (Nat × Obj)),
    drawF T rec nt base ops ms (ms.zip (ops.toList.map hz0)) i l F H es = some (F', H') → DRun hz0 P T nt base ops ms i l (getF F) (hp0 H) es (getF F') (hp0 H') := by
  intro l
  induction l with
  | nil => intro i F H es F' H' h; simp [drawF] at h; obtain ⟨rfl, rfl⟩ := h; exact .nil
  | cons o l ih =>
    intro i F H es F' H' h
    simp only [drawF] at h
    split at h
    · rename_i hd
      split at h
      · rename_i hg
        split at h
        · rename_i a e hop
          split at h
          · rename_i hw
            have hk := ih _ _ _ _ _ _ h
            rw [getF_updO, hp0_weff] at hk
            have hop' := dopF_ok hr hop
            unfold guardF at hg
            split at hg
            · rename_i hgn; exact .op hgn hd hop' hw hk
            · rename_i j want hgs
              split at hg
              · rename_i t hj
                split at hg
                · rename_i ht
                  split at hg
                  · rename_i v hb
                    have hv : v = .bool want := by
                      cases v <;> simp [boolIs] at hg
                      rw [hg]
                    rw [hv] at hb
                    exact .run hgs hd hj ht hb hop' hw hk
                  · cases hg
                · cases hg
              · cases hg
          · cases h
        · cases h
      · rename_i hg
        have hk := ih _ _ _ _ _ _ h
        rw [getF_updO] at hk
        unfold guardF at hg
        split at hg
        · cases hg
        · rename_i j want hgs
          split at hg
          · rename_i t hj
            split at hg
            · rename_i ht
              split at hg
              · rename_i v hb
                exact .skip hgs hd hj ht hb (by simpa using hg) hk
              · cases hg
            · cases hg
          · cases hg
      · cases h
    · cases h
end Go.Av

namespace Go.Av
variable [Gls]
def codeF (P : Program) (T : Ty) (rec : Rec) (nt k : Nat) : Code → RS → Option (AExit × RS)
  | .skip, s => some (.normal, s)
  | .label _, s => some (.normal, s)
  | .exit id, s => some (.exit id, s)
  | .ret, s => some (.ret, s)
  | .seq a b, s => match codeF P T rec nt k a s with
    | some (.normal, s') => codeF P T rec nt k b s'
    | r => r
  | .cond x a b, s => match evA (getF s.F) x with
    | .sc (.bool true) => codeF P T rec nt k a s
    | .sc (.bool false) => codeF P T rec nt k b s
    | _ => none
  | .block id c, s => match codeF P T rec nt k c s with
    | some (.exit i, s') => bif Nat.beq i id then some (.normal, s') else some (.exit i, s')
    | r => r
  | .loop b, s => loopF (codeF P T rec nt k b) k s
  | .region _ ops false, s => match opsF T rec nt ops ops.toList s with
    | some s' => some (.normal, s')
    | none => none
  | .region _ ops true, s => if P.follows .mixedOrders = true ∧ preLt 0 ops.toList = true then
      (match drawF T rec nt s.n ops (masks ops.toList) ((masks ops.toList).zip (ops.toList.map hz0)) 0 ops.toList s.F s.H [] with
      | some (F, H) => some (.normal, ⟨F, H, s.n + ops.toList.length⟩)
      | none => none) else none
  | _, _ => none
theorem codeF_ok {P : Program} {T : Ty} {rec : Rec} {nt k n0 : Nat} (hT : TyOk P T) (hr : RecOk P rec) : ∀ (code : Code) (s : RS) (e : AExit) (r : RS), codeF P T rec nt k code s = some (e, r) →
    SemC P nt n0 code (fun e' s' => e' = e ∧ s' = r.st) s.st := by
  intro code
  induction code with
  | skip => intro s e r h; simp only [codeF] at h; cases h; exact SemC.skip ⟨rfl, rfl⟩
  | label l => intro s e r h; simp only [codeF] at h; cases h; exact SemC.label ⟨rfl, rfl⟩
  | exit id => intro s e r h; simp only [codeF] at h; cases h; exact SemC.exit ⟨rfl, rfl⟩
  | ret => intro s e r h; simp only [codeF] at h; cases h; exact SemC.ret ⟨rfl, rfl⟩
  | seq a b iha ihb =>
    intro s e r h
    simp only [codeF] at h
    refine SemC.seq ?_
    split at h
    · rename_i s' ha
      refine (iha _ _ _ ha).mono ?_
      rintro e' s2 ⟨rfl, rfl⟩
      exact ihb _ _ _ h
    · rename_i hne
      refine (iha _ _ _ h).mono ?_
      rintro e' s2 ⟨rfl, rfl⟩
      cases e' with
      | normal => exact absurd h (hne _)
      | exit id => exact ⟨rfl, rfl⟩
      | ret => exact ⟨rfl, rfl⟩
  | cond x a b iha ihb =>
    intro s e r h
    simp only [codeF] at h
    split at h
    · rename_i hx
      exact SemC.cond (s := s.st) hx (fun _ => iha _ _ _ h) (fun h => by cases h)
    · rename_i hx
      exact SemC.cond (s := s.st) hx (fun h => by cases h) (fun _ => ihb _ _ _ h)
    · cases h
  | block id c ih =>
    intro s e r h
    simp only [codeF] at h
    refine SemC.block ?_
    split at h
    · rename_i i s' hc
      refine (ih _ _ _ hc).mono ?_
      rintro e' s2 ⟨rfl, rfl⟩
      simp only [blockQ]
      cases hb : Nat.beq i id with
      | true => rw [hb, cond_true] at h; cases h; exact ⟨rfl, rfl⟩
      | false => rw [hb, cond_false] at h; cases h; exact ⟨rfl, rfl⟩
    · rename_i hne
      refine (ih _ _ _ h).mono ?_
      rintro e' s2 ⟨rfl, rfl⟩
      cases e' with
      | normal => exact ⟨rfl, rfl⟩
      | exit id => exact absurd h (hne _ _)
      | ret => exact ⟨rfl, rfl⟩
  | loop b ih =>
    intro s e r h
    simp only [codeF] at h
    refine SemC.loop0 (fun m s' => ∃ q : RS, s' = q.st ∧ loopF (codeF P T rec nt k b) m q = some (e, r)) ⟨k, s, rfl, h⟩ ?_
    rintro m _ ⟨q, rfl, hq⟩
    cases m with
    | zero => cases hq
    | succ m =>
      simp only [loopF] at hq
      split at hq
      · rename_i s' hb
        refine (ih _ _ _ hb).mono ?_
        rintro e' s2 ⟨rfl, rfl⟩
        exact ⟨m, ⟨s', rfl, hq⟩, Nat.lt_succ_self m⟩
      · rename_i hne
        refine (ih _ _ _ hq).mono ?_
        rintro e' s2 ⟨rfl, rfl⟩
        cases e' with
        | normal => exact absurd hq (hne _)
        | exit id => exact ⟨rfl, rfl⟩
        | ret => exact ⟨rfl, rfl⟩
  | region id ops draw =>
    intro s e r h
    cases draw with
    | false =>
      simp only [codeF] at h
      split at h
      · rename_i s' hs
        cases h
        refine SemC.region ?_
        intro c0 H0 c act g Qx hQ
        exact opsF_ok hT hr _ _ _ hs c0 H0 c act g Qx fun c' s'' act' g' hd hq => hQ c' s'' act' g' hd ⟨rfl, hq⟩
      · cases h
    | true =>
      simp only [codeF] at h
      split at h
      · rename_i hh
        split at h
        · rename_i F H hd
          cases h
          exact SemC.drawn hh.1 hT hh.2 (drawF_ok hr _ _ _ _ _ _ _ hd) ⟨rfl, rfl⟩
        · cases h
      · cases h
  | _ => intro s e r h; simp only [codeF] at h; cases h
def resF (T : Ty) (s : RS) : List ResultVar → Option (List AV)
  | [] => some []
  | .tmp t :: l => match resF T s l with
    | some r => some (strip (getF s.F t) :: r)
    | none => none
  | .cell p t :: l => match T t with
    | some ti => match derefF (hp0 s.H) (strip (getF s.F p)) with
      | some (e, k) => match loadE ti e k with
        | some a => match resF T s l with
          | some r => some (a :: r)
          | none => none
        | none => none
      | none => none
    | none => none
theorem resF_ok {T : Ty} {s : RS} : ∀ (l : List ResultVar) (r : List AV), resF T s l = some r → ResRs T s.st l r := by
  intro l
  induction l with
  | nil => intro r h; simp [resF] at h; subst h; exact .nil
  | cons v l ih =>
    intro r h
    cases v with
    | tmp t =>
      simp only [resF] at h
      split at h
      · rename_i hr; cases h; exact .cons .tmp (ih _ hr)
      · cases h
    | cell p t =>
      simp only [resF] at h
      split at h
      · split at h
        · split at h
          · split at h
            · rename_i ht _ _ _ hd _ _ hl _ _ hr
              cases h
              exact .cons (.cell ht (derefF_ok hd) hl) (ih _ hr)
            · cases h
          · cases h
        · cases h
      · cases h
abbrev Env := Nat → Option (Func × Code)
def callF (P : Program) (T : Ty) (E : Env) (k : Nat) : Nat → Rec
  | 0 => fun _ _ _ _ => none
  | d + 1 => fun f as H n => match E f with
    | some (fn, code) => if Nat.ble as.length fn.ntmps = true then (match codeF P T (callF P T E k d) fn.ntmps k code ⟨as, H, n⟩ with
      | some (.exit _, _) => none
      | some (_, s) => match resF T s fn.results.toList with
        | some rs => some (packA rs, s.H, s.n)
        | none => none
      | none => none) else none
    | none => none
def EnvOk (P : Program) (E : Env) : Prop := ∀ f fn code, E f = some (fn, code) → FnOk P f fn code
theorem callF_ok {P : Program} {T : Ty} {E : Env} {k : Nat} (hT : TyOk P T) (hE : EnvOk P E) : ∀ d, RecOk P (callF P T E k d) := by
  intro d
  induction d with
  | zero => intro f as H n r H' n' h; cases h
  | succ d ih =>
    intro f as H n r H' n' h
    simp only [callF] at h
    split at h
    · rename_i fn code hf
      split at h
      · rename_i hle
        have body : ∀ (e : AExit) (s : RS), codeF P T (callF P T E k d) fn.ntmps k code ⟨as, H, n⟩ = some (e, s) → (∀ id, e ≠ .exit id) → (match resF T s fn.results.toList with
            | some rs => some (packA rs, s.H, s.n)
            | none => none) = some (r, H', n') → HC P f as (hp0 H) n (fun r2 H2 n2 => r2 = r ∧ H2 = hp0 H' ∧ n2 = n') := by
          intro e s hc hne hres
          split at hres
          · rename_i rs hrs
            cases hres
            have hsem := codeF_ok (n0 := n) hT ih _ _ _ _ hc
            have hst : (RS.mk as H n).st = ⟨argA as, hp0 H, n⟩ := by simp only [RS.st, getF_args]
            rw [hst] at hsem
            refine HC.of_body hT (hE _ _ _ hf) rfl (by simpa using hle) (hsem.mono ?_)
            rintro e' s' ⟨rfl, rfl⟩
            have hq : ∃ rs', ResRs T s.st fn.results.toList rs' ∧ (packA rs' = packA rs ∧ s.st.H = hp0 s.H ∧ s.st.n = s.n) := ⟨rs, resF_ok _ _ hrs, rfl, rfl, rfl⟩
            cases e' with
            | exit id => exact absurd rfl (hne id)
            | normal => exact hq
            | ret => exact hq
          · cases hres
        split at h
        · cases h
        · rename_i e s hne hc
          exact body e s hc (fun id he => by subst he; exact hne id rfl) h
        · cases h
      · cases h
    · cases h
theorem run_pure {P : Program} {T : Ty} {E : Env} {k d f : Nat} {as : List AV} {v : Value} (hT : TyOk P T) (hE : EnvOk P E)
    (h : (match callF P T E k d f as [] 0 with | some (.sc u, _, _) => some u | _ => none) = some v) : Pure P f as (.sc v) := by
  split at h
  · rename_i u H' n' hc
    cases h
    exact Pure.of_hc (callF_ok hT hE d _ _ _ _ _ _ _ hc) .sc
  · cases h
end Go.Av

namespace Go.Av
variable [Gls]
theorem SemC.scope {P : Program} {nt n0 : Nat} {s : St} {Q : AExit → St → Prop} {c : Code} (h : SemC P nt n0 c Q s) : SemC P nt n0 (.scope c) Q s := by
  intro c0 H0 cx act g R hR
  have hR2 := hR.scope
  obtain rfl := hR rfl
  refine wpR_none.2 (wp_scope_straight (Code.wp_mono ?_ (wpR_none.1 (h c0 H0 cx act g none hR2))))
  rintro e a w ⟨c', s', ae, rfl, g', hd, rfl, hq⟩
  cases ae with
  | normal => exact ⟨c', s', .normal, rfl, g', hd, rfl, hq⟩
  | exit id => exact ⟨c', s', .exit id, rfl, g', hd, rfl, hq⟩
  | ret => exact ⟨c', s', .ret, rfl, g', hd, rfl, hq⟩
end Go.Av

namespace Go.Av
variable [Gls]
def qPick (ev : Operand → AV) (c a b : Operand) : Option AV :=
  match ev c with
  | .sc (.bool true) => some (ev a)
  | .sc (.bool false) => some (ev b)
  | _ => none
def qLoad2 (ti : TI) (H : Heap) (p : AV) : Option AV :=
  match derefF H p with
  | some (e, k) => loadE ti e k
  | none => none
def qLoad (T : Ty) (ev : Operand → AV) (H : Heap) (t : Nat) (x : Operand) : Option AV :=
  match T t with
  | some ti => qLoad2 ti H (ev x)
  | none => none
def qNil : AV → Option AV
  | .ptr o i k => some (.ptr o i k)
  | .elem own e k => some (.elem own e k)
  | .fn f caps => some (.fn f caps)
  | _ => none
def qFieldAddr2 (off : Nat) : AV → Option AV
  | .ptr o i k => some (.ptr o i (k + off))
  | .elem own e k => some (.elem own e (k + off))
  | _ => none
def qFieldAddr (T : Ty) (ev : Operand → AV) (s : Nat) (x : Operand) (f : Nat) : Option AV :=
  match fieldF T s f with
  | some (off, tf) => if tf.size ≠ 0 then qFieldAddr2 off (ev x) else none
  | none => none
def qField (T : Ty) (ev : Operand → AV) (s : Nat) (x : Operand) (f : Nat) : Option AV :=
  match fieldF T s f with
  | some (off, tf) => match ev x with
    | .agg cs => eqT.partA tf cs off
    | _ => none
  | none => none
def qIndexAddr (T : Ty) (ev : Operand → AV) (H : Heap) (t : Nat) (x ix : Operand) : Option AV :=
  match ev ix with
  | .sc (.int _ i) => if 0 ≤ i then ixF T H t (ev x) i else none
  | _ => none
def qIndex (T : Ty) (ev : Operand → AV) (t : Nat) (x ix : Operand) : Option AV :=
  match ev ix with
  | .sc (.int _ i) => if 0 ≤ i then (match ev x with
    | .agg cs => match arrTy T t with
      | some (n, te) => if i < n then eqT.partA te cs (i.toNat * te.size) else none
      | none => none
    | _ => none) else none
  | _ => none
def qExtract (ev : Operand → AV) (x : Operand) (i : Nat) : Option AV :=
  match ev x with
  | .tup cs => cs[i]?
  | _ => none
def qLen2 (x : AV) : Option AV :=
  match x with
  | .list _ es => some (.sc (.int .i64 es.length))
  | .ref _ _ n => some (.sc (.int .i64 n))
  | .nils => some (.sc (.int .i64 (0 : Nat)))
  | _ => none
def qLenS (x : AV) : Option AV :=
  match x with
  | .sc (.string s) => some (.sc (.int .i64 s.size))
  | _ => none
def qLen (T : Ty) (ev : Operand → AV) (x : Operand) (t : Nat) : Option AV :=
  match T t with
  | some ti => match ti.kind with
    | .slice _ => qLen2 (ev x)
    | .string => qLenS (ev x)
    | .array n _ => some (.sc (.int .i64 n))
    | _ => none
  | none => none
def qBuild (T : Ty) (ev : Operand → AV) (t : Nat) (ps : Array (Nat × Operand)) : Option AV :=
  match T t with
  | some ti => match ofConst ti.zero with
    | .agg cs => match ti.kind with
      | .struct fs => if fs.all (fun p => (T p.2).isSome) then (match fillA (fun i => (fs[i]?).map fun p => (p.1, ((T p.2).map (·.size)).getD 0)) cs (ps.toList.map fun p => (p.1, ev p.2)) with
        | some r => some (.agg r)
        | none => none) else none
      | .array _ et => match T et with
        | some te => match fillA (fun i => some (i * te.size, te.size)) cs (ps.toList.map fun p => (p.1, ev p.2)) with
          | some r => some (.agg r)
          | none => none
        | none => none
      | _ => none
    | _ => none
  | none => none
def qPu (T : Ty) (ev : Operand → AV) (H : Heap) (op : Op) : Option AV :=
  match op with
  | .move x => some (ev x)
  | .assign x => some (ev x)
  | .pick c a b => qPick ev c a b
  | .load t x => qLoad T ev H t x
  | .nilCheck x => qNil (ev x)
  | .binOp op t x y _ => binF T op t (ev x) (ev y)
  | .unOp op _ x => unF op (ev x)
  | .convert src dst x => convF T src dst (ev x)
  | .fieldAddr s x f => qFieldAddr T ev s x f
  | .field s x f => qField T ev s x f
  | .indexAddr t x ix => qIndexAddr T ev H t x ix
  | .index t x ix => qIndex T ev t x ix
  | .extract x i => qExtract ev x i
  | .build t ps => qBuild T ev t ps
  | .slice t x lo hi mx => puF T ev H (.slice t x lo hi mx)
  | .makeFunc f ts caps => puF T ev H (.makeFunc f ts caps)
  | .call c => match c.callee with
    | .builtin .len => match c.args.toList, c.argTypes.toList with
      | [x], [t] => qLen T ev x t
      | _, _ => none
    | .builtin .append => none
    | .builtin _ => puF T ev H (.call c)
    | _ => none
  | _ => none
theorem qPu_ok {T : Ty} {ev : Operand → AV} {H : Heap} {op : Op} {a : AV} (h : qPu T ev H op = some a) : Pu T ev H op a := by
  refine puF_ok ?_
  unfold qPu at h
  split at h
  all_goals first
    | exact h
    | skip
  · rename_i c
    obtain ⟨callee, args, ts⟩ := c
    simp only at h
    split at h
    · split at h
      · rename_i x t ha ht
        obtain ⟨l⟩ := args
        obtain ⟨m⟩ := ts
        simp only at ha ht
        subst ha ht
        exact h
      · cases h
    · cases h
    · exact h
    · cases h
  · cases h
end Go.Av
