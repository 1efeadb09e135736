/- Functions: contracts over a heap, and pure ones. -/
import Derived.Test.YtioookhnoobpgaaAvCall
namespace Go.Av

def argA (as : List AV) : Nat → AV := fun t => (as[t]?).getD (.sc undef)

def retQ (T : Ty) (fn : Func) (K : AV → Heap → Nat → Prop) : AExit → St → Prop
  | .exit _, _ => False
  | _, s => ∃ rs, ResRs T s fn.results.toList rs ∧ K (packA rs) s.H s.n

theorem frame_args {c : Ctx} {d : Bool} {as : List AV} {vs : Array Value} (h : VRels c d as vs) (m : Nat) (t : Nat) : VRel c false (argA as t) ((vs ++ Array.replicate m undef).getD t undef) := by
  unfold argA
  by_cases ht : t < vs.size
  · have ht' : t < as.length := by rw [h.len]; exact ht
    rw [List.getElem?_eq_getElem ht']
    have : (vs ++ Array.replicate m undef).getD t undef = vs[t] := by
      simp only [Array.getD_eq_getD_getElem?, Array.getElem?_append_left ht, Array.getElem?_eq_getElem ht, Option.getD_some]
    rw [this]
    exact (h.rel t _ _ (List.getElem?_eq_getElem ht') (Array.getElem?_eq_getElem ht)).shallow
  · have ht' : as[t]? = none := by rw [List.getElem?_eq_none_iff, h.len]; omega
    rw [ht']
    have : (vs ++ Array.replicate m undef).getD t undef = undef := by
      simp only [Array.getD_eq_getD_getElem?, Array.getElem?_append_right (Nat.le_of_not_lt ht), Array.getElem?_replicate]
      split <;> rfl
    rw [this]
    exact .sc

theorem argA_ok {M : Nat → Prop} {as : List AV} (h : ∀ a ∈ as, a.Ok M) (t : Nat) : (argA as t).Ok M := by
  unfold argA
  cases hq : as[t]? with
  | none => exact .sc
  | some a => exact h a (List.mem_of_getElem? hq)

theorem Reach.le {c0 c : Ctx} {H0 H : Heap} {n0 : Nat} (r : Reach c0 H0 n0 c H) : c0.Le (· < n0) c :=
  ⟨r.rho, fun b hb => by rw [r.sa]; exact hb, r.so1, r.stable, r.B⟩
theorem Reach.fr {c0 c : Ctx} {H0 H : Heap} {n0 : Nat} (r : Reach c0 H0 n0 c H) : Fr c0 H0 c.w := ⟨r.os, r.tape, r.output, r.size, r.block⟩

section
variable {P : Program} {T : Ty}

/-- The body of a function, run as it stands. -/
theorem HC.of_body (hT : TyOk P T) {f : Nat} {fn : Func} {code : Code} (hfn : FnOk P f fn code) {as : List AV} {H : Heap} {n nt : Nat} {K : AV → Heap → Nat → Prop} (hnt : fn.ntmps = nt)
    (hle : as.length ≤ nt) (h : SemC P nt n code (retQ T fn K) ⟨argA as, H, n⟩) : HC P f as H n K := by
  refine ⟨⟨fn, code, hfn⟩, fun c vs hI hs hv ho => ?_⟩
  refine calls_of_wp hfn.here hfn.body ?_
  have g : Good nt c H n c ⟨argA as, H, n⟩ { tmps := vs ++ Array.replicate (fn.ntmps - vs.size) undef, defers := [] } := by
    refine ⟨hI, hs, fun t => frame_args hv _ t, fun t => argA_ok ho t, ?_, rfl, .refl c H n, Nat.le_refl _⟩
    have := hv.len
    simp only [Array.size_append, Array.size_replicate]; omega
  refine Code.wp_mono ?_ (h c H c _ g)
  rintro e a w ⟨c', s, ae, rfl, g', rfl, hq⟩
  cases ae with
  | exit id => exact hq.elim
  | normal =>
    obtain ⟨rs, hrs, hk⟩ := hq
    obtain ⟨v, h1, h2, h3⟩ := res_ok hT g' hrs
    exact ⟨g'.defers, v, h1, v, _, s.H, s.n, c', hk, rfl, rfl, g'.reach.le, g'.reach.sa, g'.reach.so2, g'.reach.fr, g'.reach.own, g'.inv, g'.solo, g'.le0, h2, h3⟩
  | ret =>
    obtain ⟨rs, hrs, hk⟩ := hq
    obtain ⟨v, h1, h2, h3⟩ := res_ok hT g' hrs
    exact ⟨g'.defers, v, h1, v, _, s.H, s.n, c', hk, rfl, rfl, g'.reach.le, g'.reach.sa, g'.reach.so2, g'.reach.fr, g'.reach.own, g'.inv, g'.solo, g'.le0, h2, h3⟩
end

/-! Values without references to objects. -/

/-- m: as a result (new lists own what they read); not m: as an argument (nothing is owned). -/
inductive Cv (m : Bool) (H : Heap) : AV → AV → Prop
  | sc {v} : Cv m H (.sc v) (.sc v)
  | nils : Cv m H .nils (.list m [])
  | agg {cs cs' : List AV} (hl : cs.length = cs'.length) (h : ∀ (i : Nat) a b, cs[i]? = some a → cs'[i]? = some b → Cv m H a b) : Cv m H (.agg cs) (.agg cs')
  | tup {cs cs' : List AV} (hl : cs.length = cs'.length) (h : ∀ (i : Nat) a b, cs[i]? = some a → cs'[i]? = some b → Cv m H a b) : Cv m H (.tup cs) (.tup cs')
  | listS {own es} (hm : m = true) : Cv m H (.list own es) (.list own es)
  | listD {own} {es es' : List AV} (hm : m = false) (hl : es.length = es'.length) (hc : ∀ (i : Nat) e e', es[i]? = some e → es'[i]? = some e' → e.cells.length = e'.cells.length)
      (h : ∀ (i : Nat) e e' (k : Nat) a b, es[i]? = some e → es'[i]? = some e' → e.cells[k]? = some a → e'.cells[k]? = some b → Cv m H a b) : Cv m H (.list own es) (.list false es')
  | ref {o off len x} {es' : List AV} (hH : H o = some x) (hle : off + len ≤ x.es.length) (hl : es'.length = len)
      (hc : ∀ (i : Nat) e e', x.es[off + i]? = some e → es'[i]? = some e' → e.cells.length = e'.cells.length)
      (h : ∀ (i : Nat) e e' (k : Nat) a b, x.es[off + i]? = some e → es'[i]? = some e' → e.cells[k]? = some a → e'.cells[k]? = some b → Cv m H a b) : Cv m H (.ref o off len) (.list m es')

theorem VRel.deep {c c' : Ctx} (hS : ∀ own b, c.S own b → c'.S own b) (hh : ∀ own b, c.S own b → c'.w.heap[b]? = c.w.heap[b]?) {d : Bool} {a : AV} {v : Value} (h : VRel c d a v) : d = true → VRel c' true a v := by
  have hcell : ∀ {own b off v}, c.S own b → c.w.cell? ⟨b, off, none⟩ = some v → c'.w.cell? ⟨b, off, none⟩ = some v := by
    intro own b off v hs hv
    rw [World.cell?_of_block (a := ⟨b, off, none⟩) (hh own b hs)]; exact hv
  induction h with
  | junk => intro h; cases h
  | sc => intro _; exact .sc
  | nils => intro _; exact .nils
  | agg hl h1 h ih => intro hd; exact .agg hl h1 fun i a v ha hv => by subst hd; exact ih i a v ha hv rfl
  | tup hl h ih => intro hd; exact .tup hl fun i a v ha hv => by subst hd; exact ih i a v ha hv rfl
  | listNil => intro _; exact .listNil
  | list vf hne hS' hn hcap hsz hc h1 h ih =>
    intro _
    exact .list vf hne (hS _ _ hS') hn hcap hsz (fun i e k a he ha => hcell hS' (hc i e k a he ha)) h1 (fun i e k a he ha => ih i e k a he ha rfl)
  | ref => intro h; cases h
  | ptr => intro h; cases h
  | elem => intro h; cases h
  | fn => intro h; cases h
  | cond => intro h; cases h

theorem Ctx.S_of_or {c : Ctx} {b : Nat} (h : c.Sa b ∨ c.So b) : c.S false b := h.imp (fun x => ⟨rfl, x⟩) id

theorem cv_ok {m : Bool} {H : Heap} {c c' : Ctx} {M : Nat → Prop} (hI : Inv c H M) (hw : c'.w = c.w) (hsa : ∀ b, c.Sa b ∨ c.So b → c'.S false b) (hso : m = true → ∀ b, c.So b → c'.So b)
    (hob : ∀ o x, H o = some x → c'.S m (c.ρ o).blk) {a b : AV} (h : Cv m H a b) : ∀ {v : Value}, VRel c false a v → VRel c' true b v := by
  induction h with
  | sc => intro v hv; rw [hv.sc_inv]; exact .sc
  | nils => intro v hv; obtain ⟨p, rfl⟩ := hv.nils_inv; exact .listNil
  | @agg cs cs' hl h ih =>
    intro v hv
    cases hv with
    | agg hvl h1 hr =>
      refine .agg (by rw [← hl]; exact hvl) h1 fun i b v hb hv => ?_
      have hlt : i < cs.length := by rw [hl]; exact (List.getElem?_eq_some_iff.1 hb).1
      have ha := List.getElem?_eq_getElem hlt
      exact ih i _ b ha hb (hr i _ v ha hv)
  | @tup cs cs' hl h ih =>
    intro v hv
    cases hv with
    | tup hvl hr =>
      refine .tup (by rw [← hl]; exact hvl) fun i b v hb hv => ?_
      have hlt : i < cs.length := by rw [hl]; exact (List.getElem?_eq_some_iff.1 hb).1
      have ha := List.getElem?_eq_getElem hlt
      exact ih i _ b ha hb (hr i _ v ha hv)
  | @listS own es hm =>
    intro v hv
    subst hm
    have hS : ∀ own b, c.S own b → c'.S own b := by
      intro own b hb
      cases own with
      | false => exact hsa b (Ctx.S_or hb)
      | true => rcases hb with ⟨h, _⟩ | hb
                · cases h
                · exact .inr (hso rfl b hb)
    have hh : ∀ own b, c.S own b → c'.w.heap[b]? = c.w.heap[b]? := fun _ _ _ => by rw [hw]
    cases hv with
    | listNil => exact .listNil
    | list vf hne hS' hn hcap hsz hc h1 hr => exact .list vf hne (hS _ _ hS') hn hcap hsz (fun i e k a he ha => by rw [hw]; exact hc i e k a he ha) h1 (fun i e k a he ha => (hr i e k a he ha).deep hS hh rfl)
  | @listD own es es' hm hl hc h ih =>
    intro v hv
    cases hv with
    | listNil =>
      have : es' = [] := List.eq_nil_of_length_eq_zero (by rw [← hl]; rfl)
      subst this; exact .listNil
    | @list _ _ _ _ _ _ esz _ vf hne hS' hn hcap hsz hcell h1 hr =>
      have hget : ∀ (i : Nat) e', es'[i]? = some e' → ∃ e, es[i]? = some e ∧ e.cells.length = e'.cells.length := by
        intro i e' he'
        have hlt : i < es.length := by rw [hl]; exact (List.getElem?_eq_some_iff.1 he').1
        exact ⟨_, List.getElem?_eq_getElem hlt, hc i _ e' (List.getElem?_eq_getElem hlt) he'⟩
      have hcellk : ∀ (i : Nat) e' (k : Nat) b, es'[i]? = some e' → e'.cells[k]? = some b → ∃ e a, es[i]? = some e ∧ e.cells[k]? = some a ∧ Cv m H a b := by
        intro i e' k b he' hb
        obtain ⟨e, he, hlen⟩ := hget i e' he'
        have hlt : k < e.cells.length := by rw [hlen]; exact (List.getElem?_eq_some_iff.1 hb).1
        exact ⟨e, _, he, List.getElem?_eq_getElem hlt, h i e e' k _ b he he' (List.getElem?_eq_getElem hlt) hb⟩
      refine .list (esz := esz) vf (fun h0 => hne (List.eq_nil_of_length_eq_zero (by rw [hl, h0]; rfl))) (hsa _ (Ctx.S_or hS')) (by rw [← hl]; exact hn) (by rw [← hl]; exact hcap) ?_ ?_ ?_ ?_
      · intro i e' he'
        obtain ⟨e, he, hlen⟩ := hget i e' he'
        rw [← hlen]; exact hsz i e he
      · intro i e' k b he' hb
        obtain ⟨e, a, he, ha, _⟩ := hcellk i e' k b he' hb
        rw [hw]; exact hcell i e k a he ha
      · intro i e' k b he' hb
        obtain ⟨e, a, he, ha, _⟩ := hcellk i e' k b he' hb
        exact h1 i e k a he ha
      · intro i e' k b he' hb
        obtain ⟨e, he, hlen⟩ := hget i e' he'
        have hlt : k < e.cells.length := by rw [hlen]; exact (List.getElem?_eq_some_iff.1 hb).1
        exact ih i e e' k _ b he he' (List.getElem?_eq_getElem hlt) hb (hr i e k _ he (List.getElem?_eq_getElem hlt)).shallow
  | @ref o off len x es' hH hle hl hc h ih =>
    intro v hv
    obtain ⟨rfl, hcapl⟩ := hv.ref_inv
    obtain ⟨hM, ⟨⟨cur, hb, hsz, hcc⟩, hf, hp, hs⟩, hok⟩ := hI.obj o x hH
    have hget : ∀ (i : Nat) e', es'[i]? = some e' → ∃ e, x.es[off + i]? = some e ∧ e.cells.length = e'.cells.length := by
      intro i e' he'
      have hlt : off + i < x.es.length := by have := (List.getElem?_eq_some_iff.1 he').1; omega
      exact ⟨_, List.getElem?_eq_getElem hlt, hc i _ e' (List.getElem?_eq_getElem hlt) he'⟩
    have hcellk : ∀ (i : Nat) e' (k : Nat) b, es'[i]? = some e' → e'.cells[k]? = some b → ∃ e a v, x.es[off + i]? = some e ∧ e.cells[k]? = some a ∧ cur[(off + i) * (c.ρ o).esz + k]? = some v ∧ VRel c false a v ∧ v.oneCell' = true := by
      intro i e' k b he' hb'
      obtain ⟨e, he, hlen⟩ := hget i e' he'
      have hlt : k < e.cells.length := by rw [hlen]; exact (List.getElem?_eq_some_iff.1 hb').1
      obtain ⟨v, h1, h2, h3⟩ := (hcc _ e he).2 k _ (List.getElem?_eq_getElem hlt)
      exact ⟨e, _, v, he, List.getElem?_eq_getElem hlt, h1, h2, h3⟩
    by_cases hne : es' = []
    · subst hne
      have : len = 0 := by simpa using hl.symm
      subst this
      exact .listNil
    · refine .list (esz := (c.ρ o).esz) (fun i k => (cur[(off + i) * (c.ρ o).esz + k]?).getD undef) hne (hob o x hH) hl.symm (by rw [hl]; omega) ?_ ?_ ?_ ?_
      · intro i e' he'
        obtain ⟨e, he, hlen⟩ := hget i e' he'
        rw [← hlen]; exact (hcc _ e he).1
      · intro i e' k b he' hb'
        obtain ⟨e, a, v, _, _, hv, _⟩ := hcellk i e' k b he' hb'
        rw [hw, cell_of_row _ _ _ _ _ _ hb, ← Nat.add_mul, hv]; rfl
      · intro i e' k b he' hb'
        obtain ⟨e, a, v, _, _, hv, _, h3⟩ := hcellk i e' k b he' hb'
        rw [hv]; exact h3
      · intro i e' k b he' hb'
        obtain ⟨e, a, v, he, ha, hv, hr, _⟩ := hcellk i e' k b he' hb'
        rw [hv]
        exact ih i e e' k a b he he' ha hb' hr

end Go.Av
