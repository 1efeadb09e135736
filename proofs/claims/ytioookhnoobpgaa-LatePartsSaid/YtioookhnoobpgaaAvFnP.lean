/- Pure functions. -/
import Derived.Test.YtioookhnoobpgaaAvFn
import Derived.Below
namespace Go.Av

def pl0 : Nat → Pl := fun _ => ⟨0, 0, 0, 0⟩

/-- Called with these values, wherever they lie, it returns this value, and turns nothing. -/
def Pure (P : Program) (f : Nat) (as : List AV) (r : AV) : Prop :=
  (∃ fn code, FnOk P f fn code) ∧
  ∀ (w : World) (S : Nat → Prop) (vs : Array Value), (∀ b, S b → b < w.heap.size) → VRels ⟨w, pl0, S, fun _ => False, w.heap.size⟩ true as vs →
    Calls P f vs w fun e w' => ∃ v, e = .returned v ∧ VRel ⟨w', pl0, S, fun b => w.heap.size ≤ b ∧ b < w'.heap.size, w.heap.size⟩ true r v ∧ RowKit.Below w.heap.size w w'

def pureQ (T : Ty) (fn : Func) (r : AV) : AExit → St → Prop
  | .exit _, _ => False
  | _, s => ∃ rs, ResRs T s fn.results.toList rs ∧ Cv true s.H (packA rs) r

inductive OwnO : AV → Prop
  | sc {v} : OwnO (.sc v)
  | nils : OwnO .nils
  | agg {cs} (h : ∀ a ∈ cs, OwnO a) : OwnO (.agg cs)
  | tup {cs} (h : ∀ a ∈ cs, OwnO a) : OwnO (.tup cs)
  | listNil {own} : OwnO (.list own [])
  | list {es} (h : ∀ e ∈ es, ∀ a ∈ e.cells, OwnO a) : OwnO (.list true es)

theorem VRel.ownO {c c' : Ctx} (hso : ∀ b, c.So b → c'.So b) (hh : ∀ b, c.So b → c'.w.heap[b]? = c.w.heap[b]?) {a : AV} (h : OwnO a) : ∀ {v : Value}, VRel c true a v → VRel c' true a v := by
  induction h with
  | sc => intro v hv; rw [hv.sc_inv]; exact .sc
  | nils => intro v hv; obtain ⟨p, rfl⟩ := hv.nils_inv; exact .nils
  | @agg cs h ih =>
    intro v hv
    cases hv with
    | agg hl h1 hr => exact .agg hl h1 fun i a v ha hv => ih a (List.mem_of_getElem? ha) (hr i a v ha hv)
  | @tup cs h ih =>
    intro v hv
    cases hv with
    | tup hl hr => exact .tup hl fun i a v ha hv => ih a (List.mem_of_getElem? ha) (hr i a v ha hv)
  | listNil => intro v hv; cases hv with
    | listNil => exact .listNil
    | list vf hne => exact absurd rfl hne
  | @list es h ih =>
    intro v hv
    cases hv with
    | listNil => exact .listNil
    | list vf hne hS hn hcap hsz hcell h1 hr =>
      have hS' := hS.resolve_left (fun h => by cases h.1)
      refine .list vf hne (.inr (hso _ hS')) hn hcap hsz (fun i e k a he ha => ?_) h1 (fun i e k a he ha => ih e (List.mem_of_getElem? he) a (List.mem_of_getElem? ha) (hr i e k a he ha))
      rw [World.cell?_of_block (hh _ hS')]; exact hcell i e k a he ha

section
variable {P : Program} {T : Ty}

theorem VRels.shallow {c : Ctx} {d : Bool} {as : List AV} {vs : Array Value} (h : VRels c d as vs) : VRels c false as vs := ⟨h.len, fun i a v ha hv => (h.rel i a v ha hv).shallow⟩

theorem Pure.of_body (hT : TyOk P T) {f : Nat} {fn : Func} {code : Code} (hfn : FnOk P f fn code) {as : List AV} {nt : Nat} {r : AV} (hnt : fn.ntmps = nt)
    (hle : as.length ≤ nt) (h : SemC P nt 0 code (pureQ T fn r) ⟨argA as, fun _ => none, 0⟩) : Pure P f as r := by
  refine ⟨⟨fn, code, hfn⟩, fun w S vs hS hv => ?_⟩
  refine calls_of_wp hfn.here hfn.body ?_
  let c : Ctx := ⟨w, pl0, S, fun _ => False, w.heap.size⟩
  have hI : Inv c (fun _ => none) (· < 0) :=
    ⟨fun o x h => (by cases h), fun o o' x x' h => (by cases h), fun o x h => (by cases h), fun b hb => hb.elim (hS b) False.elim, Nat.le_refl _, fun b hb => hb.elim, fun o x h => (by cases h)⟩
  have g : Good nt c (fun _ => none) 0 c ⟨argA as, fun _ => none, 0⟩ { tmps := vs ++ Array.replicate (fn.ntmps - vs.size) undef, defers := [] } := by
    refine ⟨hI, fun o x h => (by cases h), fun t => frame_args hv _ t, fun t => argA_ok (fun a ha => ?_) t, ?_, rfl, .refl c _ 0, Nat.le_refl _⟩
    · obtain ⟨i, hi⟩ := List.getElem?_of_mem ha
      have : i < vs.size := by rw [← hv.len]; exact (List.getElem?_eq_some_iff.1 hi).1
      exact (hv.rel i a _ hi (Array.getElem?_eq_getElem this)).okDeep
    · have := hv.len
      simp only [Array.size_append, Array.size_replicate]; omega
  refine Code.wp_mono ?_ (h c _ c _ g)
  have fin : ∀ (c' : Ctx) (s : St) (a : Act), Good nt c (fun _ => none) 0 c' s a → (∃ rs, ResRs T s fn.results.toList rs ∧ Cv true s.H (packA rs) r) →
      a.defers = [] ∧ ∃ v, (results fn a.tmps).run P c'.w = .ok v c'.w ∧ ∃ u, Ending.returned v = .returned u ∧ VRel ⟨c'.w, pl0, S, fun b => w.heap.size ≤ b ∧ b < c'.w.heap.size, w.heap.size⟩ true r u ∧ RowKit.Below w.heap.size w c'.w := by
    intro c' s a g' hq
    obtain ⟨rs, hrs, hk⟩ := hq
    obtain ⟨v, h1, h2, h3⟩ := res_ok hT g' hrs
    have hr := g'.reach
    have hB : c'.B = w.heap.size := hr.B
    refine ⟨g'.defers, v, h1, v, rfl, ?_, ⟨hr.os, hr.tape, hr.output, hr.size, fun k hk => hr.block k hk (fun o x hx => (by cases hx))⟩⟩
    refine cv_ok g'.inv (c' := ⟨c'.w, pl0, S, fun b => w.heap.size ≤ b ∧ b < c'.w.heap.size, w.heap.size⟩) rfl (fun b hb => ?_) (fun _ b hb => ?_) (fun o x hx => ?_) hk h2
    · rcases hb with hb | hb
      · exact .inl ⟨rfl, by rw [← hr.sa]; exact hb⟩
      · exact .inr ⟨by rw [← hB]; exact g'.inv.own b hb, g'.inv.lt b (.inr hb)⟩
    · exact ⟨by rw [← hB]; exact g'.inv.own b hb, g'.inv.lt b (.inr hb)⟩
    · obtain ⟨_, ⟨⟨cur, hcb, _⟩, _⟩, _⟩ := g'.inv.obj o x hx
      exact .inr ⟨by rw [← hB]; exact g'.inv.low o x hx, (Array.getElem?_eq_some_iff.1 hcb).1⟩
  rintro e a w ⟨c', s, ae, rfl, g', rfl, hq⟩
  cases ae with
  | exit id => exact hq.elim
  | normal => exact fin c' s a g' hq
  | ret => exact fin c' s a g' hq

structure Cvs (m : Bool) (H : Heap) (as bs : List AV) : Prop where
  len : as.length = bs.length
  rel : ∀ (i : Nat) a b, as[i]? = some a → bs[i]? = some b → Cv m H a b

/-- A pure function, called over a heap. -/
theorem HC.of_pure {f : Nat} {as bs : List AV} {H Hr : Heap} {n : Nat} {r : AV} (hp : Pure P f bs r) (hcv : Cvs false Hr as bs) (hsub : ∀ o x, Hr o = some x → H o = some x)
    (hr : OwnO r ∨ ∀ o, Hr o = none) : HC P f as H n (fun r' H' n' => r' = r ∧ H' = H ∧ n' = n) := by
  refine ⟨hp.1, fun c vs hI hs hv ho => ?_⟩
  let S : Nat → Prop := fun b => c.Sa b ∨ c.So b ∨ ∃ o x, Hr o = some x ∧ (c.ρ o).blk = b
  have hblk : ∀ o x, H o = some x → (c.ρ o).blk < c.w.heap.size := by
    intro o x hx
    obtain ⟨_, ⟨⟨cur, hcb, _⟩, _⟩, _⟩ := hI.obj o x hx
    exact (Array.getElem?_eq_some_iff.1 hcb).1
  have hS : ∀ b, S b → b < c.w.heap.size := by
    rintro b (hb | hb | ⟨o, x, hx, rfl⟩)
    · exact hI.lt b (.inl hb)
    · exact hI.lt b (.inr hb)
    · exact hblk o x (hsub o x hx)
  have hIr : Inv c Hr (· < n) :=
    hI.forget (fun o x hx => ⟨x, hsub o x hx, rfl, rfl, fun h => h⟩) (fun o o' x x' hx hx' hne hb => by
      have := hI.sep o o' x x' (hsub o x hx) (hsub o' x' hx') hne hb
      exact ⟨this.1, fun h => (this.2 h).1⟩)
  have hrel : VRels ⟨c.w, pl0, S, fun _ => False, c.w.heap.size⟩ true bs vs := by
    refine ⟨by rw [← hcv.len]; exact hv.len, fun i b v hb hvv => ?_⟩
    have hlt : i < as.length := by rw [hcv.len]; exact (List.getElem?_eq_some_iff.1 hb).1
    have ha := List.getElem?_eq_getElem hlt
    refine cv_ok hIr (c' := ⟨c.w, pl0, S, fun _ => False, c.w.heap.size⟩) rfl (fun b hb => ?_) (fun h => by cases h) (fun o x hx => ?_) (hcv.rel i _ b ha hb) (hv.rel i _ v ha hvv)
    · exact .inl ⟨rfl, hb.elim .inl (fun h => .inr (.inl h))⟩
    · exact .inl ⟨rfl, .inr (.inr ⟨o, x, hx, rfl⟩)⟩
  refine (hp.2 c.w S vs hS hrel).mono ?_
  rintro e w' ⟨v, rfl, hvr, hbel⟩
  let c' : Ctx := ⟨w', c.ρ, c.Sa, fun b => c.So b ∨ (c.w.heap.size ≤ b ∧ b < w'.heap.size), c.B⟩
  have hold : ∀ b, b < c.w.heap.size → w'.heap[b]? = c.w.heap[b]? := fun b hb => hbel.block b hb
  have hle : c.Le (· < n) c' := ⟨fun _ _ => rfl, fun b hb => hb, fun b hb => .inl hb, fun b hb => hold b (hI.lt b hb), rfl⟩
  have hI' : Inv c' H (· < n) := by
    refine ⟨fun o x hx => ?_, hI.sep, fun o x hx => ?_, fun b hb => ?_, Nat.le_trans hI.base hbel.size, fun b hb => ?_, hI.low⟩
    · obtain ⟨h1, ⟨⟨cur, hb, hss, hc⟩, h3, h4, h5⟩, h6⟩ := hI.obj o x hx
      refine ⟨h1, ⟨⟨cur, by show w'.heap[(c.ρ o).blk]? = _; rw [hold _ (hblk o x hx)]; exact hb, hss, ?_⟩, h3, h4, h5⟩, h6⟩
      intro i e he
      obtain ⟨g1, g2⟩ := hc i e he
      exact ⟨g1, fun k a ha => by obtain ⟨v, hv, hr, h7⟩ := g2 k a ha; exact ⟨v, hv, hr.mono hle (.inr (h6 e (List.mem_of_getElem? he) a (List.mem_of_getElem? ha))), h7⟩⟩
    · have h1 := hI.stab o x hx
      exact ⟨h1.1, fun h => h.elim h1.2 (fun h => by have := hblk o x hx; have h2 : c.w.heap.size ≤ (c.ρ o).blk := h.1; omega)⟩
    · rcases hb with hb | hb | hb
      · exact Nat.lt_of_lt_of_le (hI.lt b (.inl hb)) hbel.size
      · exact Nat.lt_of_lt_of_le (hI.lt b (.inr hb)) hbel.size
      · exact hb.2
    · rcases hb with hb | hb
      · exact hI.own b hb
      · exact Nat.le_trans hI.base hb.1
  refine ⟨v, r, H, n, c', ⟨rfl, rfl, rfl⟩, rfl, rfl, hle, rfl, fun b hb => hb.imp id (·.1), ⟨hbel.os, hbel.tape, hbel.output, hbel.size, fun b hb _ => hold b hb⟩, fun o x hx => .inr ⟨o, x, hx, rfl⟩, hI', hs, Nat.le_refl _, ?_, hvr.okDeep⟩
  rcases hr with hr | hr
  · exact (VRel.ownO (c := ⟨w', pl0, S, fun b => c.w.heap.size ≤ b ∧ b < w'.heap.size, c.w.heap.size⟩) (c' := c') (fun b hb => .inr hb) (fun b _ => rfl) hr hvr).shallow
  · refine (VRel.deep (c := ⟨w', pl0, S, fun b => c.w.heap.size ≤ b ∧ b < w'.heap.size, c.w.heap.size⟩) (c' := c') (fun own b hb => ?_) (fun own b _ => rfl) hvr rfl).shallow
    rcases hb with ⟨rfl, hb⟩ | hb
    · rcases hb with hb | hb | ⟨o, x, hx, _⟩
      · exact .inl ⟨rfl, hb⟩
      · exact .inr (.inl hb)
      · rw [hr o] at hx; cases hx
    · exact .inr (.inr hb)
end
end Go.Av
