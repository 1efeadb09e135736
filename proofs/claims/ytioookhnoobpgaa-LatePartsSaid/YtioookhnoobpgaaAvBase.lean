/- Abstract values, and how they are represented in a world of the model. -/
import Derived.Calls
import Derived.Orders
import Derived.RowKit3
import Derived.Laws.AppendOwn
namespace Go.Av


inductive AV where
  | junk
  | sc (v : Value)
  | nils
  | agg (cs : List AV)
  | tup (cs : List AV)
  | list (own : Bool) (es : List AV)
  | ref (o off len : Nat)
  | ptr (o i k : Nat)
  | elem (own : Bool) (e : AV) (k : Nat)
  | fn (f : Nat) (caps : List AV)
  | mref (o : Nat)
  | cond (b : Bool) (v : AV)
  deriving Inhabited

def AV.cells : AV → List AV
  | .agg cs => cs
  | x => [x]

/-- A value that takes one cell. -/
def AV.leaf : AV → Bool
  | .sc v => v.oneCell'
  | .nils | .list .. | .ref .. | .ptr .. | .elem .. | .fn .. | .mref _ => true
  | .junk | .agg _ | .tup _ | .cond .. => false

/-- A value that may be stored, and its cells. -/
def AV.whole : AV → Bool
  | .agg _ => true
  | a => a.leaf
def ofCell : Value → AV
  | .slice none 0 0 => .nils
  | v => .sc v
def ofConst : Value → AV
  | .agg vs => if vs.all (·.oneCell') then .agg (vs.toList.map ofCell) else .sc (.agg vs)
  | v => ofCell v

mutual
def AV.okB (M : Nat → Bool) : AV → Bool
  | .agg cs | .tup cs => AV.oksB M cs
  | .ref o _ _ | .ptr o _ _ | .mref o => M o
  | .fn _ caps => AV.oksB M caps
  | .cond _ v => AV.okB M v
  | .junk | .sc _ | .nils | .list .. | .elem .. => true
def AV.oksB (M : Nat → Bool) : List AV → Bool
  | [] => true
  | a :: r => AV.okB M a && AV.oksB M r
end

/-- The ids that are mentioned satisfy M. -/
inductive AV.Ok (M : Nat → Prop) : AV → Prop
  | junk : Ok M .junk
  | sc {v} : Ok M (.sc v)
  | nils : Ok M .nils
  | agg {cs} (h : ∀ a ∈ cs, Ok M a) : Ok M (.agg cs)
  | tup {cs} (h : ∀ a ∈ cs, Ok M a) : Ok M (.tup cs)
  | list {own es} : Ok M (.list own es)
  | ref {o off len} (h : M o) : Ok M (.ref o off len)
  | ptr {o i k} (h : M o) : Ok M (.ptr o i k)
  | elem {own e k} : Ok M (.elem own e k)
  | fn {f caps} (h : ∀ a ∈ caps, Ok M a) : Ok M (.fn f caps)
  | mref {o} (h : M o) : Ok M (.mref o)
  | cond {b v} (h : Ok M v) : Ok M (.cond b v)

theorem AV.Ok.mono {M M' : Nat → Prop} (hm : ∀ o, M o → M' o) {a : AV} (h : a.Ok M) : a.Ok M' := by
  induction h with
  | junk => exact .junk
  | sc => exact .sc
  | nils => exact .nils
  | agg _ ih => exact .agg ih
  | tup _ ih => exact .tup ih
  | list => exact .list
  | ref h => exact .ref (hm _ h)
  | ptr h => exact .ptr (hm _ h)
  | elem => exact .elem
  | fn _ ih => exact .fn ih
  | mref h => exact .mref (hm _ h)
  | cond _ ih => exact .cond ih

structure Pl where
  blk : Nat
  cap : Nat
  esz : Nat
  ety : TypeId

structure Ctx where
  w : World
  ρ : Nat → Pl
  Sa : Nat → Prop
  So : Nat → Prop
  B : Nat

def Ctx.S (c : Ctx) (own : Bool) (b : Nat) : Prop := (own = false ∧ c.Sa b) ∨ c.So b

inductive VRel (c : Ctx) : Bool → AV → Value → Prop
  | junk {v} : VRel c false .junk v
  | sc {d v} : VRel c d (.sc v) v
  | nils {d p} : VRel c d .nils (.slice p 0 0)
  | agg {d} {cs : List AV} {vs : Array Value} (hl : cs.length = vs.size) (h1 : ∀ v ∈ vs, v.oneCell' = true)
      (h : ∀ (i : Nat) a v, cs[i]? = some a → vs[i]? = some v → VRel c d a v) : VRel c d (.agg cs) (.agg vs)
  | tup {d} {cs : List AV} {vs : Array Value} (hl : cs.length = vs.size)
      (h : ∀ (i : Nat) a v, cs[i]? = some a → vs[i]? = some v → VRel c d a v) : VRel c d (.tup cs) (.tuple vs)
  | listNil {d own p cap} : VRel c d (.list own []) (.slice p 0 cap)
  | list {d own} {es : List AV} {b off cap esz n : Nat} (vf : Nat → Nat → Value) (hne : es ≠ []) (hS : c.S own b) (hn : n = es.length) (hcap : es.length ≤ cap)
      (hsz : ∀ (i : Nat) e, es[i]? = some e → e.cells.length = esz)
      (hcell : ∀ (i : Nat) e (k : Nat) a, es[i]? = some e → e.cells[k]? = some a → c.w.cell? ⟨b, off + i * esz + k, none⟩ = some (vf i k))
      (h1 : ∀ (i : Nat) e (k : Nat) a, es[i]? = some e → e.cells[k]? = some a → (vf i k).oneCell' = true)
      (h : ∀ (i : Nat) e (k : Nat) a, es[i]? = some e → e.cells[k]? = some a → VRel c true a (vf i k)) : VRel c d (.list own es) (.slice (some ⟨b, off, none⟩) n cap)
  | ref {o off len} (hle : off + len ≤ (c.ρ o).cap) :
      VRel c false (.ref o off len) (.slice (some ⟨(c.ρ o).blk, off * (c.ρ o).esz, none⟩) len ((c.ρ o).cap - off))
  | ptr {o i k} : VRel c false (.ptr o i k) (.pointer (some ⟨(c.ρ o).blk, i * (c.ρ o).esz + k, none⟩))
  | elem {own} {e : AV} {k b off : Nat} (vf : Nat → Value) (hS : c.S own b)
      (hcell : ∀ (k' : Nat) a, e.cells[k']? = some a → c.w.cell? ⟨b, off + k', none⟩ = some (vf k'))
      (h1 : ∀ (k' : Nat) a, e.cells[k']? = some a → (vf k').oneCell' = true)
      (h : ∀ (k' : Nat) a, e.cells[k']? = some a → VRel c true a (vf k')) : VRel c false (.elem own e k) (.pointer (some ⟨b, off + k, none⟩))
  | fn {f : Nat} {caps : List AV} {vs : Array Value} (hl : caps.length = vs.size)
      (h : ∀ (i : Nat) a v, caps[i]? = some a → vs[i]? = some v → VRel c false a v) : VRel c false (.fn f caps) (.func (.func f) #[] vs)
  | cond {b a v} (h : b = true → VRel c false a v) (hn : b = false → v = undef) : VRel c false (.cond b a) v

/-- A later context: what M names lies where it lay; what was to be read is there as it was. -/
structure Ctx.Le (M : Nat → Prop) (c c' : Ctx) : Prop where
  rho : ∀ o, M o → c'.ρ o = c.ρ o
  sa : ∀ b, c.Sa b → c'.Sa b
  so : ∀ b, c.So b → c'.So b
  heap : ∀ b, c.Sa b ∨ c.So b → c'.w.heap[b]? = c.w.heap[b]?
  B : c'.B = c.B

theorem Ctx.Le.refl {M : Nat → Prop} (c : Ctx) : c.Le M c := ⟨fun _ _ => rfl, fun _ h => h, fun _ h => h, fun _ _ => rfl, rfl⟩
theorem Ctx.Le.trans {M : Nat → Prop} {c c' c'' : Ctx} (h : c.Le M c') (k : c'.Le M c'') : c.Le M c'' :=
  ⟨fun o ho => (k.rho o ho).trans (h.rho o ho), fun b hb => k.sa b (h.sa b hb), fun b hb => k.so b (h.so b hb),
   fun b hb => (k.heap b (hb.imp (h.sa b) (h.so b))).trans (h.heap b hb), k.B.trans h.B⟩
theorem Ctx.Le.weaken {M M' : Nat → Prop} {c c' : Ctx} (h : c.Le M c') (hm : ∀ o, M' o → M o) : c.Le M' c' :=
  ⟨fun o ho => h.rho o (hm o ho), h.sa, h.so, h.heap, h.B⟩
theorem Ctx.Le.S {M : Nat → Prop} {c c' : Ctx} (h : c.Le M c') {own : Bool} {b : Nat} (hs : c.S own b) : c'.S own b :=
  hs.imp (fun x => ⟨x.1, h.sa b x.2⟩) (h.so b)
theorem Ctx.S_or {c : Ctx} {own : Bool} {b : Nat} (hs : c.S own b) : c.Sa b ∨ c.So b := hs.imp (·.2) id
theorem Ctx.Le.cell {M : Nat → Prop} {c c' : Ctx} (h : c.Le M c') {own : Bool} {b off : Nat} {v : Value} (hs : c.S own b)
    (hv : c.w.cell? ⟨b, off, none⟩ = some v) : c'.w.cell? ⟨b, off, none⟩ = some v := by
  rw [World.cell?_of_block (a := ⟨b, off, none⟩) (h.heap b (Ctx.S_or hs))]; exact hv

theorem VRel.mono {M : Nat → Prop} {c c' : Ctx} (hle : c.Le M c') {d : Bool} {a : AV} {v : Value} (h : VRel c d a v) (hok : d = true ∨ a.Ok M) : VRel c' d a v := by
  induction h with
  | junk => exact .junk
  | sc => exact .sc
  | nils => exact .nils
  | @agg d cs vs hl h1 h ih =>
    refine .agg hl h1 fun i a v ha hv => ih i a v ha hv ?_
    rcases hok with hd | hk
    · exact .inl hd
    · cases hk with | agg hk => exact .inr (hk a (List.mem_of_getElem? ha))
  | @tup d cs vs hl h ih =>
    refine .tup hl fun i a v ha hv => ih i a v ha hv ?_
    rcases hok with hd | hk
    · exact .inl hd
    · cases hk with | tup hk => exact .inr (hk a (List.mem_of_getElem? ha))
  | listNil => exact .listNil
  | list vf hne hS hn hcap hsz hcell h1 h ih =>
    exact .list vf hne (hle.S hS) hn hcap hsz (fun i e k a he ha => hle.cell hS (hcell i e k a he ha)) h1 (fun i e k a he ha => ih i e k a he ha (.inl rfl))
  | @ref o off len hle' =>
    rcases hok with hd | hk
    · cases hd
    · cases hk with
      | ref hk => rw [← hle.rho o hk] at hle' ⊢; exact .ref hle'
  | @ptr o i k =>
    rcases hok with hd | hk
    · cases hd
    · cases hk with
      | ptr hk => rw [← hle.rho o hk]; exact .ptr
  | elem vf hS hcell h1 h ih =>
    exact .elem vf (hle.S hS) (fun k a ha => hle.cell hS (hcell k a ha)) h1 (fun k a ha => ih k a ha (.inl rfl))
  | @fn f caps vs hl h ih =>
    refine .fn hl fun i a v ha hv => ih i a v ha hv ?_
    rcases hok with hd | hk
    · exact .inl hd
    · cases hk with | fn hk => exact .inr (hk a (List.mem_of_getElem? ha))
  | @cond b a v h hn ih =>
    refine .cond (fun hb => ih hb ?_) hn
    rcases hok with hd | hk
    · exact .inl hd
    · cases hk with | cond hk => exact .inr hk

theorem VRel.oneCell {c : Ctx} {d : Bool} {a : AV} {v : Value} (h : VRel c d a v) (hl : a.leaf = true) : v.oneCell' = true := by
  cases h <;> first | rfl | exact hl | (simp [AV.leaf] at hl; done)

/-! Objects -/
structure Obj where
  es : List AV
  esz : Nat
  spent : Bool := false
  solo : Bool := true
  deriving Inhabited

abbrev Heap := Nat → Option Obj

structure ObjRel (c : Ctx) (p : Pl) (x : Obj) : Prop where
  row : ∃ cur : Array Value, c.w.heap[p.blk]? = some (.cells cur p.ety (0, 0)) ∧ cur.size = p.cap * p.esz ∧
    ∀ (i : Nat) e, x.es[i]? = some e → e.cells.length = p.esz ∧ ∀ (k : Nat) a, e.cells[k]? = some a → ∃ v, cur[i * p.esz + k]? = some v ∧ VRel c false a v ∧ v.oneCell' = true
  fits : x.es.length ≤ p.cap
  pos : 0 < p.esz
  same : x.esz = p.esz

structure Inv (c : Ctx) (H : Heap) (M : Nat → Prop) : Prop where
  obj : ∀ o x, H o = some x → M o ∧ ObjRel c (c.ρ o) x ∧ ∀ e ∈ x.es, ∀ a ∈ e.cells, a.Ok M
  sep : ∀ o o' x x', H o = some x → H o' = some x' → o ≠ o' → (c.ρ o).blk = (c.ρ o').blk → x.solo = false ∧ (x.spent = false → x'.spent = true ∧ x'.es.length * x'.esz ≤ x.es.length * x.esz)
  stab : ∀ o x, H o = some x → ¬ c.Sa (c.ρ o).blk ∧ ¬ c.So (c.ρ o).blk
  lt : ∀ b, c.Sa b ∨ c.So b → b < c.w.heap.size
  base : c.B ≤ c.w.heap.size
  own : ∀ b, c.So b → c.B ≤ b
  low : ∀ o x, H o = some x → c.B ≤ (c.ρ o).blk

/-- What a piece of code may turn: the blocks of its objects, and new ones. -/
structure Fr (c : Ctx) (H : Heap) (w' : World) : Prop where
  os : w'.os = c.w.os
  tape : w'.tape = c.w.tape
  output : w'.output = c.w.output
  size : c.w.heap.size ≤ w'.heap.size
  block : ∀ b, b < c.w.heap.size → (∀ o x, H o = some x → (c.ρ o).blk ≠ b) → w'.heap[b]? = c.w.heap[b]?

/-- Each object lies in a new block, or in the block of an old object. -/
def OwnRel (c : Ctx) (H : Heap) (c' : Ctx) (H' : Heap) : Prop :=
  ∀ q x, H' q = some x → c.w.heap.size ≤ (c'.ρ q).blk ∨ ∃ q' x', H q' = some x' ∧ (c.ρ q').blk = (c'.ρ q).blk

end Go.Av
