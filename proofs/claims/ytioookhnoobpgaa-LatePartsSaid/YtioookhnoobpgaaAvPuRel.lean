/- The relation of the pure operations. -/
import Derived.Test.YtioookhnoobpgaaAvPu
namespace Go.Av

/-- A bound of a slice expression: the operand, what stands if it is none, the number. -/
inductive Bd (ev : Operand → AV) : Option Operand → Nat → Nat → Prop
  | dflt {d} : Bd ev none d d
  | given {x d k z} (h : ev x = .sc (.int k z)) (h0 : 0 ≤ z) : Bd ev (some x) d z.toNat

def lenA : AV → Option Nat
  | .list _ es => some es.length
  | .ref _ _ n => some n
  | .nils => some 0
  | .sc (.string s) => some s.size
  | _ => none

inductive Pu (T : Ty) (ev : Operand → AV) (H : Heap) : Op → AV → Prop
  | move {x} : Pu T ev H (.move x) (ev x)
  | assign {x} : Pu T ev H (.assign x) (ev x)
  | pick {c a b t v} (hc : ev c = .sc (.bool t)) (ha : t = true → ev a = v) (hb : t = false → ev b = v) : Pu T ev H (.pick c a b) v
  | pickB {c a b t x y} (hc : ev c = .sc (.bool t)) (ha : t = true → ev a = .sc (.bool x)) (hb : t = false → ev b = .sc (.bool y)) :
      Pu T ev H (.pick c a b) (.sc (.bool (bif t then x else y)))
  | load {t x ti e k a} (ht : T t = some ti) (hd : Deref H (ev x) e k) (hl : loadE ti e k = some a) : Pu T ev H (.load t x) a
  | nilCheckPtr {x o i k} (hx : ev x = .ptr o i k) : Pu T ev H (.nilCheck x) (ev x)
  | nilCheckElem {x own e k} (hx : ev x = .elem own e k) : Pu T ev H (.nilCheck x) (ev x)
  | nilCheckFn {x f caps} (hx : ev x = .fn f caps) : Pu T ev H (.nilCheck x) (ev x)
  | binInt {op t x y yt k a b v} (hx : ev x = .sc (.int k a)) (hy : ev y = .sc (.int k b)) (h : intBin op k a b = some v) : Pu T ev H (.binOp op t x y yt) (.sc v)
  | quo {t x y yt k a b} (hx : ev x = .sc (.int k a)) (hy : ev y = .sc (.int k b)) (h : b ≠ 0) : Pu T ev H (.binOp .quo t x y yt) (.sc (.int k (k.wrap (a.tdiv b))))
  | rem {t x y yt k a b} (hx : ev x = .sc (.int k a)) (hy : ev y = .sc (.int k b)) (h : b ≠ 0) : Pu T ev H (.binOp .rem t x y yt) (.sc (.int k (a.tmod b)))
  | shl {t x y yt k k' a b} (hx : ev x = .sc (.int k a)) (hy : ev y = .sc (.int k' b)) (h : 0 ≤ b) :
      Pu T ev H (.binOp .shl t x y yt) (.sc (.int k (k.wrap (a * 2 ^ (min b.toNat k.bits)))))
  | shr {t x y yt k k' a b} (hx : ev x = .sc (.int k a)) (hy : ev y = .sc (.int k' b)) (h : 0 ≤ b) :
      Pu T ev H (.binOp .shr t x y yt) (.sc (.int k (a.fdiv (2 ^ (min b.toNat k.bits)))))
  | binStr {op t x y yt a b v} (hx : ev x = .sc (.string a)) (hy : ev y = .sc (.string b)) (h : strBin op a b = some v) : Pu T ev H (.binOp op t x y yt) (.sc v)
  | boolEq {t x y yt a b ti} (hx : ev x = .sc (.bool a)) (hy : ev y = .sc (.bool b)) (ht : T t = some ti) (hk : ti.kind = .bool) :
      Pu T ev H (.binOp .eql t x y yt) (.sc (.bool (a == b)))
  | boolNe {t x y yt a b ti} (hx : ev x = .sc (.bool a)) (hy : ev y = .sc (.bool b)) (ht : T t = some ti) (hk : ti.kind = .bool) :
      Pu T ev H (.binOp .neq t x y yt) (.sc (.bool (!(a == b))))
  | aggEq {t x y yt xs ys r ti} (hx : ev x = .agg xs) (hy : ev y = .agg ys) (ht : T t = some ti) (hok : ti.eqok = true) (h : eqT T 10000 t (.agg xs) (.agg ys) = some r) :
      Pu T ev H (.binOp .eql t x y yt) (.sc (.bool r))
  | aggNe {t x y yt xs ys r ti} (hx : ev x = .agg xs) (hy : ev y = .agg ys) (ht : T t = some ti) (hok : ti.eqok = true) (h : eqT T 10000 t (.agg xs) (.agg ys) = some r) :
      Pu T ev H (.binOp .neq t x y yt) (.sc (.bool (!r)))
  | neg {t x k n} (hx : ev x = .sc (.int k n)) : Pu T ev H (.unOp .neg t x) (.sc (.int k (k.wrap (0 - n))))
  | not {t x b} (hx : ev x = .sc (.bool b)) : Pu T ev H (.unOp .not t x) (.sc (.bool (!b)))
  | conv {src dst x k n k' ts td} (hx : ev x = .sc (.int k n)) (hs : T src = some ts) (hd : T dst = some td) (hk : td.kind = .int k') :
      Pu T ev H (.convert src dst x) (.sc (.int k' (k'.wrap n)))
  | convStr {src dst x s ts td} (hx : ev x = .sc (.string s)) (hs : T src = some ts) (hd : T dst = some td) (hk : td.kind = .string) :
      Pu T ev H (.convert src dst x) (.sc (.string s))
  | fieldAddrPtr {s x f o i k fs off ft ti tf} (hx : ev x = .ptr o i k) (hs : T s = some ti) (hk : ti.kind = .struct fs) (hf : fs[f]? = some (off, ft))
      (ht : T ft = some tf) (hz : tf.size ≠ 0) : Pu T ev H (.fieldAddr s x f) (.ptr o i (k + off))
  | fieldAddrElem {s x f own e k fs off ft ti tf} (hx : ev x = .elem own e k) (hs : T s = some ti) (hk : ti.kind = .struct fs) (hf : fs[f]? = some (off, ft))
      (ht : T ft = some tf) (hz : tf.size ≠ 0) : Pu T ev H (.fieldAddr s x f) (.elem own e (k + off))
  | field {s x f cs fs off ft ti tf a} (hx : ev x = .agg cs) (hs : T s = some ti) (hk : ti.kind = .struct fs) (hf : fs[f]? = some (off, ft))
      (ht : T ft = some tf) (h : eqT.partA tf cs off = some a) : Pu T ev H (.field s x f) a
  | indexList {t x ix own es k i ti et te e} (hx : ev x = .list own es) (hi : ev ix = .sc (.int k i)) (h0 : 0 ≤ i) (ht : T t = some ti) (hk : ti.kind = .slice et)
      (hte : T et = some te) (he : es[i.toNat]? = some e) (hsz : e.cells.length = te.size) : Pu T ev H (.indexAddr t x ix) (.elem own e 0)
  | indexRef {t x ix o off len k i ti et te y e} (hx : ev x = .ref o off len) (hi : ev ix = .sc (.int k i)) (h0 : 0 ≤ i) (hlt : i < len) (ht : T t = some ti)
      (hk : ti.kind = .slice et) (hte : T et = some te) (hH : H o = some y) (he : y.es[off + i.toNat]? = some e) (hsz : e.cells.length = te.size) :
      Pu T ev H (.indexAddr t x ix) (.ptr o (off + i.toNat) 0)
  | indexArr {t x ix o j q k i ti} {n : Nat} {et te} (hx : ev x = .ptr o j q) (hi : ev ix = .sc (.int k i)) (h0 : 0 ≤ i) (hlt : i < n) (ht : T t = some ti)
      (hk : ti.kind = .array n et) (hte : T et = some te) : Pu T ev H (.indexAddr t x ix) (.ptr o j (q + i.toNat * te.size))
  | indexArrElem {t x ix own e q k i ti} {n : Nat} {et te} (hx : ev x = .elem own e q) (hi : ev ix = .sc (.int k i)) (h0 : 0 ≤ i) (hlt : i < n) (ht : T t = some ti)
      (hk : ti.kind = .array n et) (hte : T et = some te) : Pu T ev H (.indexAddr t x ix) (.elem own e (q + i.toNat * te.size))
  | indexAgg {t x ix cs k i ti} {n : Nat} {et te a} (hx : ev x = .agg cs) (hi : ev ix = .sc (.int k i)) (h0 : 0 ≤ i) (hlt : i < n) (ht : T t = some ti)
      (hk : ti.kind = .array n et) (hte : T et = some te) (h : eqT.partA te cs (i.toNat * te.size) = some a) : Pu T ev H (.index t x ix) a
  | indexStr {t x ix s k i ti b} (hx : ev x = .sc (.string s)) (hi : ev ix = .sc (.int k i)) (h0 : 0 ≤ i) (ht : T t = some ti)
      (hk : ti.kind = .string) (h : s[i.toNat]? = some b) : Pu T ev H (.index t x ix) (.sc (.int .u8 b.toNat))
  | sliceList {t x lo hi own es l h ti et te} (hx : ev x = .list own es) (hl : Bd ev lo 0 l) (hh : Bd ev hi es.length h) (hlh : l ≤ h) (hle : h ≤ es.length)
      (ht : T t = some ti) (hk : ti.kind = .slice et) (hte : T et = some te) (hsz : ∀ e ∈ es, e.cells.length = te.size) :
      Pu T ev H (.slice t x lo hi none) (.list own ((es.drop l).take (h - l)))
  | sliceRef {t x lo hi o off len l h ti et te y} (hx : ev x = .ref o off len) (hl : Bd ev lo 0 l) (hh : Bd ev hi len h) (hlh : l < h) (hle : h ≤ len)
      (ht : T t = some ti) (hk : ti.kind = .slice et) (hte : T et = some te) (hH : H o = some y) (hsz : ∃ e ∈ y.es, e.cells.length = te.size) :
      Pu T ev H (.slice t x lo hi none) (.ref o (off + l) (h - l))
  | sliceRef0 {t x lo hi o off len l ti et te} (hx : ev x = .ref o off len) (hl : Bd ev lo 0 l) (hh : Bd ev hi len l) (hle : l ≤ len)
      (ht : T t = some ti) (hk : ti.kind = .slice et) (hte : T et = some te) : Pu T ev H (.slice t x lo hi none) (.list true [])
  | sliceNils {t x lo hi ti et te} (hx : ev x = .nils) (hl : Bd ev lo 0 0) (hh : Bd ev hi 0 0)
      (ht : T t = some ti) (hk : ti.kind = .slice et) (hte : T et = some te) : Pu T ev H (.slice t x lo hi none) .nils
  | sliceClone {t x hi mx ti et te n} (hx : lenA (ev x) = some n) (hx' : ∀ s, ev x ≠ .sc (.string s)) (hh : Bd ev (some hi) 0 0) (hm : Bd ev (some mx) 0 0)
      (ht : T t = some ti) (hk : ti.kind = .slice et) (hte : T et = some te) : Pu T ev H (.slice t x none (some hi) (some mx)) .nils
  | sliceStr {t x lo hi s l h ti} (hx : ev x = .sc (.string s)) (hl : Bd ev lo 0 l) (hh : Bd ev hi s.size h) (hlh : l ≤ h) (hle : h ≤ s.size)
      (ht : T t = some ti) (hk : ti.kind = .string) : Pu T ev H (.slice t x lo hi none) (.sc (.string (s.extract l h)))
  | extract {x i cs a} (hx : ev x = .tup cs) (h : cs[i]? = some a) : Pu T ev H (.extract x i) a
  | makeFunc {f caps} : Pu T ev H (.makeFunc (.func f) #[] caps) (.fn f (caps.toList.map ev))
  | lenSlice {x t ti et n} (h : lenA (ev x) = some n) (ht : T t = some ti) (hk : ti.kind = .slice et) (hs : ∀ s, ev x ≠ .sc (.string s)) :
      Pu T ev H (.call { callee := .builtin .len, args := #[x], argTypes := #[t] }) (.sc (.int .i64 n))
  | lenStr {x t ti s} (h : ev x = .sc (.string s)) (ht : T t = some ti) (hk : ti.kind = .string) :
      Pu T ev H (.call { callee := .builtin .len, args := #[x], argTypes := #[t] }) (.sc (.int .i64 s.size))
  | lenArr {x t ti n et} (ht : T t = some ti) (hk : ti.kind = .array n et) :
      Pu T ev H (.call { callee := .builtin .len, args := #[x], argTypes := #[t] }) (.sc (.int .i64 n))
  | min2 {x y ts k a b} (hx : ev x = .sc (.int k a)) (hy : ev y = .sc (.int k b)) :
      Pu T ev H (.call { callee := .builtin .min, args := #[x, y], argTypes := ts }) (.sc (.int k (if b < a then b else a)))
  | max2 {x y ts k a b} (hx : ev x = .sc (.int k a)) (hy : ev y = .sc (.int k b)) :
      Pu T ev H (.call { callee := .builtin .max, args := #[x, y], argTypes := ts }) (.sc (.int k (if b > a then b else a)))
  | buildS {t ps ti fs cs r} (ht : T t = some ti) (hk : ti.kind = .struct fs) (hz : ofConst ti.zero = .agg cs)
      (hfs : ∀ p ∈ fs, ∃ tf, T p.2 = some tf)
      (h : fillA (fun i => (fs[i]?).map fun p => (p.1, ((T p.2).map (·.size)).getD 0)) cs (ps.toList.map fun p => (p.1, ev p.2)) = some r) :
      Pu T ev H (.build t ps) (.agg r)
  | buildA {t ps ti n et te cs r} (ht : T t = some ti) (hk : ti.kind = .array n et) (hz : ofConst ti.zero = .agg cs) (hte : T et = some te)
      (h : fillA (fun i => some (i * te.size, te.size)) cs (ps.toList.map fun p => (p.1, ev p.2)) = some r) : Pu T ev H (.build t ps) (.agg r)

theorem VRel.sc_inv {c : Ctx} {d : Bool} {v u : Value} (h : VRel c d (.sc v) u) : u = v := by cases h; rfl
theorem VRel.nils_inv {c : Ctx} {d : Bool} {u : Value} (h : VRel c d .nils u) : ∃ p, u = .slice p 0 0 := by cases h; exact ⟨_, rfl⟩
theorem VRel.ref_inv {c : Ctx} {d : Bool} {o off len : Nat} {u : Value} (h : VRel c d (.ref o off len) u) :
    u = .slice (some ⟨(c.ρ o).blk, off * (c.ρ o).esz, none⟩) len ((c.ρ o).cap - off) ∧ off + len ≤ (c.ρ o).cap := by cases h; exact ⟨rfl, by assumption⟩
theorem VRel.ptr_inv {c : Ctx} {d : Bool} {o i k : Nat} {u : Value} (h : VRel c d (.ptr o i k) u) :
    u = .pointer (some ⟨(c.ρ o).blk, i * (c.ρ o).esz + k, none⟩) := by cases h; rfl
theorem VRel.elem_inv {c : Ctx} {d own : Bool} {e : AV} {k : Nat} {u : Value} (h : VRel c d (.elem own e k) u) :
    ∃ b off, u = .pointer (some ⟨b, off + k, none⟩) ∧ ∀ k', VRel c false (.elem own e k') (.pointer (some ⟨b, off + k', none⟩)) := by
  cases h with | elem vf hS hcell h1 h => exact ⟨_, _, rfl, fun k' => .elem vf hS hcell h1 h⟩
theorem VRel.agg_inv {c : Ctx} {d : Bool} {cs : List AV} {u : Value} (h : VRel c d (.agg cs) u) : ∃ vs, u = .agg vs := by cases h; exact ⟨_, rfl⟩
theorem VRel.tup_inv {c : Ctx} {d : Bool} {cs : List AV} {u : Value} (h : VRel c d (.tup cs) u) :
    ∃ vs, u = .tuple vs ∧ cs.length = vs.size ∧ ∀ (i : Nat) a v, cs[i]? = some a → vs[i]? = some v → VRel c false a v := by cases h with | tup hl h => exact ⟨_, rfl, hl, fun i a v ha hv => (h i a v ha hv).shallow⟩
theorem VRel.fn_inv {c : Ctx} {d : Bool} {f : Nat} {caps : List AV} {u : Value} (h : VRel c d (.fn f caps) u) :
    ∃ vs, u = .func (.func f) #[] vs ∧ caps.length = vs.size ∧ ∀ (i : Nat) a v, caps[i]? = some a → vs[i]? = some v → VRel c false a v := by
  cases h with | fn hl h => exact ⟨_, rfl, hl, h⟩
theorem VRel.list_inv {c : Ctx} {d own : Bool} {es : List AV} {u : Value} (h : VRel c d (.list own es) u) :
    ∃ p cap, u = .slice p es.length cap ∧ (es = [] ∨ (es.length ≤ cap ∧ ∃ b off esz, p = some ⟨b, off, none⟩ ∧ c.S own b ∧ (∀ (i : Nat) e, es[i]? = some e → e.cells.length = esz) ∧
      ∃ vf : Nat → Nat → Value, ∀ (i : Nat) e (k : Nat) a, es[i]? = some e → e.cells[k]? = some a →
        c.w.cell? ⟨b, off + i * esz + k, none⟩ = some (vf i k) ∧ (vf i k).oneCell' = true ∧ VRel c true a (vf i k))) := by
  cases h with
  | listNil => exact ⟨_, _, rfl, .inl rfl⟩
  | list vf hne hS hn hcap hsz hcell h1 h =>
    subst hn
    exact ⟨_, _, rfl, .inr ⟨hcap, _, _, _, rfl, hS, hsz, vf, fun i e k a he ha => ⟨hcell i e k a he ha, h1 i e k a he ha, h i e k a he ha⟩⟩⟩
theorem VRel.len_inv {c : Ctx} {d : Bool} {a : AV} {n : Nat} {u : Value} (h : VRel c d a u) (hl : lenA a = some n) (hs : ∀ s, a ≠ .sc (.string s)) :
    ∃ p cap, u = .slice p n cap := by
  cases a with
  | list own es => obtain ⟨p, cap, rfl, _⟩ := h.list_inv; simp [lenA] at hl; subst hl; exact ⟨_, _, rfl⟩
  | ref o off len => obtain ⟨rfl, _⟩ := h.ref_inv; simp [lenA] at hl; subst hl; exact ⟨_, _, rfl⟩
  | nils => obtain ⟨p, rfl⟩ := h.nils_inv; simp [lenA] at hl; subst hl; exact ⟨_, _, rfl⟩
  | sc v => cases v <;> simp [lenA] at hl; exact absurd rfl (hs _)
  | _ => simp [lenA] at hl

theorem Bd.run {ev : Operand → AV} {σ : Operand → Value} {c : Ctx} (hE : ∀ x, VRel c false (ev x) (σ x)) {o : Option Operand} {d n : Nat} (h : Bd ev o d n) :
    (o = none ∧ n = d) ∨ ∃ x k, ∃ z : Int, o = some x ∧ σ x = .int k z ∧ 0 ≤ z ∧ n = z.toNat := by
  cases h with
  | dflt => exact .inl ⟨rfl, rfl⟩
  | @given x d k z h h0 =>
    have := hE x
    rw [h] at this
    exact .inr ⟨x, k, z, rfl, this.sc_inv, h0, rfl⟩

end Go.Av
