/- The relation of the operations that make memory. -/
import Derived.Test.YtioookhnoobpgaaAvApp
namespace Go.Av

inductive Eff where
  | none
  | new (x : Obj)
  | app (old : Nat) (x : Obj)

def Obj.mark (y : Obj) : Obj := { y with spent := true, solo := false }

def Eff.apply (id : Nat) (H : Heap) : Eff → Heap
  | .none => H
  | .new x => upd H id (some x)
  | .app old x => upd (upd H old ((H old).map Obj.mark)) id (some { x with solo := false })

def setParts (size : Nat) : List AV → List (Nat × AV) → Option (List AV)
  | es, [] => some es
  | es, (i, v) :: r => if decide (i < es.length) && v.whole && v.cells.length == size then setParts size (es.set i v) r else none

inductive Mk (T : Ty) (ev : Operand → AV) (H : Heap) (id : Nat) : Op → AV → Eff → Prop
  | box {elem x} (hw : (ev x).whole = true) (hp : (ev x).cells ≠ []) : Mk T ev H id (.box elem x) (.ptr id 0 0) (.new { es := [ev x], esz := (ev x).cells.length })
  | alloc {elem ti} (ht : T elem = some ti) (hp : ti.size ≠ 0) : Mk T ev H id (.alloc elem) (.ptr id 0 0) (.new { es := [ofConst ti.zero], esz := ti.size })
  | slice0 {t ti et te} (ht : T t = some ti) (hk : ti.kind = .slice et) (hte : T et = some te) : Mk T ev H id (.buildSlice t 0 #[]) .nils .none
  | buildSlice {t len ps ti et te es} (ht : T t = some ti) (hk : ti.kind = .slice et) (hte : T et = some te) (hlen : len ≠ 0) (hpos : te.size ≠ 0) (hb : len * te.size ≤ 2 ^ 24)
      (h : setParts te.size (List.replicate len (ofConst te.zero)) (ps.toList.map fun p => (p.1, ev p.2)) = some es) :
      Mk T ev H id (.buildSlice t len ps) (.ref id 0 len) (.new { es := es, esz := te.size })
  | make0 {t l cc k k' ti et te} (hl : ev l = .sc (.int k 0)) (hc : ev cc = .sc (.int k' 0)) (ht : T t = some ti) (hk : ti.kind = .slice et) (hte : T et = some te) :
      Mk T ev H id (.makeSlice t l cc) .nils .none
  | make {t l cc k k' n m ti et te} (hl : ev l = .sc (.int k n)) (hc : ev cc = .sc (.int k' m)) (h0 : 0 ≤ n) (hnm : n ≤ m) (hm : 0 < m) (ht : T t = some ti) (hk : ti.kind = .slice et)
      (hte : T et = some te) (hpos : te.size ≠ 0) (hb : te.bytes * m ≤ 2 ^ 48) (hb' : m < 2 ^ 62) :
      Mk T ev H id (.makeSlice t l cc) (.ref id 0 n.toNat) (.new { es := List.replicate n.toNat (ofConst te.zero), esz := te.size })
  | append0 {s x t ti et te n} (hs : lenA (ev s) = some n) (hs' : ∀ u, ev s ≠ .sc (.string u)) (hx : SrcR H (ev x) []) (ht : T t = some ti) (hk : ti.kind = .slice et) (hte : T et = some te) :
      Mk T ev H id (.call { callee := .builtin .append, args := #[s, x], argTypes := #[t, t] }) (ev s) .none
  | appendNil {s x t ti et te xs} (hs : ev s = .nils) (hx : SrcR H (ev x) xs) (hne : xs ≠ []) (ht : T t = some ti) (hk : ti.kind = .slice et) (hte : T et = some te)
      (hsz : ∀ e ∈ xs, e.cells.length = te.size) (hpos : te.size ≠ 0) (hlen : xs.length ≤ maxLen) (hb : xs.length * te.bytes ≤ 140737488355328) :
      Mk T ev H id (.call { callee := .builtin .append, args := #[s, x], argTypes := #[t, t] }) (.ref id 0 xs.length) (.new { es := xs, esz := te.size })
  | append {s x t ti et te xs o n y} (hs : ev s = .ref o 0 n) (hH : H o = some y) (hn : y.es.length = n) (hsp : y.spent = false) (hes : y.esz = te.size)
      (hx : SrcR H (ev x) xs) (hne : xs ≠ []) (ht : T t = some ti) (hk : ti.kind = .slice et) (hte : T et = some te)
      (hsz : ∀ e ∈ xs, e.cells.length = te.size) (hlen : n + xs.length ≤ maxLen) (hb : (n + xs.length) * te.bytes ≤ 140737488355328) :
      Mk T ev H id (.call { callee := .builtin .append, args := #[s, x], argTypes := #[t, t] }) (.ref id 0 (n + xs.length)) (.app o { es := y.es ++ xs, esz := te.size })

section
variable {c : Ctx} {H : Heap} {M : Nat → Prop}

/-- Some elements, and the cells in which they lie. -/
structure ElemsRel (c : Ctx) (M : Nat → Prop) (esz : Nat) (es : List AV) (vs : Array Value) : Prop where
  size : vs.size = es.length * esz
  rel : ∀ (i : Nat) e, es[i]? = some e → e.cells.length = esz ∧ ∀ (k : Nat) a, e.cells[k]? = some a → a.Ok M ∧ ∃ v, vs[i * esz + k]? = some v ∧ VRel c false a v ∧ v.oneCell' = true

theorem fill_elems {esz : Nat} (hpos : 0 < esz) (ev : Operand → AV) (σ : Operand → Value) (hE : ∀ x, VRel c false (ev x) (σ x)) (hO : ∀ x, (ev x).Ok M) :
    ∀ (ps : List (Nat × Operand)) (es r : List AV) (vs : Array Value), ElemsRel c M esz es vs → setParts esz es (ps.map fun p => (p.1, ev p.2)) = some r →
      ∃ us, Instr.fill (fun i => some (i * esz, esz)) vs (ps.map fun p => (p.1, σ p.2)) = some us ∧ ElemsRel c M esz r us ∧ r.length = es.length := by
  intro ps
  induction ps with
  | nil => intro es r vs hr h; simp [setParts] at h; subst h; exact ⟨vs, rfl, hr, rfl⟩
  | cons p ps ih =>
    intro es r vs hr h
    simp only [List.map_cons, setParts] at h
    simp only [List.map_cons, Instr.fill]
    split at h
    · rename_i hc
      simp only [Bool.and_eq_true, beq_iff_eq, decide_eq_true_eq] at hc
      obtain ⟨⟨hi, hw⟩, hs⟩ := hc
      have hcr := cells_rel (hE p.2) (hO p.2) hw
      have h1 := hcr.len
      have h2 := hr.size
      have h3 : (p.1 + 1) * esz ≤ es.length * esz := Nat.mul_le_mul_right _ hi
      rw [Nat.add_mul] at h3
      rw [if_neg (by simp only [Bool.or_eq_true, decide_eq_true_eq, ne_eq]; omega)]
      have hfold := foldl_set (σ p.2).cells (p.1 * esz) vs (by omega)
      have hsz : ∀ (l : List (Value × Nat)) (cs : Array Value), (l.foldl (fun cs (x : Value × Nat) => cs.setIfInBounds (p.1 * esz + x.2) x.1) cs).size = cs.size := by
        intro l
        induction l with
        | nil => intro cs; rfl
        | cons a l ih => intro cs; rw [List.foldl_cons, ih]; simp
      have hnew : ElemsRel c M esz (es.set p.1 (ev p.2)) ((σ p.2).cells.zipIdx.foldl (fun cs (x : Value × Nat) => cs.setIfInBounds (p.1 * esz + x.2) x.1) vs) := by
        refine ⟨?_, fun i e he => ?_⟩
        · rw [← Array.foldl_toList, hsz, List.length_set]; exact h2
        · by_cases hip : i = p.1
          · subst hip
            rw [List.getElem?_set_self hi] at he
            cases he
            refine ⟨hs, fun k a ha => ?_⟩
            have hk : k < (ev p.2).cells.length := (List.getElem?_eq_some_iff.1 ha).1
            have hk' : k < (σ p.2).cells.size := by omega
            obtain ⟨r1, r2, r3⟩ := hcr.rel k a _ ha (Array.getElem?_eq_getElem hk')
            refine ⟨r3, _, ?_, r1, r2⟩
            rw [hfold, if_pos (by omega), Nat.add_sub_cancel_left]
            exact Array.getElem?_eq_getElem hk'
          · rw [List.getElem?_set_ne (fun e => hip e.symm)] at he
            obtain ⟨g1, g2⟩ := hr.rel i e he
            refine ⟨g1, fun k a ha => ?_⟩
            obtain ⟨r3, v, hv, r1, r2⟩ := g2 k a ha
            refine ⟨r3, v, ?_, r1, r2⟩
            have hk : k < esz := by rw [← g1]; exact (List.getElem?_eq_some_iff.1 ha).1
            rw [hfold, if_neg ?_]
            · exact hv
            · rw [← h1, hs]
              rcases Nat.lt_or_gt_of_ne hip with hlt | hgt
              · have : (i + 1) * esz ≤ p.1 * esz := Nat.mul_le_mul_right _ hlt
                rw [Nat.add_mul] at this; omega
              · have : (p.1 + 1) * esz ≤ i * esz := Nat.mul_le_mul_right _ hgt
                rw [Nat.add_mul] at this; omega
      obtain ⟨us, hu, hr', hl'⟩ := ih _ _ _ hnew h
      exact ⟨us, hu, hr', by rw [hl', List.length_set]⟩
    · cases h

theorem zero_elems {ti : TI} (hz : (ofConst ti.zero).whole = true ∧ (ofConst ti.zero).cells.length = ti.size) (hpos : ti.size ≠ 0) (n : Nat) :
    ElemsRel c M ti.size (List.replicate n (ofConst ti.zero)) ((Array.range (n * ti.size)).map (ti.zero.cells[· % ti.zero.cells.size]!)) ∧ ti.zero.cells.size = ti.size := by
  have hcr := cells_rel (c := c) (M := M) (ofConst_rel c false ti.zero) (ofConst_ok M ti.zero) hz.1
  have hsz : ti.zero.cells.size = ti.size := by rw [← hcr.len, hz.2]
  refine ⟨⟨by simp, fun i e he => ?_⟩, hsz⟩
  rw [List.getElem?_replicate] at he
  split at he
  · rename_i hi
    cases he
    refine ⟨hz.2, fun k a ha => ?_⟩
    have hk : k < ti.size := by rw [← hz.2]; exact (List.getElem?_eq_some_iff.1 ha).1
    have hlt : i * ti.size + k < n * ti.size := by
      have : (i + 1) * ti.size ≤ n * ti.size := Nat.mul_le_mul_right _ hi
      rw [Nat.add_mul] at this; omega
    obtain ⟨r1, r2, r3⟩ := hcr.rel k a _ ha (Array.getElem?_eq_getElem (by omega))
    refine ⟨r3, _, ?_, r1, r2⟩
    rw [Array.getElem?_map]
    simp only [Array.getElem?_range, hlt, if_true, Option.map_some, hsz]
    rw [Nat.mul_comm i, Nat.mul_add_mod, Nat.mod_eq_of_lt hk]
    simp [hsz, hk]
  · cases he
end
end Go.Av
