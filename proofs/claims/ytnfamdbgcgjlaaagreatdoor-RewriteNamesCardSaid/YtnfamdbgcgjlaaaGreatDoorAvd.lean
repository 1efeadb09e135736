/- Parts of the proof, laid together. -/
import Derived.Test.YtnfamdbgcgjlaaaGreatDoorAvc
import Derived.Test.YtnfamdbgcgjlaaaGreatDoorAva
import Derived.Test.YtnfamdbgcgjlaaaGreatDoorAvb
import Derived.Lib.ConvBytes
import Derived.Lib.Bytealg
import Derived.Laws.Externs
import Derived.MapKept
import Derived.RangeFuncIn
set_option linter.all false
namespace Go.D
def wfI (k : IntKind) (z : Int) : Prop := (Lit.int k z).wf = true
def getI {α : Type} (l : List α) (i : Int) : Option α := if 0 ≤ i then l[i.toNat]? else none
def setI {α : Type} (l : List α) (i : Int) (x : α) : Option (List α) := if 0 ≤ i ∧ i.toNat < l.length then some (l.set i.toNat x) else none
def sliceI {α : Type} (l : List α) (a b : Int) : Option (List α) := if 0 ≤ a ∧ a ≤ b ∧ b.toNat ≤ l.length then some ((l.drop a.toNat).take (b.toNat - a.toNat)) else none
def capOk (n b : Nat) : Option Unit := if n * b ≤ 140737488355328 then some () else none
def lenOk (n : Nat) : Option Unit := if n ≤ 140737488355328 then some () else none
def divOk (b : Int) : Option Unit := if b ≠ 0 then some () else none
def shOk (b : Int) : Option Unit := if 0 ≤ b then some () else none
def mkOk (n m : Int) (b : Nat) : Option Unit := if 0 < n ∧ n = m ∧ (b : Int) * m ≤ 140737488355328 then some () else none
def insI {α : Type} (l : List α) (i : Int) (x : α) (b : Nat) : Option (List α) := if 0 ≤ i ∧ i.toNat < l.length ∧ (l.length + 1) * b ≤ 140737488355328 then some (l.take i.toNat ++ x :: l.drop i.toNat) else none
def bytesOf (l : List Nat) : ByteArray := ⟨(l.map UInt8.ofNat).toArray⟩
def delI {α : Type} (l : List α) (i : Int) : Option (List α) := if 0 ≤ i ∧ i.toNat < l.length ∧ l.length ≤ 140737488355328 then some (l.take i.toNat ++ l.drop (i.toNat + 1)) else none
abbrev w64 (z : Int) : Int := IntKind.i64.wrap z
abbrev wU8 (z : Int) : Int := IntKind.u8.wrap z
def FU : Nat := 100000
structure V2 (α : Type) where
  e0 : α
  e1 : α
  deriving DecidableEq, Inhabited
structure V3 (α : Type) where
  e0 : α
  e1 : α
  e2 : α
  deriving DecidableEq, Inhabited
structure V4 (α : Type) where
  e0 : α
  e1 : α
  e2 : α
  e3 : α
  deriving DecidableEq, Inhabited
structure V5 (α : Type) where
  e0 : α
  e1 : α
  e2 : α
  e3 : α
  e4 : α
  deriving DecidableEq, Inhabited
end Go.D
namespace Go.Av
variable [Gls]
open Go.D
abbrev aI (k : IntKind) (z : Int) : AV := .sc (.int k z)
abbrev aB (b : Bool) : AV := .sc (.bool b)
abbrev aS (s : ByteArray) : AV := .sc (.string s)
theorem brE {α : Type} {c : Bool} {a b : Option α} {r : α} {G : Prop} (h : (bif c then a else b) = some r) (h1 : c = true → a = some r → G) (h2 : c = false → b = some r → G) : G := by
  cases c with
  | true => exact h1 rfl h
  | false => exact h2 rfl h
theorem bindE {α β : Type} {x : Option α} {f : α → Option β} {r : β} {G : Prop} (h : x.bind f = some r) (k : ∀ v, x = some v → f v = some r → G) : G := by
  cases x with
  | none => cases h
  | some v => exact k v rfl h
theorem getI_pos {α : Type} {l : List α} {i : Int} {x : α} (h : getI l i = some x) : 0 ≤ i := by
  unfold getI at h; split at h
  · assumption
  · cases h
theorem getI_get {α : Type} {l : List α} {i : Int} {x : α} (h : getI l i = some x) : l[i.toNat]? = some x := by
  unfold getI at h; split at h
  · exact h
  · cases h
theorem getI_map {α : Type} {l : List α} {i : Int} {x : α} {f : α → AV} (h : getI l i = some x) : (l.map f)[i.toNat]? = some (f x) := by
  rw [List.getElem?_map, getI_get h]; rfl
theorem getI_map0 {α : Type} {l : List α} {i : Int} {x : α} {f : α → AV} (h : getI l i = some x) : (l.map f)[0 + i.toNat]? = some (f x) := by
  rw [Nat.zero_add]; exact getI_map h
theorem getI_lt {α : Type} {l : List α} {i : Int} {x : α} (h : getI l i = some x) : i < (l.length : Int) := by
  have h1 := getI_pos h
  have h2 := (List.getElem?_eq_some_iff.1 (getI_get h)).1
  omega
theorem getI_nat {α : Type} {l : List α} {i : Int} {x : α} (h : getI l i = some x) : i.toNat < l.length := (List.getElem?_eq_some_iff.1 (getI_get h)).1
theorem drop_cons {α : Type} {l xs : List α} {k : Nat} {x : α} (h : l.drop k = x :: xs) : k < l.length ∧ l[k]? = some x ∧ l.drop (k + 1) = xs := by
  have hk : k < l.length := by
    rcases Nat.lt_or_ge k l.length with h1 | h1
    · exact h1
    · rw [List.drop_of_length_le h1] at h; cases h
  rw [List.drop_eq_getElem_cons hk] at h
  injection h with h1 h2
  exact ⟨hk, by rw [List.getElem?_eq_getElem hk, h1], h2⟩
theorem drop_nil {α : Type} {l : List α} {k : Nat} (h : l.drop k = []) : l.length ≤ k := by
  simpa using h
theorem ixm {α : Type} {l : List α} {k : Nat} {x : α} {f : α → AV} (h : l[k]? = some x) : (l.map f)[((k : Nat) : Int).toNat]? = some (f x) := ix_map h
theorem ixm0 {α : Type} {l : List α} {k : Nat} {x : α} {f : α → AV} (h : l[k]? = some x) : (l.map f)[0 + ((k : Nat) : Int).toNat]? = some (f x) := by rw [Nat.zero_add]; exact ix_map h
theorem capOk_le {n b : Nat} {u : Unit} (h : capOk n b = some u) : n * b ≤ 140737488355328 := by
  unfold capOk at h; split at h
  · assumption
  · cases h
theorem lenOk_le {n : Nat} {u : Unit} (h : lenOk n = some u) : n ≤ 140737488355328 := by
  unfold lenOk at h; split at h
  · assumption
  · cases h
theorem divOk_ne {b : Int} {u : Unit} (h : divOk b = some u) : b ≠ 0 := by
  unfold divOk at h; split at h
  · assumption
  · cases h
theorem shOk_le {b : Int} {u : Unit} (h : shOk b = some u) : 0 ≤ b := by
  unfold shOk at h; split at h
  · assumption
  · cases h
theorem mkOk_le {n m : Int} {b : Nat} {u : Unit} (h : mkOk n m b = some u) : 0 < n ∧ n = m ∧ (b : Int) * m ≤ 140737488355328 := by
  unfold mkOk at h; split at h
  · assumption
  · cases h
theorem sliceI_ok {α : Type} {l m : List α} {a b : Int} (h : sliceI l a b = some m) : 0 ≤ a ∧ a ≤ b ∧ b.toNat ≤ l.length ∧ m = (l.drop a.toNat).take (b.toNat - a.toNat) := by
  unfold sliceI at h; split at h
  · rename_i hc; cases h; exact ⟨hc.1, hc.2.1, hc.2.2, rfl⟩
  · cases h
theorem str_ix {s : ByteArray} {tab : List Int} {i b : Int} (ht : tab = s.data.toList.map fun c => (c.toNat : Int)) (h : getI tab i = some b) : ∃ c, s[i.toNat]? = some c ∧ b = c.toNat := by
  have h1 := getI_get h
  rw [ht, List.getElem?_map] at h1
  cases hc : s.data.toList[i.toNat]? with
  | none => rw [hc] at h1; cases h1
  | some c =>
    rw [hc] at h1
    cases h1
    have h2 : i.toNat < s.size := by have := (List.getElem?_eq_some_iff.1 hc).1; simpa using this
    refine ⟨c, ?_, rfl⟩
    rw [getElem?_pos s i.toNat h2]
    have h3 := (List.getElem?_eq_some_iff.1 hc).2
    simp only [Array.getElem_toList] at h3
    exact congrArg some h3
theorem delI_ok {α : Type} {l m : List α} {i : Int} (h : delI l i = some m) : 0 ≤ i ∧ i.toNat < l.length ∧ l.length ≤ 140737488355328 ∧ m = l.take i.toNat ++ l.drop (i.toNat + 1) := by
  unfold delI at h; split at h
  · rename_i hc; cases h; exact ⟨hc.1, hc.2.1, hc.2.2, rfl⟩
  · cases h
theorem isEmpty_ne {α : Type} {l : List α} (h : List.isEmpty l = false) : l ≠ [] := by
  intro e; rw [e] at h; cases h
theorem insI_ok {α : Type} {l m : List α} {i : Int} {x : α} {b : Nat} (h : insI l i x b = some m) : 0 ≤ i ∧ i.toNat < l.length ∧ (l.length + 1) * b ≤ 140737488355328 ∧ m = l.take i.toNat ++ x :: l.drop i.toNat := by
  unfold insI at h; split at h
  · rename_i hc; cases h; exact ⟨hc.1, hc.2.1, hc.2.2, rfl⟩
  · cases h
theorem setI_ok {α : Type} {l m : List α} {a : Int} {x : α} (h : setI l a x = some m) : 0 ≤ a ∧ a.toNat < l.length ∧ m = l.set a.toNat x := by
  unfold setI at h; split at h
  · rename_i hc; cases h; exact ⟨hc.1, hc.2, rfl⟩
  · cases h
theorem sliceI_len {α : Type} {l m : List α} {a b : Int} (h : sliceI l a b = some m) : b.toNat - a.toNat = m.length := by
  obtain ⟨h1, h2, h3, rfl⟩ := sliceI_ok h
  simp; omega
theorem sliceI_nil {α : Type} {m : List α} {a b : Int} (h : sliceI ([] : List α) a b = some m) : m = [] := by
  obtain ⟨h1, h2, h3, rfl⟩ := sliceI_ok h
  simp
theorem part_zero {α : Type} {m : List α} (h : List.isEmpty m = true) : m.length = 0 := by
  rw [List.isEmpty_iff.1 h]; rfl
theorem part_pos {α : Type} {m : List α} (h : List.isEmpty m = false) : 0 < m.length := by
  cases m with
  | nil => cases h
  | cons a m => simp
theorem part_ix {α : Type} {l m : List α} {off n : Nat} {i : Int} {x : α} {f : α → AV} (q : m = (l.drop off).take n) (h : getI m i = some x) : (l.map f)[off + i.toNat]? = some (f x) := by
  have h1 := getI_get h
  rw [q, List.getElem?_take] at h1
  split at h1
  · rw [List.getElem?_drop] at h1
    rw [List.getElem?_map, h1]; rfl
  · cases h1
theorem part_part {α : Type} {l m k : List α} {off n a c : Nat} (q2 : k = (m.drop a).take c) (q : m = (l.drop off).take n) : k = (l.drop (off + a)).take (min c (n - a)) := by
  rw [q2, q, List.drop_take, List.drop_drop, List.take_take]
theorem part_trunc {α : Type} {l m : List α} {n : Nat} {f : α → AV} (q : m = (l.drop 0).take n) : ∃ k, m.map f = (l.map f).take k := ⟨n, by rw [q]; simp [List.map_take]⟩
def slB (id : Nat) (es : List AV) : AV :=
  match es with
  | [] => .nils
  | e :: r => .ref id 0 (e :: r).length
def opG (id esz : Nat) (es : List AV) : List (Nat × Obj) :=
  match es with
  | [] => []
  | e :: r => [(id, { es := e :: r, esz := esz })]
theorem cell_len {α : Type} {f : α → AV} {n : Nat} (h : ∀ x, (f x).cells.length = n) (l : List α) : ∀ e ∈ l.map f, e.cells.length = n := by
  intro e he
  obtain ⟨x, _, rfl⟩ := List.mem_map.1 he
  exact h x
theorem flat_map {α : Type} {f : α → AV} (h : ∀ x, FlatE (f x)) (l : List α) : ∀ e ∈ l.map f, FlatE e := by
  intro e he
  obtain ⟨x, _, rfl⟩ := List.mem_map.1 he
  exact h x
theorem still_map {α : Type} {f : α → AV} (h : ∀ x, StillE (f x)) (l : List α) : ∀ e ∈ l.map f, StillE e := by
  intro e he
  obtain ⟨x, _, rfl⟩ := List.mem_map.1 he
  exact h x
def FreeE (e : AV) : Prop := ∀ M : Nat → Prop, e.Ok M ∧ ∀ a ∈ e.cells, a.Ok M
theorem free_map {α : Type} {f : α → AV} (h : ∀ x, FreeE (f x)) (l : List α) (M : Nat → Prop) : ∀ e ∈ l.map f, ∀ a ∈ e.cells, a.Ok M := by
  intro e he
  obtain ⟨x, _, rfl⟩ := List.mem_map.1 he
  exact (h x M).2
theorem flat_free {e : AV} (h : FlatE e) (hw : e.whole = true) : FreeE e := fun M => by
  have h2 : ∀ a ∈ e.cells, a.Ok M := fun a ha => by obtain ⟨v, rfl⟩ := h a ha; exact .sc
  refine ⟨?_, h2⟩
  cases e with
  | agg cs => exact .agg h2
  | _ => first | exact h2 _ (List.mem_singleton.2 rfl)
theorem cv_lmap {α : Type} {f g : α → AV} {H : Heap} {own : Bool} (hc : ∀ x, (f x).cells.length = (g x).cells.length) (h : ∀ x (k : Nat) a b, (f x).cells[k]? = some a → (g x).cells[k]? = some b → Cv false H a b) (l : List α) :
    Cv false H (.list own (l.map f)) (.list false (l.map g)) := by
  refine .listD rfl (by simp) (fun i e e' he he' => ?_) (fun i e e' k a b he he' ha hb => ?_)
  · simp only [List.getElem?_map, Option.map_eq_some_iff] at he he'
    obtain ⟨x, hx, rfl⟩ := he
    obtain ⟨y, hy, rfl⟩ := he'
    rw [hx] at hy; cases hy
    exact hc x
  · simp only [List.getElem?_map, Option.map_eq_some_iff] at he he'
    obtain ⟨x, hx, rfl⟩ := he
    obtain ⟨y, hy, rfl⟩ := he'
    rw [hx] at hy; cases hy
    exact h x k a b ha hb
theorem ref1 {i n m : Nat} (h : n = m) : [AV.ref i 0 n] = [AV.ref i 0 m] := h ▸ rfl
def Nb {α : Type} (l : List α) : Type := { b : Bool // b = true → l = [] }
def nbF {α : Type} {l : List α} : Nb l := ⟨false, fun h => by cases h⟩
def nbT {α : Type} {l : List α} (h : l = []) : Nb l := ⟨true, fun _ => h⟩
def slE (nb : Bool) (id : Nat) (es : List AV) : AV := bif nb then .nils else .ref id 0 es.length
def opE (nb : Bool) (id esz : Nat) (es : List AV) : List (Nat × Obj) := bif nb then [] else [(id, { es := es, esz := esz })]
theorem SemK.joinF {P : Program} {nt n0 : Nat} {Q : AExit → St → Mu → Prop} {cf : Cf} {K : List Kn} {μ : Mu} {s : St} {ι : Type} (s' : ι → St) (h1 : ∀ i, SemK P nt n0 Q (.exit .normal) K (s' i) μ)
    (h2 : (∀ i, SemK P nt n0 Q (.exit .normal) K (s' i) μ) → SemK P nt n0 Q cf K s μ) : SemK P nt n0 Q cf K s μ := h2 h1
theorem SemK.joinOpF {P : Program} {nt n0 : Nat} {Q : AExit → St → Mu → Prop} {ops : Array Oper} {o : Oper} {l : List Oper} {K : List Kn} {μ : Mu} {s : St} {ι : Type} (s' : ι → St) (h1 : ∀ i, SemK P nt n0 Q (.ops ops l) K (s' i) μ)
    (h2 : (∀ i, SemK P nt n0 Q (.ops ops l) K (s' i) μ) → SemK P nt n0 Q (.ops ops (o :: l)) K s μ) : SemK P nt n0 Q (.ops ops (o :: l)) K s μ := h2 h1
theorem SemK.join {P : Program} {nt n0 : Nat} {Q : AExit → St → Mu → Prop} {cf : Cf} {K : List Kn} {μ : Mu} {s s' : St} (h1 : SemK P nt n0 Q (.exit .normal) K s' μ)
    (h2 : SemK P nt n0 Q (.exit .normal) K s' μ → SemK P nt n0 Q cf K s μ) : SemK P nt n0 Q cf K s μ := h2 h1
theorem SemK.joinOp {P : Program} {nt n0 : Nat} {Q : AExit → St → Mu → Prop} {ops : Array Oper} {o : Oper} {l : List Oper} {K : List Kn} {μ : Mu} {s s' : St} (h1 : SemK P nt n0 Q (.ops ops l) K s' μ)
    (h2 : SemK P nt n0 Q (.ops ops l) K s' μ → SemK P nt n0 Q (.ops ops (o :: l)) K s μ) : SemK P nt n0 Q (.ops ops (o :: l)) K s μ := h2 h1
theorem flatC {v : Value} {P : List AV} (h : ∀ a ∈ P, ∃ v, a = .sc v) : ∀ a ∈ (.sc v :: P), ∃ v, a = .sc v := fun a ha => by
  rcases List.mem_cons.1 ha with rfl | ha
  · exact ⟨_, rfl⟩
  · exact h a ha
theorem flatN : ∀ a ∈ ([] : List AV), ∃ v, a = .sc v := fun _ h => by cases h
theorem freeSc {v : Value} : FreeE (.sc v) := fun _ => ⟨.sc, fun a ha => by rw [List.mem_singleton.1 ha]; exact .sc⟩
theorem free_agg {cs : List AV} (h : ∀ M : Nat → Prop, ∀ a ∈ cs, a.Ok M) : FreeE (.agg cs) := fun M => ⟨.agg (h M), h M⟩
theorem free_one {e : AV} (h : FreeE e) (M : Nat → Prop) : ∀ e' ∈ [e], ∀ a ∈ e'.cells, a.Ok M := fun e' he => by rw [List.mem_singleton.1 he]; exact (h M).2
def encl {α : Type} (o : Bool) (f : α → AV) (l : List α) : AV := .list o (l.map f)
theorem still_encl {α : Type} {o : Bool} {f : α → AV} {l : List α} : StillE (encl o f l) := fun _ => rfl
theorem free_encl {α : Type} {o : Bool} {f : α → AV} {l : List α} : FreeE (encl o f l) := fun _ => ⟨.list, fun a ha => by rw [List.mem_singleton.1 ha]; exact .list⟩
theorem cv_flat {m : Bool} {H : Heap} {e : AV} (h : FlatE e) (hw : e.whole = true := by rfl) : Cv m H e e := by
  cases e with
  | agg cs =>
    refine .agg rfl fun i a b ha hb => ?_
    rw [ha] at hb; cases hb
    obtain ⟨v, rfl⟩ := h a (List.mem_of_getElem? ha)
    exact .sc
  | sc v => exact .sc
  | _ => obtain ⟨v, hv⟩ := h _ (List.mem_singleton.2 rfl); cases hv
theorem own_flat {e : AV} (h : FlatE e) (hw : e.whole = true := by rfl) : OwnO e := by
  cases e with
  | agg cs =>
    refine .agg fun a ha => ?_
    obtain ⟨v, rfl⟩ := h a ha
    exact .sc
  | sc v => exact .sc
  | _ => obtain ⟨v, hv⟩ := h _ (List.mem_singleton.2 rfl); cases hv
theorem ownTup {l : List AV} (h : ∀ a ∈ l, OwnO a) : OwnO (.tup l) := .tup h
theorem cv_agg {m : Bool} {H : Heap} {as bs : List AV} (h : Cvs m H as bs) : Cv m H (.agg as) (.agg bs) := .agg h.len h.rel
theorem cv_nils {m : Bool} {H : Heap} {es : List AV} (h : es = []) : Cv m H .nils (.list m es) := by rw [h]; exact .nils
theorem cv_list_cells {m : Bool} {H : Heap} {e b : AV} (h : Cv m H e b) : ∀ own es, b = .list own es → e.cells = [e] := by
  induction h with
  | weak h ih => intro _ _ _; exact ih _ _ rfl
  | agg => intro _ _ h; cases h
  | _ => intro _ _ _; rfl
theorem cv_cells {H : Heap} {e e' : AV} (h : Cv false H e e') : ∀ (k : Nat) a b, e.cells[k]? = some a → e'.cells[k]? = some b → Cv false H a b := by
  intro k a b ha hb
  cases h with
  | agg hl h => exact h k a b ha hb
  | weak h =>
    rw [cv_list_cells h _ _ rfl] at ha
    cases k with
    | succ k => simp at ha
    | zero => simp [AV.cells] at ha hb; subst ha hb; exact .weak h
  | _ =>
    cases k with
    | succ k => simp [AV.cells] at ha
    | zero =>
      simp [AV.cells] at ha hb
      subst ha hb
      first
        | exact .sc
        | exact .nils
        | exact .nils0
        | exact .fn0
        | (apply Cv.tup <;> assumption)
        | (apply Cv.listS; assumption)
        | (apply Cv.listD <;> assumption)
        | (apply Cv.ref <;> assumption)
        | (apply Cv.ptrL <;> assumption)
        | (apply Cv.elemD <;> assumption)
theorem slB_ne {i : Nat} {es : List AV} (h : es ≠ []) : slB i es = .ref i 0 es.length := by
  cases es with
  | nil => exact absurd rfl h
  | cons a r => rfl
theorem opG_ne {i z : Nat} {es : List AV} (h : es ≠ []) : opG i z es = [(i, { es := es, esz := z })] := by
  cases es with
  | nil => exact absurd rfl h
  | cons a r => rfl
theorem absT {b : Bool} {P : Prop} (h : b = false) : b = true → P := fun a => Bool.noConfusion (a.symm.trans h)
theorem absN {b : Bool} {P : Prop} (h : b = true) : (!b) = true → P := fun a => by rw [h] at a; cases a
theorem andL {a b : Bool} : (a && b) = true → a = true := fun h => (Bool.and_eq_true_iff.1 h).1
theorem andR {a b : Bool} : (a && b) = true → b = true := fun h => (Bool.and_eq_true_iff.1 h).2
theorem free_cons {α : Type} {f : α → AV} (h : ∀ x, FreeE (f x)) (a : α) (l : List α) (M : Nat → Prop) : ∀ e ∈ (f a :: l.map f), ∀ c ∈ e.cells, c.Ok M := free_map h (a :: l) M
theorem still_cons {α : Type} {f : α → AV} (h : ∀ x, StillE (f x)) (a : α) (l : List α) : ∀ e ∈ (f a :: l.map f), StillE e := still_map h (a :: l)
theorem cv_leq {H : Heap} {own : Bool} {es es' : List AV} (he : es = es') (h : ∀ e ∈ es', FlatE e) : Cv false H (.list own es) (.list false es') := by rw [he]; exact cv_list h
theorem capLe {m n b c : Nat} {u : Unit} (h : capOk n c = some u) (hb : b = c) (hm : m = n) : m * b ≤ 140737488355328 := by subst hb hm; exact capOk_le h
theorem capMax {m n c : Nat} {u : Unit} (h : capOk n c = some u) (hc : 0 < c) (hm : m = n) : m ≤ maxLen := by
  subst hm
  have := capOk_le h
  have h2 : m * 1 ≤ m * c := Nat.mul_le_mul_left _ hc
  unfold maxLen; omega
theorem bif_t {c x y b : Bool} (h : c = true) (hx : x = b) : (bif c then x else y) = b := by rw [h]; exact hx
theorem bif_f {c x y b : Bool} (h : c = false) (hy : y = b) : (bif c then x else y) = b := by rw [h]; exact hy
theorem not_t {c : Bool} (h : c = true) : (!c) = false := by rw [h]; rfl
theorem not_f {c : Bool} (h : c = false) : (!c) = true := by rw [h]; rfl
theorem cv_leqS {H : Heap} {own : Bool} {es es' : List AV} (he : es = es') : Cv true H (.list own es) (.list own es') := by rw [he]; exact .listS rfl
theorem bnot_of {c b : Bool} (h : c = b) : (!c) = !b := by rw [h]
theorem getI_mapc {α : Type} {a : α} {l : List α} {i : Int} {x : α} {f : α → AV} (h : getI (a :: l) i = some x) : (f a :: l.map f)[i.toNat]? = some (f x) := getI_map (l := a :: l) h
theorem getI_mapc0 {α : Type} {a : α} {l : List α} {i : Int} {x : α} {f : α → AV} (h : getI (a :: l) i = some x) : (f a :: l.map f)[0 + i.toNat]? = some (f x) := getI_map0 (l := a :: l) h
theorem ixmc {α : Type} {a : α} {l : List α} {k : Nat} {x : α} {f : α → AV} (h : (a :: l)[k]? = some x) : (f a :: l.map f)[((k : Nat) : Int).toNat]? = some (f x) := ixm (l := a :: l) h
theorem ixmc0 {α : Type} {a : α} {l : List α} {k : Nat} {x : α} {f : α → AV} (h : (a :: l)[k]? = some x) : (f a :: l.map f)[0 + ((k : Nat) : Int).toNat]? = some (f x) := ixm0 (l := a :: l) h
theorem slB_nil {i : Nat} {es : List AV} (h : es = []) : slB i es = .nils := by rw [h]; rfl
theorem opG_nil {i z : Nat} {es : List AV} (h : es = []) : opG i z es = [] := by rw [h]; rfl
theorem cv_scE {m : Bool} {H : Heap} {u v : Value} (h : u = v) : Cv m H (.sc u) (.sc v) := by rw [h]; exact .sc
theorem still_one {e : AV} (h : StillE e) : ∀ e' ∈ [e], StillE e' := fun e' he => by rw [List.mem_singleton.1 he]; exact h
theorem okFn0 {f : Nat} {M : Nat → Prop} : (AV.fn f []).Ok M := .fn fun _ h => by cases h
theorem cell_len_td {α : Type} {f : α → AV} {n : Nat} (h : ∀ x, (f x).cells.length = n) (l : List α) (a b : Nat) : ∀ e ∈ ((l.map f).drop a).take b, e.cells.length = n := fun e he => cell_len h l e (List.mem_of_mem_drop (List.mem_of_mem_take he))
theorem take_full {es : List AV} {n : Nat} (h : n = es.length) : (es.drop 0).take n = es := by rw [List.drop_zero, h, List.take_length]
theorem cell_len_c {α : Type} {f : α → AV} {n : Nat} (h : ∀ x, (f x).cells.length = n) (a : α) (l : List α) : ∀ e ∈ (f a :: l.map f), e.cells.length = n := cell_len h (a :: l)
theorem shape_list {α : Type} {f : α → AV} {w : α → Prop} {es : List AV} (h : ∀ x ∈ es, ∃ e, x = f e ∧ w e) : ∃ l : List α, es = l.map f ∧ ∀ y ∈ l, w y := by
  induction es with
  | nil => exact ⟨[], rfl, fun _ h => by cases h⟩
  | cons a r ih =>
    obtain ⟨e, he, hw⟩ := h a (List.mem_cons_self ..)
    obtain ⟨l, hl, hws⟩ := ih fun x hx => h x (List.mem_cons_of_mem _ hx)
    refine ⟨e :: l, by rw [he, hl]; rfl, fun y hy => ?_⟩
    rcases List.mem_cons.1 hy with rfl | hy
    · exact hw
    · exact hws y hy
theorem cv_refp {m : Bool} {H : Heap} {o off n : Nat} {x : Obj} {es : List AV} (hH : H o = some x) (hle : off + n ≤ x.es.length) (he : (x.es.drop off).take n = es) (hn : n = es.length) (h : ∀ e ∈ es, FlatE e) : Cv m H (.ref o off n) (.list m es) := by
  have hg : ∀ (i : Nat) e e', x.es[off + i]? = some e → es[i]? = some e' → e = e' := by
    intro i e e' h1 h2
    rw [← he, List.getElem?_take] at h2
    split at h2
    · rw [List.getElem?_drop, h1] at h2; cases h2; rfl
    · cases h2
  refine .ref hH hle hn.symm (fun i e e' h1 h2 => by rw [hg i e e' h1 h2]) (fun i e e' k a b h1 h2 ha hb => ?_)
  have := hg i e e' h1 h2
  subst this
  rw [ha] at hb; cases hb
  obtain ⟨v, rfl⟩ := h e (List.mem_of_getElem? h2) a (List.mem_of_getElem? ha)
  exact .sc
theorem ex_head {p : AV → Prop} {a : AV} {l : List AV} (h : p a) : ∃ e ∈ (a :: l), p e := ⟨a, List.mem_cons_self .., h⟩
theorem oblA {P : Prop} (h : P := by
  first
    | exact trivial
    | exact fun h => h
    | rfl
    | assumption
    | (apply getI_pos; assumption; done)
    | (apply getI_map; assumption; done)
    | (apply getI_map0; assumption; done)
    | (apply ixm; assumption; done)
    | (apply ixm0; assumption; done)
    | (apply getI_mapc; assumption; done)
    | (apply getI_mapc0; assumption; done)
    | (apply ixmc; assumption; done)
    | (apply ixmc0; assumption; done)
    | (apply divOk_ne; assumption; done)
    | (apply shOk_le; assumption; done)
    | (intro a; rw [a]; done)
    | (intro a; rw [a]; rfl)
    | exact wrap_i64 (by omega) (by omega)
    | (refine cell_len ?_ _; intro x; rfl)
    | exact ex_head rfl
    | (refine cell_len_td ?_ _ _ _; intro x; rfl)
    | (refine cell_len_c ?_ _ _; intro x; rfl)
    | (refine take_full ?_; first | rfl | (simp; done) | (simp; omega) | (simp [*]; done))
    | exact Nat.le_of_ble_eq_true rfl
    | (exact decide_eq_true (by omega))
    | (exact decide_eq_false (by omega))
    | (simp only [maxLen, List.length_append, List.length_map, List.length_cons, List.length_nil, List.length_replicate, Int.toNat_natCast]; done)
    | (simp only [maxLen, List.length_append, List.length_map, List.length_cons, List.length_nil, List.length_replicate, Int.toNat_natCast] at *; omega)
    | (simp only [List.length_map]; first | done | assumption | rfl)
    | (simp only [List.length_map]; first | (apply getI_pos; assumption; done) | (apply getI_map; assumption; done) | (apply getI_map0; assumption; done) | (apply getI_mapc; assumption; done) | (apply getI_mapc0; assumption; done))
    | (refine congrArg (fun z => AV.sc (Value.int IntKind.i64 z)) ?_; simp only [List.length_map, List.length_cons, List.length_append]; done)
    | (refine congrArg (fun z => AV.sc (Value.int IntKind.i64 z)) ?_; first | (simp; done) | (simp; omega) | (simp [*]; done))
    | (intro e he; rw [List.mem_singleton.1 he]; rfl)
    | (intro e he; simp only [List.mem_cons, List.not_mem_nil, or_false] at he; rcases he with rfl | rfl <;> rfl)
    | exact andL
    | exact andR
    | (refine not_t ?_; assumption)
    | (refine not_f ?_; assumption)
    | (refine absT ?_; assumption)
    | (refine absN ?_; assumption)
    | omega
    | (simp; done)
    | (simp [*]; done)
    | (intros; simp_all; done)) : P := h
end Go.Av

namespace Go.Av
variable [Gls]
theorem equalIn_nil {P : Program} {t et : Nat} {p : Option Addr} {n m : Nat} (hu : P.underlying t = some (.slice et)) (w : World) (d : Nat) :
    (Op.equalIn (d + 1) t (.slice p n m) (.slice none 0 0)).run P w = .ok p.isNone w := by
  unfold Op.equalIn
  rw [Sem.run_bind, run_underlying hu w]
  cases p <;> rfl
theorem sliceNil_run {P : Program} {t : Nat} {et : Nat} {x : Operand} {p : Option Addr} {n m : Nat} (hu : P.underlying t = some (.slice et)) (w : World) (y : Operand) :
    ((do eqGuard .eql t x y (.slice p n m) (.slice none 0 0); binOp .eql t (.slice p n m) (.slice none 0 0) : Sem Value)).run P w = .ok (.bool p.isNone) w := by
  have h1 : (eqGuard .eql t x y (.slice p n m) (.slice none 0 0)).run P w = .ok () w := rfl
  have h2 : (binOp .eql t (.slice p n m) (.slice none 0 0)) = (do pure (.bool (← Op.equalIn (9999 + 1) t (.slice p n m) (.slice none 0 0))) : Sem Value) := rfl
  rw [Sem.run_bind, h1, Result.andThen_ok, h2, Sem.run_bind, equalIn_nil hu w 9999]
  rfl
def nilMay : AV → Option Bool
  | .list _ es => some es.isEmpty
  | .nils => some true
  | .ref _ _ _ => some false
  | _ => none
theorem nilMay_ok {c : Ctx} {a : AV} {v : Value} {b : Bool} (h : VRel c false a v) (hn : nilMay a = some b) : ∃ p n m, v = .slice p n m ∧ (b = false → p.isNone = false) := by
  cases h with
  | listNil => simp [nilMay] at hn; subst hn; exact ⟨_, _, _, rfl, fun h => by cases h⟩
  | list vf hne =>
    rename_i es b off cap esz n hS hn' hcap hsz hcell h1 h
    exact ⟨_, _, _, rfl, fun _ => rfl⟩
  | nils => simp [nilMay] at hn; subst hn; exact ⟨_, _, _, rfl, fun h => by cases h⟩
  | ref => exact ⟨_, _, _, rfl, fun _ => rfl⟩
  | _ => cases hn
theorem SemK.eqNil {P : Program} {T : Ty} {nt n0 : Nat} {Q : AExit → St → Mu → Prop} {ops : Array Oper} {l : List Oper} {o : Oper} {K : List Kn} {L : List (Nat × AV)} {G : List (Nat × Obj)} {n : Nat} {μ : Mu} {t yt : Nat} {x : Operand} {ti : TI} {et : Nat}
    {a : AV} {q : List Prop} {may : Bool} (hT : TyOk P T) (ho : o.op = .binOp .eql t x (.const (.slice none 0 0)) yt) (hg : o.guard = none) (hd : dstOk nt o.dst = true) (ht : T t = some ti) (hk : ti.kind = .slice et) (hx : rd L x = (a, q)) (hq : allP q)
    (hm : nilMay a = some may) (h : ∀ b : Bool, (may = false → b = false) → SemK P nt n0 Q (.ops ops l) K ⟨fr (putO o.dst (.sc (.bool b)) L), hp G, n⟩ μ) : SemK P nt n0 Q (.ops ops (o :: l)) K ⟨fr L, hp G, n⟩ μ := by
  refine SemLM.plain (s := ⟨fr L, hp G, n⟩) hg (dstOk_lt hd) (R := fun a' H' n' => (∃ b : Bool, (may = false → b = false) ∧ a' = .sc (.bool b)) ∧ H' = hp G ∧ n' = n) ?_ ?_
  · intro c0 H0 n0' c act g K' Q' hK R
    have hv := g.ev x
    rw [show evA (St.A ⟨fr L, hp G, n⟩) x = a from rd_ok hx hq] at hv
    obtain ⟨p, m1, m2, hv', hp'⟩ := nilMay_ok hv hm
    refine Oper.wpR (fun d hd => by rw [hd] at ho; cases ho) ?_
    unfold Oper.wp
    have hr : (execOp act.eval o).run P c.w = .ok (.value (.bool p.isNone)) c.w := by
      obtain ⟨dst, op, type, pos, after, guard⟩ := o
      simp only at ho
      subst ho
      have := sliceNil_run (P := P) (t := t) (x := x) (p := p) (n := m1) (m := m2) (under_slice (hT t ti ht) hk) c.w (.const (.slice none 0 0))
      have hc : act.eval (.const (.slice none 0 0)) = .slice none 0 0 := rfl
      simp only [execOp, hv', hc]
      rw [Sem.run_bind, this]; rfl
    rw [hr]
    exact hK c (.sc (.bool p.isNone)) (hp G) n (.bool p.isNone) ⟨⟨_, hp', rfl⟩, rfl, rfl⟩ fun dst hd => g.next hd (.refl c) rfl (fun b hb => .inl hb) (.refl c (hp G)) (fun q x hx => .inr ⟨q, x, hx, rfl⟩) g.inv g.solo (Nat.le_refl _) .sc .sc
  · rintro a' H' n' ⟨⟨b, hb, rfl⟩, rfl, rfl⟩
    have := h b hb
    rw [putO_fr] at this
    exact this
theorem SemK.inlineG {P : Program} {T : Ty} {nt n0 nt' f j t : Nat} {want g : Bool} {Q : AExit → St → Mu → Prop} {ops : Array Oper} {l : List Oper} {o : Oper} {K : List Kn} {L : List (Nat × AV)} {G : List (Nat × Obj)} {n : Nat} {μ : Mu} {x : Operand} {args : Array Operand} {ts : Array Nat}
    {caps as : List AV} {fn : Func} {code : Code} (hT : TyOk P T) (hfn : FnOk P f fn code) (ho : o.op = .call { callee := .value x, args := args, argTypes := ts }) (hg : o.guard = some (j, want)) (hj : (ops[j]?).bind (·.dst) = some t) (ht : Nat.blt t nt = true) (hgd : gdS want (fr L t) = some g)
    (hd : dstOk nt o.dst = true) {qx qa : List Prop} (hx : rd L x = (.fn f caps, qx)) (ha : rds L args.toList = (as, qa)) (hnt : fn.ntmps = nt') (hle : Nat.ble (as ++ caps).length nt' = true) (hgt : g = true) (hpx : allP qx) (hpa : allP qa)
    (h : SemK P nt' n (retM T fn fun r H' n' => SemK P nt n0 Q (.ops ops l) K ⟨updO (fr L) o.dst r, H', n'⟩ μ) (.code code) [] ⟨fr (Av.argL 0 (as ++ caps)), hp G, n⟩ []) : SemK P nt n0 Q (.ops ops (o :: l)) K ⟨fr L, hp G, n⟩ μ := by
  subst hgt
  refine SemLM.step (s := ⟨fr L, hp G, n⟩) (fun c0 c H0 act gd => wanted_gd (s := ⟨fr L, hp G, n⟩) hg hj ht hgd gd) (dstOk_lt hd) (OpR.call (s := ⟨fr L, hp G, n⟩) ho (rd_ok hx hpx) ?_) (fun a H' n' hr => hr)
  rw [rds_ok ha hpa]
  exact HC.of_bodyM hT hfn hnt (by simpa using hle) (SemM.ofCl h)
theorem cv_cellsT {H : Heap} {e e' : AV} (h : Cv true H e e') : ∀ (k : Nat) a b, e.cells[k]? = some a → e'.cells[k]? = some b → Cv true H a b := by
  intro k a b ha hb
  cases h with
  | agg hl h => exact h k a b ha hb
  | weak h =>
    rw [cv_list_cells h _ _ rfl] at ha
    cases k with
    | succ k => simp at ha
    | zero => simp [AV.cells] at ha hb; subst ha hb; exact .weak h
  | ptrL hm => cases hm
  | elemD hm => cases hm
  | _ =>
    cases k with
    | succ k => simp [AV.cells] at ha
    | zero =>
      simp [AV.cells] at ha hb
      subst ha hb
      first
        | exact .sc
        | exact .nils
        | exact .nils0
        | exact .fn0
        | (apply Cv.tup <;> assumption)
        | (apply Cv.listS; assumption)
        | (apply Cv.ref <;> assumption)
        | (rename_i hm _ _ _; cases hm)
theorem cv_refl {m : Bool} {α : Type} {f g : α → AV} {H : Heap} {o n : Nat} {x : Obj} {l : List α} (hH : H o = some x) (he : x.es = l.map f) (hn : n = l.length) (hc : ∀ x, (f x).cells.length = (g x).cells.length)
    (h : ∀ x (k : Nat) a b, (f x).cells[k]? = some a → (g x).cells[k]? = some b → Cv m H a b) : Cv m H (.ref o 0 n) (.list m (l.map g)) := by
  have hg : ∀ (i : Nat) e e', x.es[0 + i]? = some e → (l.map g)[i]? = some e' → ∃ y, e = f y ∧ e' = g y := by
    intro i e e' h1 h2
    rw [Nat.zero_add, he] at h1
    simp only [List.getElem?_map, Option.map_eq_some_iff] at h1 h2
    obtain ⟨y, hy, rfl⟩ := h1
    obtain ⟨z, hz, rfl⟩ := h2
    rw [hy] at hz; cases hz
    exact ⟨y, rfl, rfl⟩
  refine .ref hH (by rw [he, hn]; simp) (by rw [hn]; simp) (fun i e e' h1 h2 => ?_) (fun i e e' k a b h1 h2 ha hb => ?_)
  · obtain ⟨y, rfl, rfl⟩ := hg i e e' h1 h2; exact hc y
  · obtain ⟨y, rfl, rfl⟩ := hg i e e' h1 h2; exact h y k a b ha hb
end Go.Av

namespace Go.Av
variable [Gls]
def byL (s : ByteArray) : List AV := s.data.toList.map fun u => .sc (.int .u8 u.toNat)
theorem OpR.bytes {P : Program} {T : Ty} {nt : Nat} {o : Oper} {s : St} {src dst e : Nat} {x : Operand} {b : ByteArray} {ts td te : TI} (hT : TyOk P T) (ho : o.op = .convert src dst x) (hx : evA s.A x = .sc (.string b))
    (h1 : T src = some ts) (k1 : ts.kind = .string) (h2 : T dst = some td) (k2 : td.kind = .slice e) (h3 : T e = some te) (k3 : te.kind = .int .u8) :
    OpR P nt o s (fun a' H' n' => a' = .list true (byL b) ∧ H' = s.H ∧ n' = s.n) := by
  intro c0 H0 n0 c act g K Q hK R
  have hev := g.ev x
  rw [hx] at hev
  have hv : act.eval x = .string b := hev.sc_inv
  have u1 : P.underlying src = some .string := by
    obtain ⟨_, d, _, hd, _, hk, _⟩ := (hT src ts h1).parts
    rw [k1] at hk
    cases d <;> first | exact hd | cases hk
  have u2 : P.underlying dst = some (.slice e) := by
    obtain ⟨_, d, _, hd, _, hk, _⟩ := (hT dst td h2).parts
    rw [k2] at hk
    cases d <;> first | (cases hk; exact hd) | cases hk
  have u3 : P.underlying e = some (.int .u8) := by
    obtain ⟨_, d, _, hd, _, hk, _⟩ := (hT e te h3).parts
    rw [k3] at hk
    cases d <;> first | (cases hk; exact hd) | cases hk
  have hrun := Lib.run_convert_string_bytes (P := P) c.w src dst e b u1 u2 u3
  refine Oper.wpR (fun d hd => by rw [hd] at ho; cases ho) ?_
  unfold Oper.wp
  have hrun2 : (execOp act.eval o).run P c.w = .ok (.value (.slice (some ⟨c.w.heap.size, 0, none⟩) b.size (grownCap c.w b.size 0 e))) (Lib.bytesWorld c.w e b) := by
    simp only [execOp, ho, hv, Sem.run_bind, hrun, Result.andThen_ok, Sem.run_pure]
  rw [hrun2]
  let W := Lib.bytesWorld c.w e b
  have hold : ∀ k, k < c.w.heap.size → W.heap[k]? = c.w.heap[k]? := fun k hk => Lib.bytesWorld_at_old c.w e b k hk
  have hsz : W.heap.size = c.w.heap.size + 1 := Lib.bytesWorld_size c.w e b
  let c' : Ctx := ⟨W, c.ρ, c.Sa, fun k => c.So k ∨ k = c.w.heap.size, c.B⟩
  have hI := g.inv
  have hle : c.Le (· < s.n) c' := ⟨fun _ _ => rfl, fun k hk => hk, fun k hk => .inl hk, fun k hk => hold k (hI.lt k hk), rfl⟩
  have hblk : ∀ o x, s.H o = some x → (c.ρ o).blk < c.w.heap.size := by
    intro o x hx
    obtain ⟨_, ⟨⟨cur, hcb, _⟩, _⟩, _⟩ := hI.obj o x hx
    exact (Array.getElem?_eq_some_iff.1 hcb).1
  have hI' : Inv c' s.H (· < s.n) := by
    refine ⟨fun o x hx => ?_, hI.sep, fun o x hx => ?_, fun k hk => ?_, by show c.B ≤ W.heap.size; have := hI.base; omega, fun k hk => ?_, hI.low, hI.glob.mono hle⟩
    · obtain ⟨h1, ⟨⟨cur, hb, hss, hc⟩, h3, h4, h5⟩, h6⟩ := hI.obj o x hx
      refine ⟨h1, ⟨⟨cur, by show W.heap[(c.ρ o).blk]? = _; rw [hold _ (hblk o x hx)]; exact hb, hss, ?_⟩, h3, h4, h5⟩, h6⟩
      intro i e he
      obtain ⟨g1, g2⟩ := hc i e he
      exact ⟨g1, fun k a ha => by obtain ⟨v, hv, hr, h7⟩ := g2 k a ha; exact ⟨v, hv, hr.mono hle (.inr (h6 e (List.mem_of_getElem? he) a (List.mem_of_getElem? ha))), h7⟩⟩
    · have h1 := hI.stab o x hx
      exact ⟨h1.1, fun h => h.elim h1.2 (fun h => by have := hblk o x hx; have h2 : (c.ρ o).blk = c.w.heap.size := h; omega)⟩
    · show k < W.heap.size
      rcases hk with hk | hk | hk
      · have := hI.lt k (.inl hk); omega
      · have := hI.lt k (.inr hk); omega
      · omega
    · rcases hk with hk | hk
      · exact hI.own k hk
      · rw [hk]; exact hI.base
  have hfr : Fr c s.H W := by
    refine ⟨rfl, rfl, ⟨rfl, ?_⟩, by omega, fun k hk _ => hold k hk⟩
    show dr c.w ≤ dr (Lib.bytesWorld c.w e b)
    exact dr_le (Nat.le_succ _)
  have hrel : VRel c' false (.list true (byL b)) (.slice (some ⟨c.w.heap.size, 0, none⟩) b.size (grownCap c.w b.size 0 e)) := by
    have hlen : (byL b).length = b.size := by unfold byL; rw [List.length_map, Array.length_toList]; rfl
    by_cases hne : byL b = []
    · rw [hne] at hlen ⊢
      have : b.size = 0 := by rw [← hlen]; rfl
      rw [this]; exact .listNil
    · have hd : ∀ (i : Nat) ee, (byL b)[i]? = some ee → i < b.size ∧ ee = .sc (.int .u8 (b.data.toList.getD i 0).toNat) := by
        intro i ee he
        unfold byL at he
        rw [List.getElem?_map] at he
        cases hq : b.data.toList[i]? with
        | none => rw [hq] at he; cases he
        | some u =>
          rw [hq] at he
          simp only [Option.map_some, Option.some.injEq] at he
          have hi : i < b.data.toList.length := (List.getElem?_eq_some_iff.1 hq).1
          refine ⟨by rw [Array.length_toList] at hi; exact hi, ?_⟩
          rw [← he, List.getD_eq_getElem?_getD, hq]; rfl
      refine .list (esz := 1) (fun i _ => .int .u8 (b.data.toList.getD i 0).toNat) hne (.inr (.inr rfl)) hlen.symm ?_ (fun i ee he => ?_) (fun i ee k a he ha => ?_) (fun i ee k a he ha => rfl) (fun i ee k a he ha => ?_)
      · rw [hlen]; exact grownCap_ge c.w b.size 0 e
      · rw [(hd i ee he).2]; rfl
      · obtain ⟨hi, rfl⟩ := hd i ee he
        cases k with
        | zero =>
          have := Lib.bytesWorld_cell c.w e b i hi
          simpa using this
        | succ k => cases ha
      · obtain ⟨hi, rfl⟩ := hd i ee he
        cases k with
        | zero => cases ha; exact .sc
        | succ k => cases ha
  exact hK c' _ s.H s.n _ ⟨rfl, rfl, rfl⟩ fun dst' hd => g.next hd hle rfl (fun k hk => hk.elim .inl (fun h => .inr (.inl (by omega)))) hfr (fun q x hx => .inr ⟨q, x, hx, rfl⟩) hI' g.solo (Nat.le_refl _) hrel .list
def Ext (P : Program) (f : Nat) (as : List AV) (r : AV) : Prop :=
  ∀ (c : Ctx) (vs : Array Value), VRels c false as vs → ∃ v, (callFunc f vs).run P c.w = .ok (.value v) c.w ∧ VRel c false r v ∧ r.Ok (fun _ => False)
theorem OpR.ext {P : Program} {nt : Nat} {s : St} {o : Oper} {x : Operand} {args : Array Operand} {ts : Array Nat} {f : Nat} {caps : List AV} {r : AV}
    (ho : o.op = .call { callee := .value x, args := args, argTypes := ts }) (hx : evA s.A x = .fn f caps) (h : Ext P f (args.toList.map (evA s.A) ++ caps) r) : OpR P nt o s (fun a' H' n' => a' = r ∧ H' = s.H ∧ n' = s.n) := by
  intro c0 H0 n0 c act g K Q hK R
  have hfx := g.ev x
  rw [hx] at hfx
  obtain ⟨cv, hcv, hcl, hcr⟩ := hfx.fn_inv
  let vs : Array Value := args.map act.eval ++ cv
  have hrel : VRels c false (args.toList.map (evA s.A) ++ caps) vs := by
    refine ⟨by simp [vs, hcl], fun i a v ha hv => ?_⟩
    rw [List.getElem?_append] at ha
    simp only [vs, Array.getElem?_append, Array.size_map] at hv
    simp only [List.length_map, Array.length_toList] at ha
    by_cases hi : i < args.size
    · rw [if_pos hi] at ha hv
      rw [List.getElem?_map] at ha
      rw [Array.getElem?_map] at hv
      cases hq : args[i]? with
      | none => simp [hq] at hv
      | some q =>
        have hq' : args.toList[i]? = some q := by simpa using hq
        simp only [hq', Option.map_some, Option.some.injEq] at ha
        simp only [hq, Option.map_some, Option.some.injEq] at hv
        subst ha hv
        exact g.ev q
    · rw [if_neg hi] at ha hv
      exact hcr _ a v ha hv
  obtain ⟨v, hr, hv, hok⟩ := h c _ hrel
  have hrun : (execOp act.eval o).run P c.w = .ok (.value v) c.w := by
    simp only [execOp, ho, resolve, hcv, Deferred.ofValue, Sem.run_bind, Sem.run_pure, Result.andThen_ok, invoke, Array.empty_append]
    exact hr
  refine Oper.wpR (fun d hd => by rw [hd] at ho; cases ho) ?_
  unfold Oper.wp
  rw [hrun]
  exact hK c r s.H s.n v ⟨rfl, rfl, rfl⟩ fun dst hd => g.next hd (.refl c) rfl (fun k hk => .inl hk) ⟨rfl, rfl, ⟨rfl, Nat.le_refl _⟩, Nat.le_refl _, fun _ _ _ => rfl⟩ (fun q x hx => .inr ⟨q, x, hx, rfl⟩) g.inv g.solo (Nat.le_refl _) hv (hok.mono fun _ h => h.elim)
theorem OpR.extM {P : Program} {nt : Nat} {s : St} {o : Oper} {x : Operand} {args : Array Operand} {ts : Array Nat} {f : Nat} {ra r : AV}
    (ho : o.op = .call { callee := .value x, args := args, argTypes := ts }) (hx : evA s.A x = .mv f ra) (h : Ext P f (ra :: args.toList.map (evA s.A)) r) : OpR P nt o s (fun a' H' n' => a' = r ∧ H' = s.H ∧ n' = s.n) := by
  intro c0 H0 n0 c act g K Q hK R
  have hfx := g.ev x
  rw [hx] at hfx
  have hru : ∃ u, act.eval x = .func (.func f) #[u] #[] ∧ VRel c false ra u := by
    generalize act.eval x = q at hfx
    cases hfx with | mv h => exact ⟨_, rfl, h⟩
  obtain ⟨u, hcv, hru⟩ := hru
  let vs : Array Value := #[u] ++ args.map act.eval
  have hrel : VRels c false (ra :: args.toList.map (evA s.A)) vs := by
    refine ⟨by simp [vs]; omega, fun i a v ha hv => ?_⟩
    cases i with
    | zero =>
      have hv' : vs[0]? = some u := by simp only [vs]; rw [Array.getElem?_append_left (by simp)]; rfl
      rw [hv'] at hv
      simp only [List.getElem?_cons_zero, Option.some.injEq] at ha hv
      subst ha hv; exact hru
    | succ i =>
      have hv' : (args.map act.eval)[i]? = some v := by
        simp only [vs] at hv
        rw [Array.getElem?_append_right (by simp)] at hv
        simpa using hv
      simp only [List.getElem?_cons_succ] at ha
      rw [List.getElem?_map] at ha
      rw [Array.getElem?_map] at hv'
      cases hq : args[i]? with
      | none => simp [hq] at hv'
      | some q =>
        have hq' : args.toList[i]? = some q := by simpa using hq
        simp only [hq', Option.map_some, Option.some.injEq] at ha
        simp only [hq, Option.map_some, Option.some.injEq] at hv'
        subst ha hv'
        exact g.ev q
  obtain ⟨v, hr, hv, hok⟩ := h c _ hrel
  have hrun : (execOp act.eval o).run P c.w = .ok (.value v) c.w := by
    simp only [execOp, ho, resolve, hcv, Deferred.ofValue, Sem.run_bind, Sem.run_pure, Result.andThen_ok, invoke, Array.append_empty]
    exact hr
  refine Oper.wpR (fun d hd => by rw [hd] at ho; cases ho) ?_
  unfold Oper.wp
  rw [hrun]
  exact hK c r s.H s.n v ⟨rfl, rfl, rfl⟩ fun dst hd => g.next hd (.refl c) rfl (fun k hk => .inl hk) ⟨rfl, rfl, ⟨rfl, Nat.le_refl _⟩, Nat.le_refl _, fun _ _ _ => rfl⟩ (fun q x hx => .inr ⟨q, x, hx, rfl⟩) g.inv g.solo (Nat.le_refl _) hv (hok.mono fun _ h => h.elim)
noncomputable def ixB (c : Nat) (l : List UInt8) (i : Nat) : Int :=
  List.rec (motive := fun _ => Nat → Int) (fun _ => -1) (fun b _ ih i => Bool.rec (motive := fun _ => Int) (ih (i + 1)) (.ofNat i) (Nat.beq b.toNat c)) l i
theorem ixB_eq (c : UInt8) : ∀ (l : List UInt8) (i : Nat), ixB c.toNat l i = if Lib.indexByte l c = -1 then -1 else Lib.indexByte l c + i := by
  intro l
  induction l with
  | nil => intro i; rfl
  | cons b l ih =>
    intro i
    show Bool.rec (motive := fun _ => Int) (ixB c.toNat l (i + 1)) (.ofNat i) (Nat.beq b.toNat c.toNat) = _
    unfold Lib.indexByte
    cases hb : Nat.beq b.toNat c.toNat with
    | true =>
      have : b = c := UInt8.toNat_inj.1 (Nat.eq_of_beq_eq_true hb)
      subst this
      simp
    | false =>
      have : (b == c) = false := by
        rw [beq_eq_false_iff_ne]; intro e; subst e; rw [Nat.beq_refl] at hb; cases hb
      show ixB c.toNat l (i + 1) = _
      rw [this, ih]
      have := Lib.indexByte_ge l c
      by_cases h : Lib.indexByte l c = -1
      · simp [h]
      · simp only [if_neg h, beq_iff_eq, Bool.false_eq_true, if_false]
        rw [if_neg (by omega)]; push_cast; omega
theorem ixB_first (s : ByteArray) (c : UInt8) : ixB c.toNat s.data.toList 0 = firstIdx s c := by
  rw [ixB_eq, Lib.firstIdx_eq]
  by_cases h : Lib.indexByte s.data.toList c = -1
  · rw [if_pos h, h]
  · rw [if_neg h]; simp
theorem ext_index {P : Program} {f : Nat} {fn : Func} (hf : P.funcs[f]? = some fn) (hname : (fn.name == "runtime.NumGoroutine") = false) (hb : fn.body.isNone = true) (hn : Extern.findNext fn = none)
    (he : Extern.find fn = some Extern.BytealgIndexByte.indexByte) (s : ByteArray) (c : Nat) (hc : c < 256) : Ext P f [.sc (.string s), .sc (.int .u8 c)] (.sc (.int .i64 (ixB c s.data.toList 0))) := by
  intro cx vs hv
  have hl := hv.len
  have h0 := hv.rel 0 (.sc (.string s)) (vs[0]'(by simp at hl; omega)) rfl (Array.getElem?_eq_getElem _)
  have h1 := hv.rel 1 (.sc (.int .u8 c)) (vs[1]'(by simp at hl; omega)) rfl (Array.getElem?_eq_getElem _)
  have e : vs = #[.string s, .int .u8 c] := by
    apply Array.ext
    · simpa using hl.symm
    · intro i hi hi2
      match i with
      | 0 => exact h0.sc_inv
      | 1 => exact h1.sc_inv
      | i + 2 => simp at hi2; omega
  subst e
  refine ⟨.int .i64 (ixB c s.data.toList 0), ?_, .sc, .sc⟩
  rw [run_callFunc_extern hf hname hb hn he, run_indexByte_string]
  have : ((c : Int).toNat.toUInt8) = UInt8.ofNat c := rfl
  rw [this, ← ixB_first]
  have : (UInt8.ofNat c).toNat = c := by simp; omega
  rw [this]; rfl
noncomputable def ixG : List AV → Option AV
  | [.sc (.string s), .sc (.int .u8 (.ofNat c))] => bif Nat.blt c 256 then some (.sc (.int .i64 (ixB c s.data.toList 0))) else none
  | _ => none
theorem ixG_ok {P : Program} {f : Nat} {fn : Func} (hf : P.funcs[f]? = some fn) (hname : (fn.name == "runtime.NumGoroutine") = false) (hb : fn.body.isNone = true) (hn : Extern.findNext fn = none)
    (he : Extern.find fn = some Extern.BytealgIndexByte.indexByte) : ∀ as r, ixG as = some r → Ext P f as r := by
  intro as r h
  unfold ixG at h
  split at h
  · rename_i s c
    cases hc : Nat.blt c 256 with
    | false => rw [hc] at h; cases h
    | true =>
      rw [hc] at h
      cases h
      exact ext_index hf hname hb hn he s c (by simpa using hc)
  · cases h
theorem OpR.notNil {P : Program} {T : Ty} {nt : Nat} {s : St} {o : Oper} {t yt et : Nat} {x : Operand} {ti : TI} {bo : BinOp} {z : Bool} (hT : TyOk P T) (ho : o.op = .binOp bo t x (.const (.slice none 0 0)) yt) (ht : T t = some ti) (hk : ti.kind = .slice et)
    (hm : nilMay (evA s.A x) = some false) (hb : bo = .eql ∧ z = false ∨ bo = .neq ∧ z = true) : OpR P nt o s (fun a' H' n' => a' = .sc (.bool z) ∧ H' = s.H ∧ n' = s.n) := by
  intro c0 H0 n0 c act g K Q hK R
  have hv := g.ev x
  obtain ⟨p, m1, m2, hv', hp'⟩ := nilMay_ok hv hm
  have hp := hp' rfl
  refine Oper.wpR (fun d hd => by rw [hd] at ho; cases ho) ?_
  unfold Oper.wp
  have hu := under_slice (hT t ti ht) hk
  have hr : (execOp act.eval o).run P c.w = .ok (.value (.bool z)) c.w := by
    obtain ⟨dst, op, type, pos, after, guard⟩ := o
    simp only at ho
    subst ho
    have hc : act.eval (.const (.slice none 0 0)) = .slice none 0 0 := rfl
    simp only [execOp, hv', hc]
    rcases hb with ⟨rfl, rfl⟩ | ⟨rfl, rfl⟩
    · have := sliceNil_run (P := P) (t := t) (x := x) (p := p) (n := m1) (m := m2) hu c.w (.const (.slice none 0 0))
      rw [Sem.run_bind, this, hp]; rfl
    · have h1 : (eqGuard .neq t x (.const (.slice none 0 0)) (.slice p m1 m2) (.slice none 0 0)).run P c.w = .ok () c.w := rfl
      have h2 : (binOp .neq t (.slice p m1 m2) (.slice none 0 0)) = (do pure (.bool (!(← Op.equalIn (9999 + 1) t (.slice p m1 m2) (.slice none 0 0)))) : Sem Value) := rfl
      have : ((do eqGuard .neq t x (.const (.slice none 0 0)) (.slice p m1 m2) (.slice none 0 0); binOp .neq t (.slice p m1 m2) (.slice none 0 0) : Sem Value)).run P c.w = .ok (.bool true) c.w := by
        rw [Sem.run_bind, h1, Result.andThen_ok, h2, Sem.run_bind, equalIn_nil hu c.w 9999, hp]; rfl
      rw [Sem.run_bind, this]; rfl
  rw [hr]
  exact hK c _ s.H s.n _ ⟨rfl, rfl, rfl⟩ fun dst hd => g.next hd (.refl c) rfl (fun k hk => .inl hk) ⟨rfl, rfl, ⟨rfl, Nat.le_refl _⟩, Nat.le_refl _, fun _ _ _ => rfl⟩ (fun q x hx => .inr ⟨q, x, hx, rfl⟩) g.inv g.solo (Nat.le_refl _) .sc .sc
end Go.Av

namespace Go.Av.X
variable [Gls]
open Go.Av
inductive Stk : Nat → Prop
inductive StkO : Nat → Op → Prop
inductive StkA : Nat → AV → Prop
noncomputable def fN (n : Nat) (k : Nat → Prop) : Prop := Nat.rec (motive := fun _ => (Nat → Prop) → Prop) (fun k => k 0) (fun m _ k => k (Nat.succ m)) n k
theorem fN_eq (n : Nat) (k : Nat → Prop) : fN n k = k n := by cases n <;> rfl
noncomputable def fZ (z : Int) (k : Int → Prop) : Prop := Int.rec (motive := fun _ => (Int → Prop) → Prop) (fun n k => fN n fun n => k (.ofNat n)) (fun n k => fN n fun n => k (.negSucc n)) z k
theorem fZ_eq (z : Int) (k : Int → Prop) : fZ z k = k z := by
  cases z with
  | ofNat n => exact fN_eq n fun n => k (.ofNat n)
  | negSucc n => exact fN_eq n fun n => k (.negSucc n)
noncomputable def fB (b : Bool) (k : Bool → Prop) : Prop := Bool.rec (motive := fun _ => (Bool → Prop) → Prop) (fun k => k false) (fun k => k true) b k
theorem fB_eq (b : Bool) (k : Bool → Prop) : fB b k = k b := by cases b <;> rfl
noncomputable def fK (x : IntKind) (k : IntKind → Prop) : Prop := IntKind.rec (motive := fun _ => (IntKind → Prop) → Prop) (fun k => k .i8) (fun k => k .i16) (fun k => k .i32) (fun k => k .i64) (fun k => k .u8) (fun k => k .u16) (fun k => k .u32) (fun k => k .u64) x k
theorem fK_eq (x : IntKind) (k : IntKind → Prop) : fK x k = k x := by cases x <;> rfl
noncomputable def fY (u : UInt8) (k : UInt8 → Prop) : Prop := fN u.toNat fun n => k (UInt8.ofNat n)
theorem fY_eq (u : UInt8) (k : UInt8 → Prop) : fY u k = k u := by unfold fY; rw [fN_eq, UInt8.ofNat_toNat]
noncomputable def fYs (l : List UInt8) : (List UInt8 → Prop) → Prop :=
  List.rec (motive := fun _ => (List UInt8 → Prop) → Prop) (fun k => k []) (fun u _ ih k => fY u fun u => ih fun l => k (u :: l)) l
theorem fYs_eq (l : List UInt8) : ∀ k : List UInt8 → Prop, fYs l k = k l := by
  induction l with
  | nil => intro k; rfl
  | cons u l ih => intro k; show fY u (fun u => fYs l fun l => k (u :: l)) = _; rw [fY_eq, ih]
noncomputable def fS (s : ByteArray) (k : ByteArray → Prop) : Prop := fYs s.data.toList fun l => k ⟨⟨l⟩⟩
theorem fS_eq (s : ByteArray) (k : ByteArray → Prop) : fS s k = k s := by unfold fS; rw [fYs_eq]
noncomputable def fV (v : Value) (k : Value → Prop) : Prop :=
  Value.rec (motive_1 := fun _ => (Value → Prop) → Prop) (motive_2 := fun _ => Unit) (motive_3 := fun _ => Unit) (fun b k => fB b fun b => k (.bool b)) (fun x z k => fK x fun x => fZ z fun z => k (.int x z)) (fun x n k => k (.float x n)) (fun x n m k => k (.complex x n m)) (fun s k => fS s fun s => k (.string s)) (fun a k => k (.pointer a)) (fun a l c k => k (.slice a l c)) (fun r k => k (.map r)) (fun r k => k (.chan r)) (fun f a b _ _ k => k (.func f a b)) (fun k => k .nilFunc) (fun t v _ k => k (.iface t v)) (fun k => k .nilIface) (fun c _ k => k (.agg c)) (fun c _ k => k (.tuple c)) (fun _ _ => ()) () (fun _ _ _ _ => ()) v k
theorem fV_eq (v : Value) (k : Value → Prop) : fV v k = k v := by
  cases v with
  | bool b => exact fB_eq b fun b => k (.bool b)
  | int x z => show fK x (fun x => fZ z fun z => k (.int x z)) = _; rw [fK_eq, fZ_eq]
  | string s => exact fS_eq s fun s => k (.string s)
  | _ => rfl
noncomputable def sh (a : AV) (k : AV → Prop) : Prop :=
  AV.rec (motive_1 := fun _ => (AV → Prop) → Prop) (motive_2 := fun _ => Unit) (fun k => k .junk) (fun v k => k (.sc v)) (fun k => k .nils) (fun c _ k => k (.agg c)) (fun c _ k => k (.tup c)) (fun o e _ k => k (.list o e)) (fun o f l k => k (.ref o f l)) (fun o i j k => k (.ptr o i j)) (fun o e j _ k => k (.elem o e j)) (fun f c _ k => k (.fn f c)) (fun o m k => k (.mref o m)) (fun b v _ k => k (.cond b v)) (fun f a _ k => k (.mv f a)) () (fun _ _ _ _ => ()) a k
theorem sh_eq (a : AV) (k : AV → Prop) : sh a k = k a := by cases a <;> rfl
noncomputable def fsp (g : AV → (AV → Prop) → Prop) (l : List AV) : (List AV → Prop) → Prop :=
  List.rec (motive := fun _ => (List AV → Prop) → Prop) (fun k => k []) (fun a _ ih k => g a fun a => ih fun l => k (a :: l)) l
theorem fsp_eq {g : AV → (AV → Prop) → Prop} (hg : ∀ a k, g a k = k a) (l : List AV) : ∀ k : List AV → Prop, fsp g l k = k l := by
  induction l with
  | nil => intro k; rfl
  | cons a l ih => intro k; show g a (fun a => fsp g l fun l => k (a :: l)) = _; rw [hg, ih]
noncomputable def fL : List AV → (List AV → Prop) → Prop := fsp sh
theorem fL_eq (l : List AV) (k : List AV → Prop) : fL l k = k l := fsp_eq sh_eq l k
noncomputable def fA (a : AV) (k : AV → Prop) : Prop :=
  AV.rec (motive_1 := fun _ => (AV → Prop) → Prop) (motive_2 := fun _ => Unit) (fun k => k .junk) (fun v k => fV v fun v => k (.sc v)) (fun k => k .nils) (fun c _ k => fL c fun c => k (.agg c)) (fun c _ k => fL c fun c => k (.tup c)) (fun o e _ k => fB o fun o => fL e fun e => k (.list o e)) (fun o f l k => fN o fun o => fN f fun f => fN l fun l => k (.ref o f l)) (fun o i j k => fN o fun o => fN i fun i => fN j fun j => k (.ptr o i j)) (fun o e j _ k => fB o fun o => sh e fun e => fN j fun j => k (.elem o e j)) (fun f c _ k => fN f fun f => fL c fun c => k (.fn f c)) (fun o m k => k (.mref o m)) (fun b v _ k => fB b fun b => sh v fun v => k (.cond b v)) (fun f a _ k => fN f fun f => sh a fun a => k (.mv f a)) () (fun _ _ _ _ => ()) a k
theorem fA_eq (a : AV) (k : AV → Prop) : fA a k = k a := by
  cases a with
  | junk => rfl
  | sc v => exact fV_eq v fun v => k (.sc v)
  | nils => rfl
  | agg c => exact fL_eq c fun c => k (.agg c)
  | tup c => exact fL_eq c fun c => k (.tup c)
  | list o e => show fB o (fun o => fL e fun e => k (.list o e)) = _; rw [fB_eq, fL_eq]
  | ref o f l => show fN o (fun o => fN f fun f => fN l fun l => k (.ref o f l)) = _; rw [fN_eq, fN_eq, fN_eq]
  | ptr o f l => show fN o (fun o => fN f fun f => fN l fun l => k (.ptr o f l)) = _; rw [fN_eq, fN_eq, fN_eq]
  | elem o e j => show fB o (fun o => sh e fun e => fN j fun j => k (.elem o e j)) = _; rw [fB_eq, sh_eq, fN_eq]
  | fn f c => show fN f (fun f => fL c fun c => k (.fn f c)) = _; rw [fN_eq, fL_eq]
  | mref o m => rfl
  | cond b v => show fB b (fun b => sh v fun v => k (.cond b v)) = _; rw [fB_eq, sh_eq]
  | mv f a => show fN f (fun f => sh a fun a => k (.mv f a)) = _; rw [fN_eq, sh_eq]
noncomputable def fO (g : AV → (AV → Prop) → Prop) (x : Obj) (k : Obj → Prop) : Prop :=
  fsp g x.es fun es => fN x.esz fun z => fB x.spent fun b => fB x.solo fun c => fB x.gone fun d => k ⟨es, z, b, c, d⟩
theorem fO_eq {g : AV → (AV → Prop) → Prop} (hg : ∀ a k, g a k = k a) (x : Obj) (k : Obj → Prop) : fO g x k = k x := by
  unfold fO; rw [fsp_eq hg, fN_eq, fB_eq, fB_eq, fB_eq]
noncomputable def fD (a : AV) : (AV → Prop) → Prop :=
  AV.rec (motive_1 := fun _ => (AV → Prop) → Prop) (motive_2 := fun _ => (List AV → Prop) → Prop) (fun k => k .junk) (fun v k => fV v fun v => k (.sc v)) (fun k => k .nils) (fun _ ih k => ih fun c => k (.agg c)) (fun _ ih k => ih fun c => k (.tup c))
    (fun o _ ih k => fB o fun o => ih fun e => k (.list o e)) (fun o f l k => fN o fun o => fN f fun f => fN l fun l => k (.ref o f l)) (fun o i j k => fN o fun o => fN i fun i => fN j fun j => k (.ptr o i j)) (fun o _ j ih k => fB o fun o => ih fun e => fN j fun j => k (.elem o e j))
    (fun f _ ih k => fN f fun f => ih fun c => k (.fn f c)) (fun o m k => k (.mref o m)) (fun b _ ih k => fB b fun b => ih fun v => k (.cond b v)) (fun f _ ih k => fN f fun f => ih fun a => k (.mv f a)) (fun k => k []) (fun _ _ ih1 ih2 k => ih1 fun a => ih2 fun l => k (a :: l)) a
noncomputable def fDs (l : List AV) : (List AV → Prop) → Prop :=
  AV.rec_1 (motive_1 := fun _ => (AV → Prop) → Prop) (motive_2 := fun _ => (List AV → Prop) → Prop) (fun k => k .junk) (fun v k => fV v fun v => k (.sc v)) (fun k => k .nils) (fun _ ih k => ih fun c => k (.agg c)) (fun _ ih k => ih fun c => k (.tup c))
    (fun o _ ih k => fB o fun o => ih fun e => k (.list o e)) (fun o f l k => fN o fun o => fN f fun f => fN l fun l => k (.ref o f l)) (fun o i j k => fN o fun o => fN i fun i => fN j fun j => k (.ptr o i j)) (fun o _ j ih k => fB o fun o => ih fun e => fN j fun j => k (.elem o e j))
    (fun f _ ih k => fN f fun f => ih fun c => k (.fn f c)) (fun o m k => k (.mref o m)) (fun b _ ih k => fB b fun b => ih fun v => k (.cond b v)) (fun f _ ih k => fN f fun f => ih fun a => k (.mv f a)) (fun k => k []) (fun _ _ ih1 ih2 k => ih1 fun a => ih2 fun l => k (a :: l)) l
theorem fD_eq (a : AV) : ∀ k, fD a k = k a := by
  refine AV.rec (motive_1 := fun a => ∀ k, fD a k = k a) (motive_2 := fun l => ∀ k : List AV → Prop, fDs l k = k l) ?_ ?_ ?_ ?_ ?_ ?_ ?_ ?_ ?_ ?_ ?_ ?_ ?_ ?_ ?_ a
  · intro k; rfl
  · intro v k; exact fV_eq v fun v => k (.sc v)
  · intro k; rfl
  · intro c ih k; exact ih fun c => k (.agg c)
  · intro c ih k; exact ih fun c => k (.tup c)
  · intro o e ih k
    show fB o (fun o => fDs e fun e => k (.list o e)) = _
    rw [fB_eq, ih]
  · intro o f l k; show fN o (fun o => fN f fun f => fN l fun l => k (.ref o f l)) = _; rw [fN_eq, fN_eq, fN_eq]
  · intro o f l k; show fN o (fun o => fN f fun f => fN l fun l => k (.ptr o f l)) = _; rw [fN_eq, fN_eq, fN_eq]
  · intro o e j ih k; show fB o (fun o => fD e fun e => fN j fun j => k (.elem o e j)) = _; rw [fB_eq, ih, fN_eq]
  · intro f c ih k; show fN f (fun f => fDs c fun c => k (.fn f c)) = _; rw [fN_eq, ih]
  · intro o m k; rfl
  · intro b v ih k; show fB b (fun b => fD v fun v => k (.cond b v)) = _; rw [fB_eq, ih]
  · intro f a ih k; show fN f (fun f => fD a fun a => k (.mv f a)) = _; rw [fN_eq, ih]
  · intro k; rfl
  · intro a l ih1 ih2 k; show fD a (fun a => fDs l fun l => k (a :: l)) = _; rw [ih1, ih2]
theorem fDs_eq (l : List AV) : ∀ k, fDs l k = k l := by
  induction l with
  | nil => intro k; rfl
  | cons a l ih => intro k; show fD a (fun a => fDs l fun l => k (a :: l)) = _; rw [fD_eq, ih]
noncomputable def stk (n : Nat) : Prop := Stk n
noncomputable def effX (id : Nat) (H : HX) (e : Eff) (k : HX → Prop) : Prop :=
  match e with
  | .none => k H
  | .new x => fO fA x fun x => storeH H id (some x) k
  | .app old x => fO sh x fun x => storeH H old none fun H => storeH H id (some x) k
theorem effX_ok {id : Nat} {H : HX} {e : Eff} {k : HX → Prop} (h : effX id H e k) : ∃ H', hpX H' = e.seq id (hpX H) ∧ k H' := by
  cases e with
  | none => exact ⟨H, rfl, h⟩
  | new x =>
    have h : fO fA x (fun x => storeH H id (some x) k) := h
    rw [fO_eq fA_eq] at h
    exact storeH_ok h
  | app old x =>
    have h : fO sh x (fun x => storeH H old none fun H => storeH H id (some x) k) := h
    rw [fO_eq sh_eq] at h
    obtain ⟨H1, h1, h⟩ := storeH_ok h
    obtain ⟨H2, h2, h⟩ := storeH_ok h
    exact ⟨H2, by rw [h2, h1]; rfl, h⟩
noncomputable def weffX (id : Nat) (H : HX) (e : WEff) (k : HX → Prop) : Prop :=
  match e with
  | .none => k H
  | .new x => fO fA x fun x => storeH H id (some x) k
  | .app old x => fO sh x fun x => storeH H old none fun H => storeH H id (some x) k
  | .set o x => fO fA x fun x => storeH H o (some x) k
theorem weffX_ok {id : Nat} {H : HX} {e : WEff} {k : HX → Prop} (h : weffX id H e k) : ∃ H', hpX H' = e.go id (hpX H) ∧ k H' := by
  cases e with
  | none => exact ⟨H, rfl, h⟩
  | new x =>
    have h : fO fA x (fun x => storeH H id (some x) k) := h
    rw [fO_eq fA_eq] at h
    rw [WEff.go_new]
    exact storeH_ok h
  | app old x =>
    have h : fO sh x (fun x => storeH H old none fun H => storeH H id (some x) k) := h
    rw [fO_eq sh_eq] at h
    obtain ⟨H1, h1, h⟩ := storeH_ok h
    obtain ⟨H2, h2, h⟩ := storeH_ok h
    exact ⟨H2, by rw [WEff.go_app, h2, h1], h⟩
  | set o x =>
    have h : fO fA x (fun x => storeH H o (some x) k) := h
    rw [fO_eq fA_eq] at h
    rw [WEff.go_set]
    exact storeH_ok h
noncomputable def setL (l : List AV) : Nat → AV → (List AV → Prop) → Prop :=
  List.rec (motive := fun _ => Nat → AV → (List AV → Prop) → Prop) (fun _ _ k => k []) (fun b l ih i a k => Nat.rec (motive := fun _ => AV → List AV → AV → (Nat → AV → (List AV → Prop) → Prop) → (List AV → Prop) → Prop) (fun _ l a _ k => k (a :: l)) (fun i _ b _ a ih k => ih i a fun l => k (b :: l)) i b l a ih k) l
theorem setL_eq (l : List AV) : ∀ (i : Nat) (a : AV) (k : List AV → Prop), setL l i a k = k (l.set i a) := by
  induction l with
  | nil => intro i a k; rfl
  | cons b l ih =>
    intro i a k
    cases i with
    | zero => rfl
    | succ i => exact ih i a fun l => k (b :: l)
theorem mincast (a b : Nat) : ((min a b : Nat) : Int) = min (a : Int) (b : Int) := by omega
abbrev RecX := Nat → List AV → HX → Nat → (AV → HX → Nat → Prop) → Prop
def RecOk (P : Program) (rec : RecX) : Prop :=
  ∀ f as H n k, rec f as H n k → ∃ r H' n', HC P f as (hpX H) n (fun r2 H2 n2 => r2 = r ∧ H2 = hpX H' ∧ n2 = n') ∧ k r H' n'
def RecOkX (P : Program) (rec : RecX) : Prop :=
  ∀ f as H n k, rec f as H n k → (∃ r H' n', HC P f as (hpX H) n (fun r2 H2 n2 => r2 = r ∧ H2 = hpX H' ∧ n2 = n') ∧ k r H' n') ∨ (∃ r, Ext P f as r ∧ k r H n)
theorem RecOk.X {P : Program} {rec : RecX} (h : RecOk P rec) : RecOkX P rec := fun f as H n k hk => .inl (h f as H n k hk)
noncomputable def extR (X : Nat → Option (List AV → Option AV)) (rec : RecX) : RecX := fun f as H n k =>
  match X f with
  | none => rec f as H n k
  | some g => match g as with
    | some r => fA r fun r => k r H n
    | none => Stk f
def ExtOk (P : Program) (X : Nat → Option (List AV → Option AV)) : Prop := ∀ f g, X f = some g → ∀ as r, g as = some r → Ext P f as r
theorem extR_ok {P : Program} {X : Nat → Option (List AV → Option AV)} {rec : RecX} (hX : ExtOk P X) (h : RecOk P rec) : RecOkX P (extR X rec) := by
  intro f as H n k hk
  unfold extR at hk
  split at hk
  · exact .inl (h _ _ _ _ _ hk)
  · rename_i g hg
    split at hk
    · rename_i r hr
      rw [fA_eq] at hk
      exact .inr ⟨r, hX _ _ hg _ _ hr, hk⟩
    · cases hk
def stC (ti : TI) (y : Obj) (e v : AV) (k : Nat) : Bool := y.solo && v.whole && Nat.beq v.cells.length ti.size && Nat.ble (k + ti.size) e.cells.length && !Nat.beq ti.size 0
noncomputable def stX (T : Ty) (H : HX) (t : Nat) (p v : AV) (K : Obj → List AV → Nat → HX → Prop) : Prop :=
  match T t with
  | some ti => match p with
    | .ptr o i k => match hpX H o with
      | some y => match y.es[i]? with
        | some e => Bool.rec (motive := fun _ => Prop) (stk 11) (fA (storeE e k v) fun e' => setL y.es i e' fun es => storeH H o (some { y with es := es }) (K y es o)) (stC ti y e v k)
        | none => stk 12
      | none => stk 13
    | p => StkA 14 p
  | none => stk 15
theorem stX_ok {T : Ty} {ev : Operand → AV} {H : HX} {t : Nat} {p x : Operand} {K : Obj → List AV → Nat → HX → Prop} (h : stX T H t (ev p) (ev x) K) :
    ∃ q z y es H', stF T ev (hpX H) t p x = some (q, z) ∧ hpX H' = upd (hpX H) q (some z) ∧ K y es q H' := by
  unfold stX at h
  split at h
  · rename_i ti hT
    split at h
    · rename_i o i k hp
      split at h
      · rename_i y hy
        split at h
        · rename_i e he
          cases hc : stC ti y e (ev x) k with
          | false => rw [hc] at h; cases h
          | true =>
            rw [hc] at h
            have h : fA (storeE e k (ev x)) (fun e' => setL y.es i e' fun es => storeH H o (some { y with es := es }) (K y es o)) := h
            rw [fA_eq, setL_eq] at h
            obtain ⟨H', h1, h2⟩ := storeH_ok h
            refine ⟨o, _, y, _, H', ?_, h1, h2⟩
            simp only [stC, Bool.and_eq_true, Nat.beq_eq, Nat.ble_eq, Bool.not_eq_true'] at hc
            obtain ⟨⟨⟨⟨g1, g2⟩, g3⟩, g4⟩, g5⟩ := hc
            unfold stF
            simp only [hT, hp, hy, he]
            rw [if_pos ⟨g1, g2, g3, g4, Nat.ne_of_beq_eq_false g5⟩]
        · cases h
      · cases h
    · cases h
  · cases h
noncomputable def callX0 (rec : RecX) (H : HX) (n : Nat) (f : AV) (as : List AV) (k : AV → HX → Nat → Prop) : Prop :=
  match f with
  | .fn f caps => fL (as ++ caps) fun as => rec f as H n k
  | .mv f a => fL (a :: as) fun as => rec f as H n k
  | f => StkA 21 f
noncomputable def cpX (T : Ty) (ev : Operand → AV) (H : HX) (n : Nat) (t : Nat) (d x : Operand) (k : AV → HX → Nat → Prop) : Prop :=
  match sliceTy T t with
  | some te => match srcF (hpX H) (ev x) with
    | some xs => match ev d with
      | .ref q off len => match hpX H q with
        | some y => if min xs.length len ≠ 0 ∧ off + len ≤ y.es.length ∧ y.esz = te.size then
            (if xs.all (fun e => e.cells.length == te.size) = true then
              fN (min xs.length len) fun m => fO sh { y with es := splice y.es off (xs.take m) } fun z => storeH H q (some z) fun H => k (.sc (goInt (m : Nat))) H n else stk 31) else stk 32
        | none => stk 33
      | _ => stk 34
    | none => stk 35
  | none => stk 36
theorem OpR.trunc {P : Program} {nt : Nat} {o : Oper} {A : Nat → AV} {H : Heap} {n q : Nat} {y : Obj} {R : AV → Heap → Nat → Prop} (hy : H q = some y) (m : Nat) (h : OpR P nt o ⟨A, upd H q (some { y with es := y.es.take m }), n⟩ R) : OpR P nt o ⟨A, H, n⟩ R :=
  fun c0 H0 n0 c act g => h c0 H0 n0 c act (g.trunc hy m)
noncomputable def cutX (ev : Operand → AV) (H : HX) (n : Nat) (op : Op) (k : HX → Prop) : Prop :=
  match op with
  | .call { callee := .builtin .append, args := ⟨[s, _]⟩, argTypes := _ } => match ev s with
    | .ref o 0 m => match hpX H o with
      | some y => fO sh { y with es := y.es.take m } fun y => storeH H o (some y) k
      | none => stk 42
    | a => fA a (StkA 43)
  | op => StkO n op
noncomputable def mkX (T : Ty) (F : FX) (n : Nat) (op : Op) (H : HX) (no : Prop) (k : AV → HX → Nat → Prop) : Prop :=
  match mkF T (evA (frX F)) (hpX H) n op with
  | some (a, e) => fA a fun a => effX n H e fun H => fN (n + 1) fun n => k a H n
  | none => no
noncomputable def exX (T : Ty) (F : FX) (H : HX) (n : Nat) (op : Op) (no : Prop) (k : AV → HX → Nat → Prop) : Prop :=
  match op with
  | .convert s d x => match T s, T d with
    | some ts, some td => match ts.kind, td.kind with
      | .string, .slice e => match T e with
        | some te => match te.kind with
          | .int .u8 => match evA (frX F) x with
            | .sc (.string b) => fD (.list true (byL b)) fun a => k a H n
            | _ => no
          | _ => no
        | none => no
      | _, _ => no
    | _, _ => no
  | .binOp bo t x (.const (.slice none 0 0)) _ => match T t with
    | some ti => match ti.kind with
      | .slice _ => match nilMay (evA (frX F) x) with
        | some false => match bo with
          | .eql => k (.sc (.bool false)) H n
          | .neq => k (.sc (.bool true)) H n
          | _ => no
        | _ => no
      | _ => no
    | none => no
  | _ => no
noncomputable def opG (T : Ty) (rec : RecX) (F : FX) (H : HX) (n : Nat) (o : Oper) (k : AV → HX → Nat → Prop) : Prop :=
  match o.op with
  | .move x => sh (evA (frX F) x) fun a => k a H n
  | .assign x => sh (evA (frX F) x) fun a => k a H n
  | .store t p x => stX T H t (evA (frX F) p) (evA (frX F) x) fun _ _ _ H => k (.sc undef) H n
  | .call { callee := .value x, args := args, argTypes := _ } => callX0 rec H n (evA (frX F) x) (args.toList.map (evA (frX F))) k
  | .call { callee := .builtin .copy, args := ⟨[d, x]⟩, argTypes := ⟨[t, _]⟩ } => cpX T (evA (frX F)) H n t d x k
  | op => match pX T (evG (frX F)) (hpX H) op with
    | some a => fA a fun a => k a H n
    | none => mkX T F n op H (exX T F H n op (cutX (evA (frX F)) H n op fun H => mkX T F n op H (StkO n op) k) k) k
theorem evG_eq {A B : Nat → AV} (h : evA A = evA B) : evG A = evG B := by
  funext x
  cases x with
  | global g => rfl
  | tmp t => exact congrFun h (.tmp t)
  | const v => exact congrFun h (.const v)
  | func f => exact congrFun h (.func f)
theorem mkX_ok {P : Program} {T : Ty} {nt : Nat} {F : FX} {H : HX} {n : Nat} {o : Oper} {no : Prop} {k : AV → HX → Nat → Prop} {A : Nat → AV} (hA : evA A = evA (frX F)) (hT : TyOk P T) (h : mkX T F n o.op H no k) :
    no ∨ ∃ a H' n', OpR P nt o ⟨A, hpX H, n⟩ (fun a' H2 n2 => a' = a ∧ H2 = hpX H' ∧ n2 = n') ∧ k a H' n' := by
  unfold mkX at h
  rw [← hA] at h
  split at h
  · rename_i hm
    rw [fA_eq] at h
    obtain ⟨H', e1, h⟩ := effX_ok h
    rw [fN_eq] at h
    obtain ⟨h1, h2⟩ := mkF_ok hm
    refine .inr ⟨_, _, _, ?_, h⟩
    rw [e1]
    exact OpR.mk hT (s := ⟨A, hpX H, n⟩) h1 h2
  · exact .inl h
theorem cutX_ok {ev : Operand → AV} {H : HX} {n : Nat} {op : Op} {k : HX → Prop} (h : cutX ev H n op k) : ∃ q y m H', hpX H q = some y ∧ hpX H' = upd (hpX H) q (some { y with es := y.es.take m }) ∧ k H' := by
  unfold cutX at h
  split at h
  · split at h
    · split at h
      · rename_i hy
        rw [fO_eq sh_eq] at h
        obtain ⟨H', h1, h2⟩ := storeH_ok h
        exact ⟨_, _, _, H', hy, h1, h2⟩
      · cases h
    · rw [fA_eq] at h; cases h
  · cases h
theorem exX_ok {P : Program} {T : Ty} {nt : Nat} {F : FX} {H : HX} {n : Nat} {o : Oper} {no : Prop} {k : AV → HX → Nat → Prop} {A : Nat → AV} (hA : evA A = evA (frX F)) (hT : TyOk P T) (h : exX T F H n o.op no k) :
    (∃ a H' n', OpR P nt o ⟨A, hpX H, n⟩ (fun a' H2 n2 => a' = a ∧ H2 = hpX H' ∧ n2 = n') ∧ k a H' n') ∨ no := by
  unfold exX at h
  split at h
  · rename_i s d x ho
    split at h
    · rename_i ts td h1 h2
      split at h
      · rename_i e k1 k2
        split at h
        · rename_i te h3
          split at h
          · rename_i k3
            split at h
            · rename_i b hx
              rw [fD_eq] at h
              exact .inl ⟨_, _, _, OpR.bytes (s := ⟨A, hpX H, n⟩) hT ho (by show evA A x = _; rw [hA]; exact hx) h1 k1 h2 k2 h3 k3, h⟩
            · exact .inr h
          · exact .inr h
        · exact .inr h
      · exact .inr h
    · exact .inr h
  · rename_i bo t x yt ho
    split at h
    · rename_i ti ht
      split at h
      · rename_i et hk
        split at h
        · rename_i hm
          rw [← hA] at hm
          split at h
          · exact .inl ⟨_, _, _, OpR.notNil (s := ⟨A, hpX H, n⟩) hT ho ht hk hm (.inl ⟨rfl, rfl⟩), h⟩
          · exact .inl ⟨_, _, _, OpR.notNil (s := ⟨A, hpX H, n⟩) hT ho ht hk hm (.inr ⟨rfl, rfl⟩), h⟩
          · exact .inr h
        · exact .inr h
      · exact .inr h
    · exact .inr h
  · exact .inr h
theorem opG_ok {P : Program} {T : Ty} {rec : RecX} {nt : Nat} {F : FX} {H : HX} {n : Nat} {o : Oper} {k : AV → HX → Nat → Prop} {A : Nat → AV} (hA : evA A = evA (frX F)) (hT : TyOk P T) (hr : RecOkX P rec) (h : opG T rec F H n o k) :
    ∃ a H' n', OpR P nt o ⟨A, hpX H, n⟩ (fun a' H2 n2 => a' = a ∧ H2 = hpX H' ∧ n2 = n') ∧ k a H' n' := by
  unfold opG at h
  simp only [← hA, ← evG_eq hA] at h
  split at h
  · rename_i x ho
    rw [sh_eq] at h
    exact ⟨_, _, _, OpR.pu hT (s := ⟨A, hpX H, n⟩) (by rw [ho]; exact .move), h⟩
  · rename_i x ho
    rw [sh_eq] at h
    exact ⟨_, _, _, OpR.pu hT (s := ⟨A, hpX H, n⟩) (by rw [ho]; exact .assign), h⟩
  · rename_i t p x ho
    obtain ⟨q, z, y, es, H', h1, h2, h3⟩ := stX_ok h
    obtain ⟨i, k', y, e, ti, g1, g2, g3, g4, g5, g6, g7, g8, g9, rfl⟩ := stF_ok h1
    refine ⟨_, _, _, ?_, h3⟩
    rw [h2]
    refine OpR.st hT (s := ⟨A, hpX H, n⟩) ?_
    rw [ho]
    exact .store g1 g2 g3 g4 g5 g6 g7 g8 g9
  · rename_i x args ts ho
    unfold callX0 at h
    split at h
    · rename_i f caps hx
      rw [fL_eq] at h
      rcases hr _ _ _ _ _ h with ⟨r, H', n', h1, h2⟩ | ⟨r, h1, h2⟩
      · exact ⟨r, H', n', OpR.call (s := ⟨A, hpX H, n⟩) ho hx h1, h2⟩
      · exact ⟨r, H, n, OpR.ext (s := ⟨A, hpX H, n⟩) ho hx h1, h2⟩
    · rename_i f ra hx
      rw [fL_eq] at h
      rcases hr _ _ _ _ _ h with ⟨r, H', n', h1, h2⟩ | ⟨r, h1, h2⟩
      · exact ⟨r, H', n', OpR.callM (s := ⟨A, hpX H, n⟩) ho hx h1, h2⟩
      · exact ⟨r, H, n, OpR.extM (s := ⟨A, hpX H, n⟩) ho hx h1, h2⟩
    · cases h
  · rename_i d x t t' ho
    unfold cpX at h
    split at h
    · rename_i hs
      obtain ⟨ti, et, h1, h2, h3⟩ := sliceTy_ok hs
      split at h
      · rename_i hx
        split at h
        · rename_i hd
          split at h
          · rename_i hH
            split at h
            · rename_i hh
              obtain ⟨g1, g2, g3⟩ := hh
              split at h
              · rename_i hall
                rw [fN_eq, fO_eq sh_eq] at h
                obtain ⟨H', e1, e2⟩ := storeH_ok h
                refine ⟨_, _, _, ?_, e2⟩
                rw [e1]
                have := OpR.copy (nt := nt) hT (s := ⟨A, hpX H, n⟩) ho hd hH g2 (srcF_ok hx) g1 h1 h2 h3 (fun e he => by simpa using List.all_eq_true.1 hall e he) g3
                simp only [← mincast] at this
                exact this
              · cases h
            · cases h
          · cases h
        · cases h
      · cases h
    · cases h
  · split at h
    · rename_i hp
      rw [fA_eq] at h
      exact ⟨_, _, _, OpR.puG hT (s := ⟨A, hpX H, n⟩) (pX_ok hp), h⟩
    · rename_i ho _
      rcases mkX_ok (nt := nt) hA hT h with h | h
      · rcases exX_ok (nt := nt) hA hT h with h | h
        · exact h
        obtain ⟨q, y, m, H1, hy, hH, h⟩ := cutX_ok h
        rcases mkX_ok (nt := nt) hA hT h with h | ⟨a, H', n', h1, h2⟩
        · cases h
        · rw [hH] at h1
          exact ⟨a, H', n', OpR.trunc hy m h1, h2⟩
      · exact h
abbrev KA := AV → HX → Nat → Prop
abbrev OPX := Ty → RecX → FX → HX → Nat → Oper → KA → Prop
noncomputable def shC (b : Bool) (v : AV) (k : AV → Prop) : Prop := Bool.rec (motive := fun _ => AV → (AV → Prop) → Prop) (fun _ k => k .junk) sh b v k
noncomputable def shS (a : AV) (k : AV → Prop) : Prop :=
  AV.rec (motive_1 := fun _ => (AV → Prop) → Prop) (motive_2 := fun _ => Unit) (fun k => k .junk) (fun v k => k (.sc v)) (fun k => k .nils) (fun c _ k => k (.agg c)) (fun c _ k => k (.tup c)) (fun o e _ k => k (.list o e)) (fun o f l k => k (.ref o f l)) (fun o i j k => k (.ptr o i j)) (fun o e j _ k => k (.elem o e j)) (fun f c _ k => k (.fn f c)) (fun o m k => k (.mref o m)) (fun b v _ k => shC b v k) (fun f a _ k => k (.mv f a)) () (fun _ _ _ _ => ()) a k
theorem shS_eq (a : AV) (k : AV → Prop) : shS a k = k (strip a) := by
  cases a with
  | cond b v => cases b with
    | true => exact sh_eq v k
    | false => rfl
  | _ => rfl
noncomputable def evKT (t : Nat) (F : FX) (k : AV → Prop) : Prop := shS (frX F t) k
noncomputable def evKC (v : Value) (_ : FX) (k : AV → Prop) : Prop := sh (ofConst v) k
noncomputable def evKG (g : Nat) (_ : FX) (k : AV → Prop) : Prop := k (.sc (.pointer (some ⟨g, 0, none⟩)))
noncomputable def evKF (f : Nat) (_ : FX) (k : AV → Prop) : Prop := k (.fn f [])
noncomputable def evK (F : FX) (x : Operand) (k : AV → Prop) : Prop := Operand.rec (motive := fun _ => FX → (AV → Prop) → Prop) evKT evKC evKG evKF x F k
theorem evK_eq (F : FX) (x : Operand) (k : AV → Prop) : evK F x k = k (evA (frX F) x) := by
  cases x with
  | tmp t => exact shS_eq _ k
  | const v => exact sh_eq _ k
  | _ => rfl
noncomputable def isIntV (v : Value) (k : IntKind → Int → Prop) (no : Prop) : Prop :=
  Value.rec (motive_1 := fun _ => (IntKind → Int → Prop) → Prop → Prop) (motive_2 := fun _ => Unit) (motive_3 := fun _ => Unit) (fun _ _ no => no) (fun x z k no => k x z) (fun _ _ _ no => no) (fun _ _ _ _ no => no) (fun _ _ no => no) (fun _ _ no => no) (fun _ _ _ _ no => no) (fun _ _ no => no) (fun _ _ no => no) (fun _ _ _ _ _ _ no => no) (fun _ no => no) (fun _ _ _ _ no => no) (fun _ no => no) (fun _ _ _ no => no) (fun _ _ _ no => no) (fun _ _ => ()) () (fun _ _ _ _ => ()) v k no
noncomputable def isInt (a : AV) (k : IntKind → Int → Prop) (no : Prop) : Prop :=
  AV.rec (motive_1 := fun _ => (IntKind → Int → Prop) → Prop → Prop) (motive_2 := fun _ => Unit) (fun _ no => no) (fun v k no => isIntV v k no) (fun _ no => no) (fun _ _ _ no => no) (fun _ _ _ no => no) (fun _ _ _ _ no => no) (fun _ _ _ _ no => no) (fun _ _ _ _ no => no) (fun _ _ _ _ _ no => no) (fun _ _ _ _ no => no) (fun _ _ _ no => no) (fun _ _ _ _ no => no) (fun _ _ _ _ no => no) () (fun _ _ _ _ => ()) a k no
theorem isInt_ok {a : AV} {k : IntKind → Int → Prop} {no : Prop} (h : isInt a k no) : no ∨ ∃ x z, a = .sc (.int x z) ∧ k x z := by
  cases a with
  | sc v => cases v with
    | int x z => exact .inr ⟨x, z, rfl, h⟩
    | _ => exact .inl h
  | _ => exact .inl h
noncomputable def isBoolV (v : Value) (k : Bool → Prop) (no : Prop) : Prop :=
  Value.rec (motive_1 := fun _ => (Bool → Prop) → Prop → Prop) (motive_2 := fun _ => Unit) (motive_3 := fun _ => Unit) (fun b k no => k b) (fun _ _ _ no => no) (fun _ _ _ no => no) (fun _ _ _ _ no => no) (fun _ _ no => no) (fun _ _ no => no) (fun _ _ _ _ no => no) (fun _ _ no => no) (fun _ _ no => no) (fun _ _ _ _ _ _ no => no) (fun _ no => no) (fun _ _ _ _ no => no) (fun _ no => no) (fun _ _ _ no => no) (fun _ _ _ no => no) (fun _ _ => ()) () (fun _ _ _ _ => ()) v k no
noncomputable def isBool (a : AV) (k : Bool → Prop) (no : Prop) : Prop :=
  AV.rec (motive_1 := fun _ => (Bool → Prop) → Prop → Prop) (motive_2 := fun _ => Unit) (fun _ no => no) (fun v k no => isBoolV v k no) (fun _ no => no) (fun _ _ _ no => no) (fun _ _ _ no => no) (fun _ _ _ _ no => no) (fun _ _ _ _ no => no) (fun _ _ _ _ no => no) (fun _ _ _ _ _ no => no) (fun _ _ _ _ no => no) (fun _ _ _ no => no) (fun _ _ _ _ no => no) (fun _ _ _ _ no => no) () (fun _ _ _ _ => ()) a k no
theorem isBool_ok {a : AV} {k : Bool → Prop} {no : Prop} (h : isBool a k no) : no ∨ ∃ b, a = .sc (.bool b) ∧ k b := by
  cases a with
  | sc v => cases v with
    | bool b => exact .inr ⟨b, rfl, h⟩
    | _ => exact .inl h
  | _ => exact .inl h
noncomputable def isPtr (a : AV) (k : Nat → Nat → Nat → Prop) (el : Bool → AV → Nat → Prop) (no : Prop) : Prop :=
  AV.rec (motive_1 := fun _ => (Nat → Nat → Nat → Prop) → (Bool → AV → Nat → Prop) → Prop → Prop) (motive_2 := fun _ => Unit) (fun _ _ no => no) (fun _ _ _ no => no) (fun _ _ no => no) (fun _ _ _ _ no => no) (fun _ _ _ _ no => no) (fun _ _ _ _ _ no => no) (fun _ _ _ _ _ no => no) (fun o i j k el no => k o i j) (fun o e j _ k el no => el o e j) (fun _ _ _ _ _ no => no) (fun _ _ _ _ no => no) (fun _ _ _ _ _ no => no) (fun _ _ _ _ _ no => no) () (fun _ _ _ _ => ()) a k el no
theorem isPtr_ok {a : AV} {k : Nat → Nat → Nat → Prop} {el : Bool → AV → Nat → Prop} {no : Prop} (h : isPtr a k el no) : no ∨ (∃ o i j, a = .ptr o i j ∧ k o i j) ∨ (∃ o e j, a = .elem o e j ∧ el o e j) := by
  cases a with
  | ptr o i j => exact .inr (.inl ⟨o, i, j, rfl, h⟩)
  | elem o e j => exact .inr (.inr ⟨o, e, j, rfl, h⟩)
  | _ => exact .inl h
noncomputable def nthL {α : Type} (l : List α) : Nat → (α → Prop) → Prop → Prop :=
  List.rec (motive := fun _ => Nat → (α → Prop) → Prop → Prop) (fun _ _ no => no) (fun a _ ih i k no => Nat.rec (motive := fun _ => α → (Nat → (α → Prop) → Prop → Prop) → (α → Prop) → Prop → Prop) (fun a _ k _ => k a) (fun i _ _ ih k no => ih i k no) i a ih k no) l
theorem nthL_ok {α : Type} (l : List α) : ∀ (i : Nat) (k : α → Prop) (no : Prop), nthL l i k no → no ∨ ∃ a, l[i]? = some a ∧ k a := by
  induction l with
  | nil => intro i k no h; exact .inl h
  | cons a l ih =>
    intro i k no h
    cases i with
    | zero => exact .inr ⟨a, rfl, h⟩
    | succ i =>
      rcases ih i k no h with h | ⟨b, h1, h2⟩
      · exact .inl h
      · exact .inr ⟨b, by rw [List.getElem?_cons_succ]; exact h1, h2⟩
noncomputable def cellsX (e : AV) (k : List AV → Prop) : Prop :=
  AV.rec (motive_1 := fun _ => (List AV → Prop) → Prop) (motive_2 := fun _ => Unit) (fun k => k [.junk]) (fun v k => k [.sc v]) (fun k => k [.nils]) (fun c _ k => k c) (fun c _ k => k [.tup c]) (fun o e _ k => k [.list o e]) (fun o f l k => k [.ref o f l]) (fun o i j k => k [.ptr o i j]) (fun o e j _ k => k [.elem o e j]) (fun f c _ k => k [.fn f c]) (fun o m k => k [.mref o m]) (fun b v _ k => k [.cond b v]) (fun f a _ k => k [.mv f a]) () (fun _ _ _ _ => ()) e k
theorem cellsX_eq (e : AV) (k : List AV → Prop) : cellsX e k = k e.cells := by cases e <;> rfl
noncomputable def rawT (t : Nat) (F : FX) : AV := frX F t
noncomputable def rawC (v : Value) (_ : FX) : AV := ofConst v
noncomputable def rawG (g : Nat) (_ : FX) : AV := .sc (.pointer (some ⟨g, 0, none⟩))
noncomputable def rawF (f : Nat) (_ : FX) : AV := .fn f []
noncomputable def rawX (F : FX) (x : Operand) : AV := Operand.rec (motive := fun _ => FX → AV) rawT rawC rawG rawF x F
theorem raw_np {F : FX} {x : Operand} {v : AV} (h : rawX F x = v) (hv : ∀ b w, v ≠ .cond b w) : evA (frX F) x = v := by
  cases x with
  | tmp t =>
    show strip (frX F t) = _
    rw [show frX F t = v from h]
    cases v <;> first | rfl | exact absurd rfl (hv _ _)
  | _ => exact h
theorem raw_sc {F : FX} {x : Operand} {v : Value} (h : rawX F x = .sc v) : evA (frX F) x = .sc v := by
  cases x with
  | tmp t => show strip (frX F t) = _; rw [show frX F t = .sc v from h]; rfl
  | _ => exact h
noncomputable def kHn (k : KA) (H : HX) (n : Nat) (a : AV) : Prop := k a H n
noncomputable def kMove (x : Operand) : OPX := fun _ _ F H n _ k => evK F x fun a => k a H n
noncomputable def kPick (c a b : Operand) : OPX := fun T rec F H n o k => evK F c fun v => isBool v (fun t => Bool.rec (motive := fun _ => Prop) (evK F b fun a => k a H n) (evK F a fun a => k a H n) t) (opG T rec F H n o k)
noncomputable def kMk1 (_ : Nat) : OPX := fun T rec F H n o k => mkX T F n o.op H (opG T rec F H n o k) k
noncomputable def isAg (a : AV) (k : List AV → Prop) (lf : Prop) : Prop :=
  AV.rec (motive_1 := fun _ => (List AV → Prop) → Prop → Prop) (motive_2 := fun _ => Unit) (fun _ lf => lf) (fun _ _ lf => lf) (fun _ lf => lf) (fun c _ k _ => k c) (fun _ _ _ lf => lf) (fun _ _ _ _ lf => lf) (fun _ _ _ _ lf => lf) (fun _ _ _ _ lf => lf) (fun _ _ _ _ _ lf => lf) (fun _ _ _ _ lf => lf) (fun _ _ _ lf => lf) (fun _ _ _ _ lf => lf) (fun _ _ _ _ lf => lf) () (fun _ _ _ _ => ()) a k lf
theorem isAg_ok {a : AV} {k : List AV → Prop} {lf : Prop} (h : isAg a k lf) : (∃ c, a = .agg c ∧ k c) ∨ ((∀ c, a ≠ .agg c) ∧ lf) := by
  cases a with
  | agg c => exact .inl ⟨c, rfl, h⟩
  | _ => exact .inr ⟨(fun _ h => by cases h), h⟩
noncomputable def shTo (k : AV → Prop) (a : AV) : Prop := sh a k
noncomputable def ld3 (j : Nat) (k : AV → Prop) (no : Prop) (c : List AV) : Prop := nthL c j (shTo k) no
noncomputable def fATo (k : AV → Prop) (a : AV) : Prop := fA a k
noncomputable def ld4 (ti : TI) (e : AV) (j : Nat) (k : AV → Prop) (no : Prop) (c : List AV) : Prop :=
  Bool.rec (motive := fun _ => Prop) (Option.rec (motive := fun _ => Prop) no (fATo k) (loadE ti e j)) (k e) (Nat.beq j 0 && Nat.beq c.length ti.size)
noncomputable def ld2 (ti : TI) (j : Nat) (k : AV → Prop) (no : Prop) (e : AV) : Prop :=
  Bool.rec (motive := fun _ => Prop) (cellsX e (ld3 j k no)) (isAg e (ld4 ti e j k no) no) ti.kind.isAgg
noncomputable def ldY (ti : TI) (i j : Nat) (k : AV → Prop) (no : Prop) (y : Obj) : Prop := nthL y.es i (ld2 ti j k no) no
noncomputable def ldP (H : HX) (ti : TI) (k : AV → Prop) (no : Prop) (o i j : Nat) : Prop := Option.rec (motive := fun _ => Prop) no (ldY ti i j k no) (hpX H o)
noncomputable def ldE (ti : TI) (k : AV → Prop) (no : Prop) (_ : Bool) (e : AV) (j : Nat) : Prop := ld2 ti j k no e
noncomputable def kLd1 (x : Operand) (T : Ty) (rec : RecX) (F : FX) (H : HX) (n : Nat) (o : Oper) (k : KA) (ti : TI) : Prop :=
  isPtr (rawX F x) (ldP H ti (kHn k H n) (opG T rec F H n o k)) (ldE ti (kHn k H n) (opG T rec F H n o k)) (opG T rec F H n o k)
noncomputable def kLoad (t : Nat) (x : Operand) : OPX := fun T rec F H n o k => Option.rec (motive := fun _ => Prop) (opG T rec F H n o k) (kLd1 x T rec F H n o k) (T t)
noncomputable def lfV : Value → Bool :=
  Value.rec (motive_1 := fun _ => Bool) (motive_2 := fun _ => Unit) (motive_3 := fun _ => Unit) (fun _ => true) (fun _ _ => true) (fun _ _ => true) (fun _ _ _ => true) (fun _ => true) (fun _ => true) (fun _ _ _ => true) (fun _ => true) (fun _ => true) (fun _ _ _ _ _ => true) (true) (fun _ _ _ => true) (true) (fun _ _ => false) (fun _ _ => false) (fun _ _ => ()) () (fun _ _ _ _ => ())
noncomputable def lfA : AV → Bool :=
  AV.rec (motive_1 := fun _ => Bool) (motive_2 := fun _ => Unit) (false) (fun v => lfV v) (true) (fun _ _ => false) (fun _ _ => false) (fun _ _ _ => true) (fun _ _ _ => true) (fun _ _ _ => true) (fun _ _ _ _ => true) (fun _ _ _ => true) (fun _ _ => false) (fun _ _ _ => false) (fun _ _ _ => true) () (fun _ _ _ _ => ())
theorem lfV_eq (v : Value) : lfV v = v.oneCell' := by cases v <;> rfl
theorem lfA_ok {a : AV} (h : lfA a = true) : a.whole = true ∧ a.cells = [a] ∧ ∀ xs, a ≠ .agg xs := by
  cases a <;> first | (cases h; done) | (refine ⟨?_, rfl, fun _ h => by cases h⟩; first | rfl | (show Value.oneCell' _ = true; rw [← lfV_eq]; exact h))
noncomputable def putL (l : List AV) : Nat → AV → (List AV → Prop) → Prop → Prop :=
  List.rec (motive := fun _ => Nat → AV → (List AV → Prop) → Prop → Prop) (fun _ _ _ no => no) (fun b l ih i a k no => Nat.rec (motive := fun _ => AV → List AV → AV → (Nat → AV → (List AV → Prop) → Prop → Prop) → (List AV → Prop) → Prop → Prop) (fun _ l a _ k _ => k (a :: l)) (fun i _ b _ a ih k no => ih i a (fun l => k (b :: l)) no) i b l a ih k no) l
theorem putL_ok (l : List AV) : ∀ (i : Nat) (a : AV) (k : List AV → Prop) (no : Prop), putL l i a k no → no ∨ (i < l.length ∧ k (l.set i a)) := by
  induction l with
  | nil => intro i a k no h; exact .inl h
  | cons b l ih =>
    intro i a k no h
    cases i with
    | zero => exact .inr ⟨by simp, h⟩
    | succ i =>
      rcases ih i a (fun l => k (b :: l)) no h with h | ⟨h1, h2⟩
      · exact .inl h
      · exact .inr ⟨by simpa using h1, h2⟩
theorem splice_one (l : List AV) (j : Nat) (v : AV) (h : j < l.length) : splice l j [v] = l.set j v := by
  apply List.ext_getElem?
  intro i
  rw [getElem?_splice (by simp; omega), List.getElem?_set]
  by_cases hi : j = i
  · subst hi; rw [if_pos ⟨Nat.le_refl _, by simp⟩, if_pos rfl, if_pos h]; simp
  · rw [if_neg (by simp; omega), if_neg hi]
noncomputable def stE (ti : TI) (e : AV) (j : Nat) (v : AV) (k : AV → Prop) (no : Prop) : Prop :=
  isAg v (fun xs => isAg e (fun cs => Bool.rec (motive := fun _ => Prop) no (k v) (Nat.beq j 0 && (Nat.beq xs.length ti.size && (Nat.beq cs.length ti.size && !Nat.beq ti.size 0)))) no)
    (Bool.rec (motive := fun _ => Prop) no (isAg e (fun cs => putL cs j v (fun cs => k (.agg cs)) no) (Bool.rec (motive := fun _ => Prop) no (k v) (Nat.beq j 0))) (lfA v && Nat.beq ti.size 1))
theorem cells_agg (a : AV) (h : ∀ c, a ≠ .agg c) : a.cells = [a] := by cases a <;> first | rfl | exact absurd rfl (h _)
theorem stE_ok {ti : TI} {e : AV} {j : Nat} {v : AV} {k : AV → Prop} {no : Prop} (h : stE ti e j v k no) : no ∨ (v.whole = true ∧ v.cells.length = ti.size ∧ j + ti.size ≤ e.cells.length ∧ ti.size ≠ 0 ∧ k (storeE e j v)) := by
  unfold stE at h
  have h' := isAg_ok h; clear h
  rcases h' with ⟨xs, rfl, h⟩ | ⟨hv, h⟩
  · have h' := isAg_ok h; clear h
    rcases h' with ⟨cs, rfl, h⟩ | ⟨_, h⟩
    · have h0 : Bool.rec (motive := fun _ => Prop) no (k (.agg xs)) (Nat.beq j 0 && (Nat.beq xs.length ti.size && (Nat.beq cs.length ti.size && !Nat.beq ti.size 0))) := h
      clear h
      have h := h0; clear h0
      cases hc : (Nat.beq j 0 && (Nat.beq xs.length ti.size && (Nat.beq cs.length ti.size && !Nat.beq ti.size 0))) with
      | false => rw [hc] at h; exact .inl h
      | true =>
        rw [hc] at h
        simp only [Bool.and_eq_true, Nat.beq_eq, Bool.not_eq_true'] at hc
        obtain ⟨rfl, h1, h2, h3⟩ := hc
        refine .inr ⟨rfl, h1, by show 0 + ti.size ≤ cs.length; omega, Nat.ne_of_beq_eq_false h3, ?_⟩
        have : storeE (.agg cs) 0 (.agg xs) = .agg xs := by
          show (if (0 : Nat) == 0 && xs.length == cs.length then AV.agg xs else .agg (splice cs 0 xs)) = _
          rw [if_pos (by simp; omega)]
        rw [this]; exact h
    · exact .inl h
  · cases hl : (lfA v && Nat.beq ti.size 1) with
    | false => rw [hl] at h; exact .inl h
    | true =>
      rw [hl] at h
      simp only [Bool.and_eq_true, Nat.beq_eq] at hl
      obtain ⟨l1, l2, l3⟩ := lfA_ok hl.1
      have h : isAg e (fun cs => putL cs j v (fun cs => k (.agg cs)) no) (Bool.rec (motive := fun _ => Prop) no (k v) (Nat.beq j 0)) := h
      have h' := isAg_ok h; clear h
      rcases h' with ⟨cs, rfl, g⟩ | ⟨he, g⟩
      · rcases putL_ok _ _ _ _ _ g with g | ⟨h1, h2⟩
        · exact .inl g
        · refine .inr ⟨l1, by rw [l2, hl.2]; rfl, by show j + ti.size ≤ cs.length; omega, by omega, ?_⟩
          have : storeE (.agg cs) j v = .agg (splice cs j [v]) := by
            cases v <;> first | rfl | exact absurd rfl (hv _)
          rw [this, splice_one cs j v h1]; exact h2
      · cases hj : Nat.beq j 0 with
        | false => rw [hj] at g; exact .inl g
        | true =>
          rw [hj] at g
          have := Nat.eq_of_beq_eq_true hj
          subst this
          refine .inr ⟨l1, by rw [l2, hl.2]; rfl, by rw [cells_agg e he, hl.2]; simp, by omega, ?_⟩
          have : storeE e 0 v = v := by
            have : storeE e 0 v = v.cells.headD e := by cases e <;> first | rfl | exact absurd rfl (he _)
            rw [this, l2]; rfl
          rw [this]; exact g
noncomputable def stP (H : HX) (o i : Nat) (y : Obj) (K : HX → Prop) (e' : AV) : Prop := setL y.es i e' fun es => storeH H o (some { y with es := es }) K
noncomputable def stY (ti : TI) (H : HX) (o i j : Nat) (v : AV) (K : HX → Prop) (no : Prop) (y : Obj) : Prop :=
  Bool.rec (motive := fun _ => Prop) no (nthL y.es i (fun e => stE ti e j v (stP H o i y K) no) no) y.solo
noncomputable def stK2 (ti : TI) (H : HX) (o i j : Nat) (v : AV) (K : HX → Prop) (no : Prop) : Prop :=
  Option.rec (motive := fun _ => Prop) no (stY ti H o i j v K no) (hpX H o)
noncomputable def kStore (t : Nat) (p x : Operand) : OPX := fun T rec F H n o k =>
  Option.rec (motive := fun _ => Prop) (opG T rec F H n o k) (fun ti => evK F p fun p => evK F x fun v => isPtr p (fun q i j => stK2 ti H q i j v (fun H => k (.sc undef) H n) (opG T rec F H n o k)) (fun _ _ _ => opG T rec F H n o k) (opG T rec F H n o k)) (T t)
noncomputable def kNil (x : Operand) : OPX := fun T rec F H n o k => evK F x fun a => isPtr a (fun q i j => k (.ptr q i j) H n) (fun w e j => k (.elem w e j) H n) (opG T rec F H n o k)
abbrev IK := IntKind → Int → Int → (AV → Prop) → Prop → Prop
noncomputable def kI (x : IntKind) (K : AV → Prop) (z : Int) : Prop := K (.sc (.int x z))
noncomputable def kB (K : AV → Prop) (z : Bool) : Prop := K (.sc (.bool z))
noncomputable def i_add : IK := fun x a b K _ => fZ (wrX x (Int.add a b)) (kI x K)
noncomputable def i_sub : IK := fun x a b K _ => fZ (wrX x (Int.sub a b)) (kI x K)
noncomputable def i_mul : IK := fun x a b K _ => fZ (wrX x (Int.mul a b)) (kI x K)
noncomputable def i_eql : IK := fun _ a b K _ => fB (eqZ a b) (kB K)
noncomputable def i_neq : IK := fun _ a b K _ => fB (Bool.not (eqZ a b)) (kB K)
noncomputable def i_lss : IK := fun _ a b K _ => fB (ltZ a b) (kB K)
noncomputable def i_leq : IK := fun _ a b K _ => fB (Bool.not (ltZ b a)) (kB K)
noncomputable def i_gtr : IK := fun _ a b K _ => fB (ltZ b a) (kB K)
noncomputable def i_geq : IK := fun _ a b K _ => fB (Bool.not (ltZ a b)) (kB K)
noncomputable def i_none : IK := fun _ _ _ _ no => no
noncomputable def iK : BinOp → IK := BinOp.rec (motive := fun _ => IK) i_add i_sub i_mul i_none i_none i_none i_none i_none i_none i_none i_none i_eql i_neq i_lss i_leq i_gtr i_geq
theorem iK_ok {op : BinOp} {x : IntKind} {a b : Int} {K : AV → Prop} {no : Prop} (h : iK op x a b K no) : no ∨ ∃ r, iX op x a b = some r ∧ K r := by
  cases op with
  | add => have h : fZ (wrX x (Int.add a b)) (kI x K) := h; rw [fZ_eq] at h; exact .inr ⟨_, rfl, h⟩
  | sub => have h : fZ (wrX x (Int.sub a b)) (kI x K) := h; rw [fZ_eq] at h; exact .inr ⟨_, rfl, h⟩
  | mul => have h : fZ (wrX x (Int.mul a b)) (kI x K) := h; rw [fZ_eq] at h; exact .inr ⟨_, rfl, h⟩
  | eql => have h : fB (eqZ a b) (kB K) := h; rw [fB_eq] at h; exact .inr ⟨_, rfl, h⟩
  | neq => have h : fB (Bool.not (eqZ a b)) (kB K) := h; rw [fB_eq] at h; exact .inr ⟨_, rfl, h⟩
  | lss => have h : fB (ltZ a b) (kB K) := h; rw [fB_eq] at h; exact .inr ⟨_, rfl, h⟩
  | leq => have h : fB (Bool.not (ltZ b a)) (kB K) := h; rw [fB_eq] at h; exact .inr ⟨_, rfl, h⟩
  | gtr => have h : fB (ltZ b a) (kB K) := h; rw [fB_eq] at h; exact .inr ⟨_, rfl, h⟩
  | geq => have h : fB (Bool.not (ltZ a b)) (kB K) := h; rw [fB_eq] at h; exact .inr ⟨_, rfl, h⟩
  | _ => exact .inl h
noncomputable def bin2 (op : BinOp) (T : Ty) (rec : RecX) (F : FX) (H : HX) (n : Nat) (o : Oper) (k : KA) (ka : IntKind) (za : Int) (kb : IntKind) (zb : Int) : Prop :=
  Bool.rec (motive := fun _ => Prop) (opG T rec F H n o k) (iK op ka za zb (kHn k H n) (opG T rec F H n o k)) (Nat.beq (kn ka) (kn kb))
noncomputable def bin1 (op : BinOp) (y : Operand) (T : Ty) (rec : RecX) (F : FX) (H : HX) (n : Nat) (o : Oper) (k : KA) (ka : IntKind) (za : Int) : Prop :=
  isInt (rawX F y) (bin2 op T rec F H n o k ka za) (opG T rec F H n o k)
noncomputable def kBin (op : BinOp) (t : Nat) (x y : Operand) (yt : Nat) : OPX := fun T rec F H n o k => isInt (rawX F x) (bin1 op y T rec F H n o k) (opG T rec F H n o k)
noncomputable def kUn (op : UnOp) (t : Nat) (x : Operand) : OPX := fun T rec F H n o k =>
  evK F x fun a => Option.rec (motive := fun _ => Prop) (opG T rec F H n o k) (fun r => fA r fun r => k r H n) (unF op a)
noncomputable def fa3 (k : KA) (H : HX) (n q i j : Nat) : Prop := k (.ptr q i j) H n
noncomputable def fa2 (off : Nat) (k : KA) (H : HX) (n q i j : Nat) : Prop := fN (j + off) (fa3 k H n q i)
noncomputable def fe3 (k : KA) (H : HX) (n : Nat) (w : Bool) (e : AV) (j : Nat) : Prop := k (.elem w e j) H n
noncomputable def fe2 (off : Nat) (k : KA) (H : HX) (n : Nat) (w : Bool) (e : AV) (j : Nat) : Prop := fN (j + off) (fe3 k H n w e)
noncomputable def fa1 (x : Operand) (T : Ty) (rec : RecX) (F : FX) (H : HX) (n : Nat) (o : Oper) (k : KA) (off : Nat) (tf : TI) : Prop :=
  Bool.rec (motive := fun _ => Prop) (isPtr (rawX F x) (fa2 off k H n) (fe2 off k H n) (opG T rec F H n o k)) (opG T rec F H n o k) (Nat.beq tf.size 0)
noncomputable def kFA (s : Nat) (x : Operand) (f : Nat) : OPX := fun T rec F H n o k =>
  Option.rec (motive := fun _ => Prop) (opG T rec F H n o k) (Prod.rec (motive := fun _ => Prop) (fa1 x T rec F H n o k)) (fieldF T s f)
noncomputable def kFld (s : Nat) (x : Operand) (f : Nat) : OPX := fun T rec F H n o k =>
  Option.rec (motive := fun _ => Prop) (opG T rec F H n o k) (fun r => fA r fun r => k r H n) (qField T (evA (frX F)) s x f)
noncomputable def isTup (a : AV) (k : List AV → Prop) (no : Prop) : Prop :=
  AV.rec (motive_1 := fun _ => (List AV → Prop) → Prop → Prop) (motive_2 := fun _ => Unit) (fun _ no => no) (fun _ _ no => no) (fun _ no => no) (fun _ _ _ no => no) (fun c _ k no => k c) (fun _ _ _ _ no => no) (fun _ _ _ _ no => no) (fun _ _ _ _ no => no) (fun _ _ _ _ _ no => no) (fun _ _ _ _ no => no) (fun _ _ _ no => no) (fun _ _ _ _ no => no) (fun _ _ _ _ no => no) () (fun _ _ _ _ => ()) a k no
theorem isTup_ok {a : AV} {k : List AV → Prop} {no : Prop} (h : isTup a k no) : no ∨ ∃ c, a = .tup c ∧ k c := by
  cases a with
  | tup c => exact .inr ⟨c, rfl, h⟩
  | _ => exact .inl h
noncomputable def kExt (x : Operand) (i : Nat) : OPX := fun T rec F H n o k => evK F x fun a => isTup a (fun c => nthL c i (fun a => sh a fun a => k a H n) (opG T rec F H n o k)) (opG T rec F H n o k)
noncomputable def kIx (t : Nat) (x ix : Operand) : OPX := fun T rec F H n o k =>
  Option.rec (motive := fun _ => Prop) (opG T rec F H n o k) (fun r => fA r fun r => k r H n) (qIndexAddr T (evA (frX F)) (hpX H) t x ix)
noncomputable def kCV (f : Operand) (args : Array Operand) : OPX := fun _ rec F H n _ k => evK F f fun f => callX0 rec H n f (args.toList.map (evA (frX F))) k
noncomputable def kCall (c : Call) : OPX := fun T rec F H n o k =>
  Call.rec (motive := fun _ => Prop) (fun ca args _ => Callee.rec (motive := fun _ => Prop) (fun f => kCV f args T rec F H n o k) (fun _ _ => opG T rec F H n o k) (fun _ => opG T rec F H n o k) ca) c
noncomputable def opX (T : Ty) (rec : RecX) (F : FX) (H : HX) (n : Nat) (o : Oper) (k : KA) : Prop :=
  Op.rec (motive := fun _ => OPX) kMove kMove kPick kMk1 (fun _ _ => opG) (fun _ _ => opG) (fun _ _ _ => opG) (fun _ _ _ _ => opG) kLoad kStore (fun _ => opG) (fun _ => opG) kNil kBin kUn (fun _ _ _ => opG) (fun _ _ => opG) (fun _ _ => opG) (fun _ _ _ => opG) (fun _ _ => opG) (fun _ _ => opG) (fun _ _ _ => opG) (fun _ _ _ _ _ => opG) kFA kFld kIx (fun _ _ _ => opG) (fun _ _ _ _ => opG) (fun _ _ _ _ => opG) (fun _ _ _ => opG) (fun _ _ _ _ => opG) (fun _ _ => opG) (fun _ _ => opG) (fun _ => opG) (fun _ _ _ _ => opG) kExt kCall (fun _ => opG) (fun _ => opG) (fun _ => opG) (fun _ _ => opG) (fun _ _ _ => opG) (fun _ _ => opG) o.op T rec F H n o k
theorem opX_ok {P : Program} {T : Ty} {rec : RecX} {nt : Nat} {F : FX} {H : HX} {n : Nat} {o : Oper} {k : KA} {A : Nat → AV} (hA : evA A = evA (frX F)) (hT : TyOk P T) (hr : RecOkX P rec) (h : opX T rec F H n o k) :
    ∃ a H' n', OpR P nt o ⟨A, hpX H, n⟩ (fun a' H2 n2 => a' = a ∧ H2 = hpX H' ∧ n2 = n') ∧ k a H' n' := by
  have gen := fun h => opG_ok (P := P) (T := T) (rec := rec) (nt := nt) (F := F) (H := H) (n := n) (o := o) (k := k) (A := A) hA hT hr h
  have pu : ∀ a, Pu T (evA (frX F)) (hpX H) o.op a → k a H n → ∃ a H' n', OpR P nt o ⟨A, hpX H, n⟩ (fun a' H2 n2 => a' = a ∧ H2 = hpX H' ∧ n2 = n') ∧ k a H' n' := by
    intro a hp hk
    rw [← hA] at hp
    exact ⟨_, _, _, OpR.pu hT (s := ⟨A, hpX H, n⟩) hp, hk⟩
  have ld2_ok : ∀ (ti : TI) (e : AV) (j : Nat) (kk : AV → Prop) (no : Prop), ld2 ti j kk no e → no ∨ ∃ a, loadE ti e j = some a ∧ kk a := by
    intro ti e j kk no h
    unfold ld2 at h
    cases hg : ti.kind.isAgg with
    | true =>
      rw [hg] at h
      have h' := isAg_ok h; clear h
      rcases h' with ⟨c, rfl, h⟩ | ⟨_, h⟩
      · unfold ld4 at h
        cases hc : (Nat.beq j 0 && Nat.beq c.length ti.size) with
        | true =>
          rw [hc] at h
          simp only [Bool.and_eq_true, Nat.beq_eq] at hc
          obtain ⟨rfl, hc⟩ := hc
          refine .inr ⟨_, ?_, h⟩
          unfold loadE
          rw [if_pos hg, if_pos (by show 0 + ti.size ≤ c.length; omega)]
          show some (AV.agg ((c.drop 0).take ti.size)) = _
          rw [List.drop_zero, ← hc, List.take_length]
        | false =>
          rw [hc] at h
          cases hl : loadE ti (.agg c) j with
          | none => rw [hl] at h; exact .inl h
          | some a =>
            rw [hl] at h
            have h : fA a kk := h
            rw [fA_eq] at h; exact .inr ⟨a, rfl, h⟩
      · exact .inl h
    | false =>
      rw [hg] at h
      have h : cellsX e (ld3 j kk no) := h
      rw [cellsX_eq] at h
      rcases nthL_ok _ _ _ _ h with h | ⟨a, h1, h2⟩
      · exact .inl h
      · have h2 : sh a kk := h2
        rw [sh_eq] at h2
        exact .inr ⟨a, by unfold loadE; rw [if_neg (by rw [hg]; simp)]; exact h1, h2⟩
  unfold opX at h
  cases ho : o.op with
  | move x =>
    rw [ho] at h
    have h : evK F x (fun a => k a H n) := h
    rw [evK_eq] at h
    exact pu _ (by rw [ho]; exact .move) h
  | assign x =>
    rw [ho] at h
    have h : evK F x (fun a => k a H n) := h
    rw [evK_eq] at h
    exact pu _ (by rw [ho]; exact .assign) h
  | pick c a b =>
    rw [ho] at h
    have h : kPick c a b T rec F H n o k := h
    unfold kPick at h
    rw [evK_eq] at h
    rcases isBool_ok h with h | ⟨t, hc, h⟩
    · exact gen h
    · cases t with
      | true =>
        have h : evK F a (fun a => k a H n) := h
        rw [evK_eq] at h
        exact pu _ (by rw [ho]; exact .pick hc (fun _ => rfl) (fun h => by cases h)) h
      | false =>
        have h : evK F b (fun a => k a H n) := h
        rw [evK_eq] at h
        exact pu _ (by rw [ho]; exact .pick hc (fun h => by cases h) (fun _ => rfl)) h
  | alloc t =>
    rw [ho] at h
    have h : mkX T F n o.op H (opG T rec F H n o k) k := by rw [ho]; rw [← ho] at h; have h2 : kMk1 t T rec F H n o k := by { rw [ho] at h; exact h }; unfold kMk1 at h2; rw [ho] at h2; exact h2
    rcases mkX_ok (nt := nt) hA hT h with h | h
    · exact gen h
    · exact h
  | load t x =>
    rw [ho] at h
    have h : Option.rec (motive := fun _ => Prop) (opG T rec F H n o k) (kLd1 x T rec F H n o k) (T t) := h
    cases ht : T t with
    | none => rw [ht] at h; exact gen h
    | some ti =>
      rw [ht] at h
      have h : kLd1 x T rec F H n o k ti := h
      unfold kLd1 at h
      rcases isPtr_ok h with h | ⟨q, i, j, hx, h⟩ | ⟨w, e, j, hx, h⟩
      · exact gen h
      · unfold ldP at h
        cases hq : hpX H q with
        | none => rw [hq] at h; exact gen h
        | some y =>
          rw [hq] at h
          rcases nthL_ok _ _ _ _ h with h | ⟨e, he, h⟩
          · exact gen h
          · rcases ld2_ok _ _ _ _ _ h with h | ⟨a, hl, h⟩
            · exact gen h
            · exact pu _ (by rw [ho]; exact .load ht (by rw [raw_np hx (by simp)]; exact .ptr hq he) hl) h
      · rcases ld2_ok _ _ _ _ _ h with h | ⟨a, hl, h⟩
        · exact gen h
        · exact pu _ (by rw [ho]; exact .load ht (by rw [raw_np hx (by simp)]; exact .elem) hl) h
  | store t p x =>
    rw [ho] at h
    have h : Option.rec (motive := fun _ => Prop) (opG T rec F H n o k) (fun ti => evK F p fun p => evK F x fun v => isPtr p (fun q i j => stK2 ti H q i j v (fun H => k (.sc undef) H n) (opG T rec F H n o k)) (fun _ _ _ => opG T rec F H n o k) (opG T rec F H n o k)) (T t) := h
    cases ht : T t with
    | none => rw [ht] at h; exact gen h
    | some ti =>
      rw [ht] at h
      have h : evK F p (fun p => evK F x fun v => isPtr p (fun q i j => stK2 ti H q i j v (fun H => k (.sc undef) H n) (opG T rec F H n o k)) (fun _ _ _ => opG T rec F H n o k) (opG T rec F H n o k)) := h
      rw [evK_eq, evK_eq] at h
      rcases isPtr_ok h with h | ⟨q, i, j, hx, h⟩ | ⟨w, e, j, hx, h⟩
      · exact gen h
      · unfold stK2 at h
        cases hq : hpX H q with
        | none => rw [hq] at h; exact gen h
        | some y =>
          rw [hq] at h
          have h : stY ti H q i j (evA (frX F) x) (fun H => k (.sc undef) H n) (opG T rec F H n o k) y := h
          unfold stY at h
          cases hs : y.solo with
          | false => rw [hs] at h; exact gen h
          | true =>
          rw [hs] at h
          rcases nthL_ok _ _ _ _ h with h | ⟨e, he, h⟩
          · exact gen h
          · rcases stE_ok h with h | ⟨g2, g3, g4, g5, h⟩
            · exact gen h
            · unfold stP at h
              rw [setL_eq] at h
              obtain ⟨H', h1, h2⟩ := storeH_ok h
              refine ⟨_, _, _, ?_, h2⟩
              rw [h1]
              refine OpR.st hT (s := ⟨A, hpX H, n⟩) ?_
              rw [ho]
              show StR T (evA A) (hpX H) _ _
              rw [hA]
              have st := StR.store (T := T) (ev := evA (frX F)) (H := hpX H) (t := t) (p := p) (x := x) hx hq hs he ht g2 g3 g4 g5
              exact st
      · exact gen h
  | nilCheck x =>
    rw [ho] at h
    have h : evK F x (fun a => isPtr a (fun q i j => k (.ptr q i j) H n) (fun w e j => k (.elem w e j) H n) (opG T rec F H n o k)) := h
    rw [evK_eq] at h
    rcases isPtr_ok h with h | ⟨q, i, j, hx, h⟩ | ⟨w, e, j, hx, h⟩
    · exact gen h
    · rw [← hx] at h; exact pu _ (by rw [ho]; exact .nilCheckPtr hx) h
    · rw [← hx] at h; exact pu _ (by rw [ho]; exact .nilCheckElem hx) h
  | binOp op t x y yt =>
    rw [ho] at h
    have h : isInt (rawX F x) (bin1 op y T rec F H n o k) (opG T rec F H n o k) := h
    rcases isInt_ok h with h | ⟨ka, za, hx, h⟩
    · exact gen h
    · unfold bin1 at h
      rcases isInt_ok h with h | ⟨kb, zb, hy, h⟩
      · exact gen h
      · unfold bin2 at h
        cases hk : Nat.beq (kn ka) (kn kb) with
        | false => rw [hk] at h; exact gen h
        | true =>
          rw [hk] at h
          have := kn_inj hk
          subst this
          rcases iK_ok h with h | ⟨r, hi, h⟩
          · exact gen h
          · exact pu _ (by rw [ho]; exact iX_ok (raw_sc hx) (raw_sc hy) hi) h
  | unOp op t x =>
    rw [ho] at h
    have h : kUn op t x T rec F H n o k := h
    unfold kUn at h
    rw [evK_eq] at h
    cases hu : unF op (evA (frX F) x) with
    | none => rw [hu] at h; exact gen h
    | some r =>
      rw [hu] at h
      have h : fA r (fun r => k r H n) := h
      rw [fA_eq] at h
      exact pu _ (by rw [ho]; exact qPu_ok (T := T) (ev := evA (frX F)) (H := hpX H) (op := .unOp op t x) hu) h
  | fieldAddr s x f =>
    rw [ho] at h
    have h : kFA s x f T rec F H n o k := h
    unfold kFA at h
    cases hf : fieldF T s f with
    | none => rw [hf] at h; exact gen h
    | some p =>
      obtain ⟨off, tf⟩ := p
      rw [hf] at h
      have h : fa1 x T rec F H n o k off tf := h
      unfold fa1 at h
      cases hz : Nat.beq tf.size 0 with
      | true => rw [hz] at h; exact gen h
      | false =>
        rw [hz] at h
        obtain ⟨ti, fs, ft, t1, t2, t3, t4⟩ := fieldF_ok hf
        rcases isPtr_ok h with h | ⟨q, i, j, hx, h⟩ | ⟨w, e, j, hx, h⟩
        · exact gen h
        · unfold fa2 at h; rw [fN_eq] at h; exact pu _ (by rw [ho]; exact .fieldAddrPtr (raw_np hx (by simp)) t1 t2 t3 t4 (Nat.ne_of_beq_eq_false hz)) h
        · unfold fe2 at h; rw [fN_eq] at h; exact pu _ (by rw [ho]; exact .fieldAddrElem (raw_np hx (by simp)) t1 t2 t3 t4 (Nat.ne_of_beq_eq_false hz)) h
  | field s x f =>
    rw [ho] at h
    have h : kFld s x f T rec F H n o k := h
    unfold kFld at h
    cases hu : qField T (evA (frX F)) s x f with
    | none => rw [hu] at h; exact gen h
    | some r =>
      rw [hu] at h
      have h : fA r (fun r => k r H n) := h
      rw [fA_eq] at h
      exact pu _ (by rw [ho]; exact qPu_ok (T := T) (ev := evA (frX F)) (H := hpX H) (op := .field s x f) hu) h
  | extract x i =>
    rw [ho] at h
    have h : evK F x (fun a => isTup a (fun c => nthL c i (fun a => sh a fun a => k a H n) (opG T rec F H n o k)) (opG T rec F H n o k)) := h
    rw [evK_eq] at h
    rcases isTup_ok h with h | ⟨c, hx, h⟩
    · exact gen h
    · rcases nthL_ok _ _ _ _ h with h | ⟨a, ha, h⟩
      · exact gen h
      · rw [sh_eq] at h; exact pu _ (by rw [ho]; exact .extract hx ha) h
  | indexAddr t x ix =>
    rw [ho] at h
    have h : kIx t x ix T rec F H n o k := h
    unfold kIx at h
    cases hu : qIndexAddr T (evA (frX F)) (hpX H) t x ix with
    | none => rw [hu] at h; exact gen h
    | some r =>
      rw [hu] at h
      have h : fA r (fun r => k r H n) := h
      rw [fA_eq] at h
      exact pu _ (by rw [ho]; exact qPu_ok (T := T) (ev := evA (frX F)) (H := hpX H) (op := .indexAddr t x ix) hu) h
  | call c =>
    rw [ho] at h
    obtain ⟨ca, args, ts⟩ := c
    cases ca with
    | value x =>
      have h : evK F x (fun f => callX0 rec H n f (args.toList.map (evA (frX F))) k) := h
      rw [evK_eq] at h
      unfold callX0 at h
      split at h
      · rename_i f caps hx
        rw [fL_eq] at h
        rcases hr _ _ _ _ _ h with ⟨r, H', n', h1, h2⟩ | ⟨r, h1, h2⟩
        · rw [← hA] at hx h1
          exact ⟨r, H', n', OpR.call (s := ⟨A, hpX H, n⟩) ho hx h1, h2⟩
        · rw [← hA] at hx h1
          exact ⟨r, H, n, OpR.ext (s := ⟨A, hpX H, n⟩) ho hx h1, h2⟩
      · rename_i f ra hx
        rw [fL_eq] at h
        rcases hr _ _ _ _ _ h with ⟨r, H', n', h1, h2⟩ | ⟨r, h1, h2⟩
        · rw [← hA] at hx h1
          exact ⟨r, H', n', OpR.callM (s := ⟨A, hpX H, n⟩) ho hx h1, h2⟩
        · rw [← hA] at hx h1
          exact ⟨r, H, n, OpR.extM (s := ⟨A, hpX H, n⟩) ho hx h1, h2⟩
      · cases h
    | _ => exact gen h
  | _ => rw [ho] at h; exact gen h
end Go.Av.X

namespace Go.Av
variable [Gls]
inductive Tr (V : Type) where
  | nil
  | node (l : Tr V) (v : Option V) (r : Tr V)
noncomputable def Tr.get {V : Type} (t : Tr V) : Nat → Option V :=
  Tr.rec (motive := fun _ => Nat → Option V) (fun _ => none)
    (fun _ v _ ihl ihr n => Nat.rec (motive := fun _ => Option V) v (fun m _ => bif Nat.beq (Nat.mod m 2) 0 then ihl (Nat.div m 2) else ihr (Nat.div m 2)) n) t
noncomputable def Tr.left {V : Type} (t : Tr V) : Tr V := Tr.rec (motive := fun _ => Tr V) .nil (fun l _ _ _ _ => l) t
noncomputable def Tr.right {V : Type} (t : Tr V) : Tr V := Tr.rec (motive := fun _ => Tr V) .nil (fun _ _ r _ _ => r) t
noncomputable def Tr.val {V : Type} (t : Tr V) : Option V := Tr.rec (motive := fun _ => Option V) none (fun _ v _ _ _ => v) t
noncomputable def Tr.set {V : Type} (f : Nat) : Tr V → Nat → Option V → Tr V :=
  Nat.rec (motive := fun _ => Tr V → Nat → Option V → Tr V) (fun t _ v => .node t.left v t.right)
    (fun _ ih t n v => Nat.rec (motive := fun _ => Tr V) (.node t.left v t.right)
      (fun m _ => bif Nat.beq (Nat.mod m 2) 0 then .node (ih t.left (Nat.div m 2) v) t.val t.right else .node t.left t.val (ih t.right (Nat.div m 2) v)) n) f
theorem Tr.get_node {V : Type} (t : Tr V) (n : Nat) : t.get n = match n with
    | 0 => t.val
    | m + 1 => if m % 2 = 0 then t.left.get (m / 2) else t.right.get (m / 2) := by
  cases t with
  | nil => cases n <;> simp [Tr.get, Tr.val, Tr.left, Tr.right]
  | node l v r =>
    cases n with
    | zero => rfl
    | succ m =>
      show (bif Nat.beq (m % 2) 0 then l.get (m / 2) else r.get (m / 2)) = if m % 2 = 0 then l.get (m / 2) else r.get (m / 2)
      by_cases h : m % 2 = 0
      · rw [h]; rfl
      · have : Nat.beq (m % 2) 0 = false := by rw [← Bool.not_eq_true, Nat.beq_eq]; exact h
        rw [this, if_neg h]; rfl
theorem Tr.set_succ {V : Type} (f : Nat) (t : Tr V) (n : Nat) (v : Option V) : Tr.set (f + 1) t n v = match n with
    | 0 => .node t.left v t.right
    | m + 1 => if m % 2 = 0 then .node (Tr.set f t.left (m / 2) v) t.val t.right else .node t.left t.val (Tr.set f t.right (m / 2) v) := by
  cases n with
  | zero => rfl
  | succ m =>
    show (bif Nat.beq (m % 2) 0 then Tr.node (Tr.set f t.left (m / 2) v) t.val t.right else .node t.left t.val (Tr.set f t.right (m / 2) v)) = _
    by_cases h : m % 2 = 0
    · rw [h]; simp [h]
    · have : Nat.beq (m % 2) 0 = false := by rw [← Bool.not_eq_true, Nat.beq_eq]; exact h
      rw [this]; simp [h]
theorem Tr.get_set {V : Type} : ∀ (f : Nat) (t : Tr V) (n : Nat) (v : Option V), n < 2 ^ f → ∀ m, (Tr.set f t n v).get m = if m = n then v else t.get m := by
  intro f
  induction f with
  | zero =>
    intro t n v h m
    obtain rfl : n = 0 := by simpa using h
    show (Tr.node t.left v t.right).get m = _
    rw [Tr.get_node]
    cases m with
    | zero => rfl
    | succ m => simp only [Tr.left, Tr.right]; rw [Tr.get_node t (m + 1)]; simp [Tr.left, Tr.right]
  | succ f ih =>
    intro t n v h m
    rw [Tr.set_succ]
    cases n with
    | zero =>
      simp only []
      rw [Tr.get_node]
      cases m with
      | zero => rfl
      | succ m => simp only [Tr.left, Tr.right]; rw [Tr.get_node t (m + 1)]; simp [Tr.left, Tr.right]
    | succ n =>
      simp only []
      have hn : n / 2 < 2 ^ f := by have : 2 ^ (f + 1) = 2 * 2 ^ f := by rw [Nat.pow_succ]; omega
                                    omega
      by_cases hp0 : n % 2 = 0
      · rw [if_pos hp0, Tr.get_node]
        cases m with
        | zero => rw [Tr.get_node t 0]; simp [Tr.val]
        | succ m =>
          rw [Tr.get_node t (m + 1)]
          simp only [Tr.left, Tr.right]
          by_cases hm : m % 2 = 0
          · rw [if_pos hm, if_pos hm, ih _ _ _ hn]
            by_cases he : m = n
            · subst he; simp
            · rw [if_neg (by omega), if_neg (by omega)]
          · rw [if_neg hm, if_neg hm, if_neg (by omega)]
      · rw [if_neg hp0, Tr.get_node]
        cases m with
        | zero => rw [Tr.get_node t 0]; simp [Tr.val]
        | succ m =>
          rw [Tr.get_node t (m + 1)]
          simp only [Tr.left, Tr.right]
          by_cases hm : m % 2 = 0
          · rw [if_pos hm, if_pos hm, if_neg (by omega)]
          · rw [if_neg hm, if_neg hm, ih _ _ _ hn]
            by_cases he : m = n
            · subst he; simp
            · rw [if_neg (by omega), if_neg (by omega)]
end Go.Av

namespace Go.Av
variable [Gls]
noncomputable def getT (F : Tr AV) (t : Nat) : AV := Option.rec (motive := fun _ => AV) (.sc undef) (fun a => a) (F.get t)
noncomputable def setT (F : Tr AV) (d : Nat) (a : AV) : Tr AV := F.set 20 d (some a)
noncomputable def setOT (F : Tr AV) (d : Option Nat) (a : AV) : Tr AV := Option.rec (motive := fun _ => Tr AV) F (fun d => setT F d a) d
theorem getT_set (F : Tr AV) (d : Nat) (a : AV) (h : d < 2 ^ 20) : getT (setT F d a) = upd (getT F) d a := by
  funext t
  unfold getT setT
  rw [Tr.get_set 20 F d (some a) h]
  by_cases ht : t = d
  · subst ht; rw [if_pos rfl, upd_same]
  · rw [if_neg ht, upd_other _ _ ht]
theorem getT_setO (F : Tr AV) (nt : Nat) (d : Option Nat) (a : AV) (hnt : nt ≤ 2 ^ 20) (h : dstOk nt d = true) : getT (setOT F d a) = updO (getT F) d a := by
  cases d with
  | none => rfl
  | some d => exact getT_set F d a (Nat.lt_of_lt_of_le (dstOk_lt h d rfl) hnt)
def okO (o : Nat) : Bool := Nat.blt o 1099511627776
theorem okO_lt {o : Nat} (h : okO o = true) : o < 2 ^ 40 := by simpa [okO] using h
noncomputable def setH (H : Tr Obj) (o : Nat) (x : Option Obj) : Tr Obj := H.set 40 o x
theorem get_setH (H : Tr Obj) (o : Nat) (x : Option Obj) (h : okO o = true) : (setH H o x).get = upd H.get o x := by
  funext q
  unfold setH
  rw [Tr.get_set 40 H o x (okO_lt h)]
  by_cases hq : q = o
  · subst hq; rw [if_pos rfl, upd_same]
  · rw [if_neg hq, upd_other _ _ hq]
noncomputable def effT (id : Nat) (H : Tr Obj) : Eff → Option (Tr Obj)
  | .none => some H
  | .new x => bif okO id then some (setH H id (some x)) else none
  | .app old x => bif okO id && okO old then some (setH (setH H old none) id (some x)) else none
theorem effT_ok {id : Nat} {H H' : Tr Obj} {e : Eff} (h : effT id H e = some H') : H'.get = e.seq id H.get := by
  cases e with
  | none => simp [effT] at h; subst h; rfl
  | new x =>
    simp only [effT] at h
    cases hb : okO id with
    | false => rw [hb] at h; cases h
    | true => rw [hb, cond_true] at h; cases h; exact get_setH H id (some x) hb
  | app old x =>
    simp only [effT] at h
    cases hb : okO id && okO old with
    | false => rw [hb] at h; cases h
    | true =>
      rw [hb, cond_true] at h; cases h
      simp only [Bool.and_eq_true] at hb
      rw [get_setH _ _ _ hb.1, get_setH _ _ _ hb.2]; rfl
noncomputable def weffT (id : Nat) (H : Tr Obj) : WEff → Option (Tr Obj)
  | .none => some H
  | .new x => bif okO id then some (setH H id (some x)) else none
  | .app old x => bif okO id && okO old then some (setH (setH H old none) id (some x)) else none
  | .set o x => bif okO o then some (setH H o (some x)) else none
theorem weffT_ok {id : Nat} {H H' : Tr Obj} {e : WEff} (h : weffT id H e = some H') : H'.get = e.go id H.get := by
  cases e with
  | none => simp [weffT] at h; subst h; rfl
  | new x =>
    simp only [weffT] at h
    cases hb : okO id with
    | false => rw [hb] at h; cases h
    | true => rw [hb, cond_true] at h; cases h; rw [WEff.go_new]; exact get_setH H id (some x) hb
  | app old x =>
    simp only [weffT] at h
    cases hb : okO id && okO old with
    | false => rw [hb] at h; cases h
    | true =>
      rw [hb, cond_true] at h; cases h
      simp only [Bool.and_eq_true] at hb
      rw [WEff.go_app, get_setH _ _ _ hb.1, get_setH _ _ _ hb.2]
  | set o x =>
    simp only [weffT] at h
    cases hb : okO o with
    | false => rw [hb] at h; cases h
    | true => rw [hb, cond_true] at h; cases h; rw [WEff.go_set]; exact get_setH H o (some x) hb
structure RT where
  F : Tr AV
  H : Tr Obj
  n : Nat
noncomputable def RT.st (s : RT) : St := ⟨getT s.F, s.H.get, s.n⟩
abbrev RecT := Nat → List AV → Tr Obj → Nat → Option (AV × Tr Obj × Nat)
def RecTOk (P : Program) (rec : RecT) : Prop :=
  ∀ f as H n r H' n', rec f as H n = some (r, H', n') → HC P f as H.get n (fun r2 H2 n2 => r2 = r ∧ H2 = H'.get ∧ n2 = n')
noncomputable def cpT (T : Ty) (ev : Operand → AV) (s : RT) (t : Nat) (d x : Operand) : Option (AV × Tr Obj × Nat) :=
  match sliceTy T t with
  | some te => match srcF s.H.get (ev x) with
    | some xs => match ev d with
      | .ref q off len => match s.H.get q with
        | some y => if min xs.length len ≠ 0 ∧ off + len ≤ y.es.length ∧ y.esz = te.size ∧ okO q = true then
            (if xs.all (fun e => e.cells.length == te.size) = true then
              some (.sc (goInt (min xs.length len)), setH s.H q (some { y with es := splice y.es off (xs.take (min xs.length len)) }), s.n) else none) else none
        | none => none
      | _ => none
    | none => none
  | none => none
theorem cpT_ok {P : Program} {T : Ty} {nt : Nat} {s : RT} {o : Oper} {t t' : Nat} {d x : Operand} {a : AV} {H : Tr Obj} {n : Nat} (hT : TyOk P T) (ho : o.op = .call { callee := .builtin .copy, args := #[d, x], argTypes := #[t, t'] })
    (h : cpT T (evA (getT s.F)) s t d x = some (a, H, n)) : OpR P nt o s.st (fun a' H' n' => a' = a ∧ H' = H.get ∧ n' = n) := by
  unfold cpT at h
  split at h
  · rename_i hs
    obtain ⟨ti, et, h1, h2, h3⟩ := sliceTy_ok hs
    split at h
    · rename_i hx
      split at h
      · rename_i hd
        split at h
        · rename_i hH
          split at h
          · rename_i hh
            obtain ⟨g1, g2, g3, g4⟩ := hh
            split at h
            · rename_i hall
              cases h
              rw [get_setH _ _ _ g4]
              exact OpR.copy hT (s := s.st) ho hd hH g2 (srcF_ok hx) g1 h1 h2 h3 (fun e he => by simpa using List.all_eq_true.1 hall e he) g3
            · cases h
          · cases h
        · cases h
      · cases h
    · cases h
  · cases h
noncomputable def opT (T : Ty) (rec : RecT) (s : RT) (o : Oper) : Option (AV × Tr Obj × Nat) :=
  match qPu T (evA (getT s.F)) (s.H.get) o.op with
  | some a => some (a, s.H, s.n)
  | none => match mkF T (evA (getT s.F)) (s.H.get) s.n o.op with
    | some (a, e) => match effT s.n s.H e with
      | some H => some (a, H, s.n + 1)
      | none => none
    | none => match o.op with
      | .store t p x => match stF T (evA (getT s.F)) (s.H.get) t p x with
        | some (q, z) => bif okO q then some (.sc undef, setH s.H q (some z), s.n) else none
        | none => none
      | .call { callee := .value x, args := args, argTypes := _ } => match evA (getT s.F) x with
        | .fn f caps => rec f (args.toList.map (evA (getT s.F)) ++ caps) s.H s.n
        | _ => none
      | .call { callee := .builtin .copy, args := ⟨[d, x]⟩, argTypes := ⟨[t, _]⟩ } => cpT T (evA (getT s.F)) s t d x
      | _ => none
theorem opT_ok {P : Program} {T : Ty} {rec : RecT} {nt : Nat} {s : RT} {o : Oper} {a : AV} {H : Tr Obj} {n : Nat} (hT : TyOk P T) (hr : RecTOk P rec) (h : opT T rec s o = some (a, H, n)) :
    OpR P nt o s.st (fun a' H' n' => a' = a ∧ H' = H.get ∧ n' = n) := by
  unfold opT at h
  split at h
  · rename_i hp'
    cases h
    exact OpR.pu hT (s := s.st) (qPu_ok hp')
  · split at h
    · rename_i hm
      split at h
      · rename_i he
        cases h
        obtain ⟨h1, h2⟩ := mkF_ok hm
        rw [effT_ok he]
        exact OpR.mk hT (s := s.st) h1 h2
      · cases h
    · split at h
      · rename_i ho
        split at h
        · rename_i q z hs
          cases hq : okO q with
          | false => rw [hq] at h; cases h
          | true =>
          rw [hq, cond_true] at h
          cases h
          obtain ⟨i, k, y, e, ti, g1, g2, g3, g4, g5, g6, g7, g8, g9, rfl⟩ := stF_ok hs
          rw [get_setH _ _ _ hq]
          refine OpR.st hT (s := s.st) ?_
          rw [ho]
          exact .store g1 g2 g3 g4 g5 g6 g7 g8 g9
        · cases h
      · rename_i ho
        split at h
        · rename_i hx
          exact OpR.call (s := s.st) ho hx (hr _ _ _ _ _ _ _ h)
        · cases h
      · rename_i ho
        exact cpT_ok hT ho h
      · cases h
noncomputable def opsT (T : Ty) (rec : RecT) (nt : Nat) (ops : Array Oper) : List Oper → RT → Option RT
  | [], s => some s
  | o :: l, s => if dstOk nt o.dst = true then (match guardF nt ops (getT s.F) o with
    | some true => match opT T rec s o with
      | some (a, H, n) => opsT T rec nt ops l ⟨setOT s.F o.dst a, H, n⟩
      | none => none
    | some false => opsT T rec nt ops l ⟨setOT s.F o.dst (.sc undef), s.H, s.n⟩
    | none => none) else none
theorem opsT_ok {P : Program} {T : Ty} {rec : RecT} {nt n0 : Nat} {ops : Array Oper} (hnt : nt ≤ 2 ^ 20) (hT : TyOk P T) (hr : RecTOk P rec) : ∀ (l : List Oper) (s r : RT), opsT T rec nt ops l s = some r →
    SemL P nt n0 ops l (fun s' => s' = r.st) s.st := by
  intro l
  induction l with
  | nil => intro s r h; simp [opsT] at h; subst h; exact SemL.nil rfl
  | cons o l ih =>
    intro s r h
    simp only [opsT] at h
    split at h
    · rename_i hd
      have hdlt := dstOk_lt hd
      split at h
      · rename_i hg
        split at h
        · rename_i a H n hop
          have hR := opT_ok (nt := nt) hT hr hop
          have hk := ih _ _ h
          have key : SemL P nt n0 ops ({ o with guard := none } :: l) (fun s' => s' = r.st) s.st := by
            refine SemL.step (R := fun a' H' n' => a' = a ∧ H' = H.get ∧ n' = n) rfl hdlt hR.noGuard ?_
            rintro a' H' n' ⟨rfl, rfl, rfl⟩
            have : (⟨updO s.st.A o.dst a', H.get, n'⟩ : St) = (RT.mk (setOT s.F o.dst a') H n').st := by simp only [RT.st, getT_setO _ nt _ _ hnt hd]
            show SemL P nt n0 ops l (fun s' => s' = r.st) ⟨updO s.st.A o.dst a', H.get, n'⟩
            rw [this]; exact hk
          unfold guardF at hg
          split at hg
          · rename_i hgn
            have ho : ({ o with guard := none } : Oper) = o := by cases o; simp at hgn; subst hgn; rfl
            rw [ho] at key; exact key
          · rename_i j want hgs
            split at hg
            · rename_i t hj
              split at hg
              · rename_i ht
                split at hg
                · rename_i v hb
                  have hv : v = .bool want := by
                    cases v <;> simp [boolIs] at hg
                    rw [hg]
                  rw [hv] at hb
                  exact stGuard (b := want) hgs hj ht hb hd (fun _ => key) (fun hne => absurd rfl hne)
                · cases hg
              · cases hg
            · cases hg
        · cases h
      · rename_i hg
        unfold guardF at hg
        split at hg
        · cases hg
        · rename_i j want hgs
          split at hg
          · rename_i t hj
            split at hg
            · rename_i ht
              split at hg
              · rename_i v hb
                refine stSkip hgs hj ht hb hd (by simpa using hg) ?_
                have hk := ih _ _ h
                have : (⟨updO s.st.A o.dst (.sc undef), s.st.H, s.st.n⟩ : St) = (RT.mk (setOT s.F o.dst (.sc undef)) s.H s.n).st := by simp only [RT.st, getT_setO _ nt _ _ hnt hd]
                rw [this]; exact hk
              · cases hg
            · cases hg
          · cases hg
      · cases h
    · cases h
noncomputable def dopT (T : Ty) (rec : RecT) (A : Nat → AV) (V : Heap) (id : Nat) (o : Oper) : Option (AV × WEff) :=
  match qPu T (evA A) V o.op with
  | some a => some (a, .none)
  | none => match mkF T (evA A) V id o.op with
    | some (a, .none) => some (a, .none)
    | some (a, .new x) => some (a, .new x)
    | some (a, .app old x) => some (a, .app old x)
    | none => match o.op with
      | .store t p x => match o.dst with
        | none => match stF T (evA A) V t p x with
          | some (q, z) => some (.sc undef, .set q z)
          | none => none
        | some _ => none
      | .call { callee := .value x, args := args, argTypes := _ } => match evA A x with
        | .fn f [] => match mapO (cvF false V 100) (args.toList.map (evA A)) with
          | some bs => match rec f bs .nil 0 with
            | some (r, H', _) => match cvF true H'.get 100 r with
              | some r' => if ownF 100 r' = true then some (r', .none) else none
              | none => none
            | none => none
          | none => none
        | _ => none
      | _ => none
theorem dopT_ok {P : Program} {T : Ty} {rec : RecT} {A : Nat → AV} {V : Heap} {id : Nat} {o : Oper} {a : AV} {e : WEff} (hr : RecTOk P rec) (h : dopT T rec A V id o = some (a, e)) : DOp P T A V id o a e := by
  unfold dopT at h
  split at h
  · cases h; exact .pu (qPu_ok (by assumption))
  · split at h
    · rename_i hm; cases h; exact .zero (mkF_ok hm).1
    · rename_i hm; cases h
      obtain ⟨h1, h2⟩ := mkF_ok hm
      have := h2 0 _ (.inr rfl)
      exact .new h1 this.1 this.2
    · rename_i hm; cases h
      obtain ⟨h1, h2⟩ := mkF_ok hm
      have := h2 _ _ (.inl rfl)
      exact .app h1 this.1 this.2
    · split at h
      · rename_i ho
        split at h
        · rename_i hd
          split at h
          · rename_i hs
            cases h
            obtain ⟨i, k, y, e, ti, g1, g2, g3, g4, g5, g6, g7, g8, g9, rfl⟩ := stF_ok hs
            exact .store ho hd g1 g2 g4 g5 g6 g7 g8 g9
          · cases h
        · cases h
      · rename_i ho
        split at h
        · rename_i hx
          split at h
          · rename_i hm
            split at h
            · rename_i hrec
              split at h
              · rename_i hc
                split at h
                · rename_i hown
                  cases h
                  obtain ⟨m1, m2⟩ := mapO_ok hm
                  exact .pure ho hx (by rw [List.append_nil]; exact ⟨m1, fun i a b ha hb => cvF_ok _ _ _ (m2 i a b ha hb)⟩) (Pure.of_hc (hr _ _ _ _ _ _ _ hrec) (cvF_ok _ _ _ hc)) (fun _ _ h => h) (.inl (ownF_ok _ _ hown))
                · cases h
              · cases h
            · cases h
          · cases h
        · cases h
      · cases h
noncomputable def drawT (T : Ty) (rec : RecT) (nt base : Nat) (ops : Array Oper) (ms : List Nat) (hs : List (Nat × (Nat → Bool))) : Nat → List Oper → Tr AV → Tr Obj → List WEff → Option (Tr AV × Tr Obj)
  | _, [], F, H, _ => some (F, H)
  | i, o :: l, F, H, es =>
    if dstOkD nt (badGo i (ms.getD i 0) 0 ops.toList ms) o.dst = true then
      (match guardF nt ops (frD (badGo i (ms.getD i 0) 0 ops.toList ms) (getT F)) o with
      | some true => match dopT T rec (frD (badGo i (ms.getD i 0) 0 ops.toList ms) (getT F)) (hpD base (ms.getD i 0) (hz0 o) es H.get) (base + i) o with
        | some (a, e) => match weffT (base + i) H e with
          | some H' => if writeOk base (ms.getD i 0) (e.objs (base + i)) 0 (hs.take i) [] es = true then
            drawT T rec nt base ops ms hs (i + 1) l (setOT F o.dst a) H' (es ++ [e]) else none
          | none => none
        | none => none
      | some false => drawT T rec nt base ops ms hs (i + 1) l (setOT F o.dst (.sc undef)) H (es ++ [.none])
      | none => none) else none
theorem dstOkD_ok {nt : Nat} {bad : List Nat} {d : Option Nat} (h : dstOkD nt bad d = true) : dstOk nt d = true := by
  cases d with
  | none => rfl
  | some d => simp only [dstOkD, Bool.and_eq_true] at h; exact h.1
theorem drawT_ok {P : Program} {T : Ty} {rec : RecT} {nt base : Nat} {ops : Array Oper} {ms : List Nat} (hnt : nt ≤ 2 ^ 20) (hr : RecTOk P rec) : ∀ (l : List Oper) (i : Nat) (F : Tr AV) (H : Tr Obj) (es : List WEff) (F' : Tr AV) (H' : Tr Obj),
    drawT T rec nt base ops ms (ms.zip (ops.toList.map hz0)) i l F H es = some (F', H') → DRun hz0 P T nt base ops ms i l (getT F) H.get es (getT F') H'.get := by
  intro l
  induction l with
  | nil => intro i F H es F' H' h; simp [drawT] at h; obtain ⟨rfl, rfl⟩ := h; exact .nil
  | cons o l ih =>
    intro i F H es F' H' h
    simp only [drawT] at h
    split at h
    · rename_i hd
      split at h
      · rename_i hg
        split at h
        · rename_i a e hop
          split at h
          rotate_left
          · cases h
          rename_i H2 he
          split at h
          · rename_i hw
            have hk := ih _ _ _ _ _ _ h
            rw [getT_setO _ nt _ _ hnt (dstOkD_ok hd), weffT_ok he] at hk
            have hop' := dopT_ok hr hop
            unfold guardF at hg
            split at hg
            · rename_i hgn; exact .op hgn hd hop' hw hk
            · rename_i j want hgs
              split at hg
              · rename_i t hj
                split at hg
                · rename_i ht
                  split at hg
                  · rename_i v hb
                    have hv : v = .bool want := by
                      cases v <;> simp [boolIs] at hg
                      rw [hg]
                    rw [hv] at hb
                    exact .run hgs hd hj ht hb hop' hw hk
                  · cases hg
                · cases hg
              · cases hg
          · cases h
        · cases h
      · rename_i hg
        have hk := ih _ _ _ _ _ _ h
        rw [getT_setO _ nt _ _ hnt (dstOkD_ok hd)] at hk
        unfold guardF at hg
        split at hg
        · cases hg
        · rename_i j want hgs
          split at hg
          · rename_i t hj
            split at hg
            · rename_i ht
              split at hg
              · rename_i v hb
                exact .skip hgs hd hj ht hb (by simpa using hg) hk
              · cases hg
            · cases hg
          · cases hg
      · cases h
    · cases h
end Go.Av

namespace Go.Av
variable [Gls]
def loopT (b : RT → Option (AExit × RT)) : Nat → RT → Option (AExit × RT)
  | 0, _ => none
  | m + 1, s => match b s with
    | some (.normal, s') => loopT b m s'
    | r => r
noncomputable def codeT (P : Program) (T : Ty) (rec : RecT) (nt k : Nat) : Code → RT → Option (AExit × RT)
  | .skip, s => some (.normal, s)
  | .label _, s => some (.normal, s)
  | .exit id, s => some (.exit id, s)
  | .ret, s => some (.ret, s)
  | .seq a b, s => match codeT P T rec nt k a s with
    | some (.normal, s') => codeT P T rec nt k b s'
    | r => r
  | .cond x a b, s => match evA (getT s.F) x with
    | .sc (.bool true) => codeT P T rec nt k a s
    | .sc (.bool false) => codeT P T rec nt k b s
    | _ => none
  | .block id c, s => match codeT P T rec nt k c s with
    | some (.exit i, s') => bif Nat.beq i id then some (.normal, s') else some (.exit i, s')
    | r => r
  | .loop b, s => loopT (codeT P T rec nt k b) k s
  | .scope c, s => codeT P T rec nt k c s
  | .region _ ops false, s => match opsT T rec nt ops ops.toList s with
    | some s' => some (.normal, s')
    | none => none
  | .region _ ops true, s => if P.follows .mixedOrders = true ∧ preLt 0 ops.toList = true then
      (match drawT T rec nt s.n ops (masks ops.toList) ((masks ops.toList).zip (ops.toList.map hz0)) 0 ops.toList s.F s.H [] with
      | some (F, H) => some (.normal, ⟨F, H, s.n + ops.toList.length⟩)
      | none => none) else none
  | _, _ => none
theorem codeT_ok {P : Program} {T : Ty} {rec : RecT} {nt k n0 : Nat} (hnt : nt ≤ 2 ^ 20) (hT : TyOk P T) (hr : RecTOk P rec) : ∀ (code : Code) (s : RT) (e : AExit) (r : RT), codeT P T rec nt k code s = some (e, r) →
    SemC P nt n0 code (fun e' s' => e' = e ∧ s' = r.st) s.st := by
  intro code
  induction code with
  | skip => intro s e r h; simp only [codeT] at h; cases h; exact SemC.skip ⟨rfl, rfl⟩
  | label l => intro s e r h; simp only [codeT] at h; cases h; exact SemC.label ⟨rfl, rfl⟩
  | exit id => intro s e r h; simp only [codeT] at h; cases h; exact SemC.exit ⟨rfl, rfl⟩
  | ret => intro s e r h; simp only [codeT] at h; cases h; exact SemC.ret ⟨rfl, rfl⟩
  | seq a b iha ihb =>
    intro s e r h
    simp only [codeT] at h
    refine SemC.seq ?_
    split at h
    · rename_i s' ha
      refine (iha _ _ _ ha).mono ?_
      rintro e' s2 ⟨rfl, rfl⟩
      exact ihb _ _ _ h
    · rename_i hne
      refine (iha _ _ _ h).mono ?_
      rintro e' s2 ⟨rfl, rfl⟩
      cases e' with
      | normal => exact absurd h (hne _)
      | exit id => exact ⟨rfl, rfl⟩
      | ret => exact ⟨rfl, rfl⟩
  | cond x a b iha ihb =>
    intro s e r h
    simp only [codeT] at h
    split at h
    · rename_i hx
      exact SemC.cond (s := s.st) hx (fun _ => iha _ _ _ h) (fun h => by cases h)
    · rename_i hx
      exact SemC.cond (s := s.st) hx (fun h => by cases h) (fun _ => ihb _ _ _ h)
    · cases h
  | block id c ih =>
    intro s e r h
    simp only [codeT] at h
    refine SemC.block ?_
    split at h
    · rename_i i s' hc
      refine (ih _ _ _ hc).mono ?_
      rintro e' s2 ⟨rfl, rfl⟩
      simp only [blockQ]
      cases hb : Nat.beq i id with
      | true => rw [hb, cond_true] at h; cases h; exact ⟨rfl, rfl⟩
      | false => rw [hb, cond_false] at h; cases h; exact ⟨rfl, rfl⟩
    · rename_i hne
      refine (ih _ _ _ h).mono ?_
      rintro e' s2 ⟨rfl, rfl⟩
      cases e' with
      | normal => exact ⟨rfl, rfl⟩
      | exit id => exact absurd h (hne _ _)
      | ret => exact ⟨rfl, rfl⟩
  | loop b ih =>
    intro s e r h
    simp only [codeT] at h
    refine SemC.loop0 (fun m s' => ∃ q : RT, s' = q.st ∧ loopT (codeT P T rec nt k b) m q = some (e, r)) ⟨k, s, rfl, h⟩ ?_
    rintro m _ ⟨q, rfl, hq⟩
    cases m with
    | zero => cases hq
    | succ m =>
      simp only [loopT] at hq
      split at hq
      · rename_i s' hb
        refine (ih _ _ _ hb).mono ?_
        rintro e' s2 ⟨rfl, rfl⟩
        exact ⟨m, ⟨s', rfl, hq⟩, Nat.lt_succ_self m⟩
      · rename_i hne
        refine (ih _ _ _ hq).mono ?_
        rintro e' s2 ⟨rfl, rfl⟩
        cases e' with
        | normal => exact absurd hq (hne _)
        | exit id => exact ⟨rfl, rfl⟩
        | ret => exact ⟨rfl, rfl⟩
  | scope c ih => intro s e r h; simp only [codeT] at h; exact SemC.scope (ih _ _ _ h)
  | region id ops draw =>
    intro s e r h
    cases draw with
    | false =>
      simp only [codeT] at h
      split at h
      · rename_i s' hs
        cases h
        refine SemC.region ?_
        intro c0 H0 c act g Qx hQ
        exact opsT_ok hnt hT hr _ _ _ hs c0 H0 c act g Qx fun c' s'' act' g' hd hq => hQ c' s'' act' g' hd ⟨rfl, hq⟩
      · cases h
    | true =>
      simp only [codeT] at h
      split at h
      · rename_i hh
        split at h
        · rename_i F H hd
          cases h
          exact SemC.drawn hh.1 hT hh.2 (drawT_ok hnt hr _ _ _ _ _ _ _ hd) ⟨rfl, rfl⟩
        · cases h
      · cases h
  | _ => intro s e r h; simp only [codeT] at h; cases h
noncomputable def resT (T : Ty) (s : RT) : List ResultVar → Option (List AV)
  | [] => some []
  | .tmp t :: l => match resT T s l with
    | some r => some (strip (getT s.F t) :: r)
    | none => none
  | .cell p t :: l => match T t with
    | some ti => match derefF (s.H.get) (strip (getT s.F p)) with
      | some (e, k) => match loadE ti e k with
        | some a => match resT T s l with
          | some r => some (a :: r)
          | none => none
        | none => none
      | none => none
    | none => none
theorem resT_ok {T : Ty} {s : RT} : ∀ (l : List ResultVar) (r : List AV), resT T s l = some r → ResRs T s.st l r := by
  intro l
  induction l with
  | nil => intro r h; simp [resT] at h; subst h; exact .nil
  | cons v l ih =>
    intro r h
    cases v with
    | tmp t =>
      simp only [resT] at h
      split at h
      · rename_i hr; cases h; exact .cons .tmp (ih _ hr)
      · cases h
    | cell p t =>
      simp only [resT] at h
      split at h
      · split at h
        · split at h
          · split at h
            · rename_i ht _ _ _ hd _ _ hl _ _ hr
              cases h
              exact .cons (.cell ht (derefF_ok hd) hl) (ih _ hr)
            · cases h
          · cases h
        · cases h
      · cases h
noncomputable def ofArgs (l : List AV) : Nat → Tr AV :=
  List.rec (motive := fun _ => Nat → Tr AV) (fun _ => .nil) (fun a _ ih i => setT (ih (i + 1)) i a) l
theorem ofArgs_get : ∀ (l : List AV) (i t : Nat), i + l.length ≤ 2 ^ 20 → getT (ofArgs l i) t = if i ≤ t then (l[t - i]?).getD (.sc undef) else .sc undef := by
  intro l
  induction l with
  | nil => intro i t _; simp [ofArgs, getT, Tr.get]
  | cons a l ih =>
    intro i t h
    simp only [List.length_cons] at h
    show getT (setT (ofArgs l (i + 1)) i a) t = _
    rw [getT_set _ _ _ (by omega)]
    by_cases ht : t = i
    · subst ht; rw [upd_same]; simp
    · rw [upd_other _ _ ht, ih (i + 1) t (by omega)]
      by_cases h1 : i + 1 ≤ t
      · rw [if_pos h1, if_pos (by omega)]
        rw [show t - i = (t - (i + 1)) + 1 by omega, List.getElem?_cons_succ]
      · rw [if_neg h1, if_neg (by omega)]
theorem getT_args (as : List AV) (h : as.length ≤ 2 ^ 20) : getT (ofArgs as 0) = argA as := by
  funext t
  rw [ofArgs_get as 0 t (by omega)]
  rfl
noncomputable def callT (P : Program) (T : Ty) (E : Env) (k : Nat) : Nat → RecT
  | 0 => fun _ _ _ _ => none
  | d + 1 => fun f as H n => match E f with
    | some (fn, code) => if (Nat.ble as.length fn.ntmps && Nat.ble fn.ntmps 1048576) = true then (match codeT P T (callT P T E k d) fn.ntmps k code ⟨ofArgs as 0, H, n⟩ with
      | some (.exit _, _) => none
      | some (_, s) => match resT T s fn.results.toList with
        | some rs => some (packA rs, s.H, s.n)
        | none => none
      | none => none) else none
    | none => none
theorem callT_ok {P : Program} {T : Ty} {E : Env} {k : Nat} (hT : TyOk P T) (hE : EnvOk P E) : ∀ d, RecTOk P (callT P T E k d) := by
  intro d
  induction d with
  | zero => intro f as H n r H' n' h; cases h
  | succ d ih =>
    intro f as H n r H' n' h
    simp only [callT] at h
    split at h
    · rename_i fn code hf
      split at h
      · rename_i hle
        simp only [Bool.and_eq_true, Nat.ble_eq] at hle
        have hle2 : fn.ntmps ≤ 2 ^ 20 := hle.2
        have body : ∀ (e : AExit) (s : RT), codeT P T (callT P T E k d) fn.ntmps k code ⟨ofArgs as 0, H, n⟩ = some (e, s) → (∀ id, e ≠ .exit id) → (match resT T s fn.results.toList with
            | some rs => some (packA rs, s.H, s.n)
            | none => none) = some (r, H', n') → HC P f as H.get n (fun r2 H2 n2 => r2 = r ∧ H2 = H'.get ∧ n2 = n') := by
          intro e s hc hne hres
          split at hres
          · rename_i rs hrs
            cases hres
            have hsem := codeT_ok (n0 := n) hle2 hT ih _ _ _ _ hc
            have hst : (RT.mk (ofArgs as 0) H n).st = ⟨argA as, H.get, n⟩ := by simp only [RT.st, getT_args as (by omega)]
            rw [hst] at hsem
            refine HC.of_body hT (hE _ _ _ hf) rfl hle.1 (hsem.mono ?_)
            rintro e' s' ⟨rfl, rfl⟩
            have hq : ∃ rs', ResRs T s.st fn.results.toList rs' ∧ (packA rs' = packA rs ∧ s.st.H = s.H.get ∧ s.st.n = s.n) := ⟨rs, resT_ok _ _ hrs, rfl, rfl, rfl⟩
            cases e' with
            | exit id => exact absurd rfl (hne id)
            | normal => exact hq
            | ret => exact hq
          · cases hres
        split at h
        · cases h
        · rename_i e s hne hc
          exact body e s hc (fun id he => by subst he; exact hne id rfl) h
        · cases h
      · cases h
    · cases h
theorem run_pureT {P : Program} {T : Ty} {E : Env} {k d f : Nat} {as : List AV} {v : Value} (hT : TyOk P T) (hE : EnvOk P E)
    (h : (match callT P T E k d f as .nil 0 with | some (.sc u, _, _) => some u | _ => none) = some v) : Pure P f as (.sc v) := by
  split at h
  · rename_i u H' n' hc
    cases h
    exact Pure.of_hc (callT_ok hT hE d _ _ _ _ _ _ _ hc) .sc
  · cases h
end Go.Av

namespace Go.Av.X
variable [Gls]
open Go.Av
noncomputable def gd1 (nt : Nat) (ops : Array Oper) (A : Nat → AV) (run skip : Prop) (p : Nat × Bool) : Prop :=
  match (ops[p.1]?).bind (·.dst) with
    | some t => Bool.rec (motive := fun _ => Prop) (stk 51) (match strip (A t) with
      | .sc v => Bool.rec (motive := fun _ => Prop) skip run (boolIs p.2 v)
      | _ => stk 52) (Nat.blt t nt)
    | none => stk 53
noncomputable def gdX (nt : Nat) (ops : Array Oper) (A : Nat → AV) (o : Oper) (run skip : Prop) : Prop :=
  Option.rec (motive := fun _ => Prop) run (gd1 nt ops A run skip) o.guard
theorem gdX_ok {nt : Nat} {ops : Array Oper} {A : Nat → AV} {o : Oper} {run skip : Prop} (h : gdX nt ops A o run skip) :
    (run ∧ (o.guard = none ∨ ∃ j want t, o.guard = some (j, want) ∧ (ops[j]?).bind (·.dst) = some t ∧ Nat.blt t nt = true ∧ strip (A t) = .sc (.bool want))) ∨
    (skip ∧ ∃ j want t v, o.guard = some (j, want) ∧ (ops[j]?).bind (·.dst) = some t ∧ Nat.blt t nt = true ∧ strip (A t) = .sc v ∧ boolIs want v = false) := by
  unfold gdX at h
  cases hg : o.guard with
  | none => rw [hg] at h; exact .inl ⟨h, .inl rfl⟩
  | some p =>
    obtain ⟨j, want⟩ := p
    rw [hg] at h
    have h : gd1 nt ops A run skip (j, want) := h
    unfold gd1 at h
    split at h
    · rename_i t hj
      cases ht : Nat.blt t nt with
      | false => rw [ht] at h; cases h
      | true =>
        rw [ht] at h
        have h : (match strip (A t) with
          | .sc v => Bool.rec (motive := fun _ => Prop) skip run (boolIs want v)
          | _ => stk 52) := h
        split at h
        · rename_i v hv
          cases hb : boolIs want v with
          | false => rw [hb] at h; exact .inr ⟨h, j, want, t, v, rfl, hj, ht, hv, hb⟩
          | true =>
            rw [hb] at h
            have : v = .bool want := by
              cases v <;> simp [boolIs] at hb
              rw [hb]
            subst this
            exact .inl ⟨h, .inr ⟨j, want, t, rfl, hj, ht, hv⟩⟩
        · cases h
    · cases h
noncomputable def opsX (T : Ty) (rec : RecX) (nt : Nat) (ops : Array Oper) (l : List Oper) : FX → HX → Nat → (FX → HX → Nat → Prop) → Prop :=
  List.rec (motive := fun _ => FX → HX → Nat → (FX → HX → Nat → Prop) → Prop) (fun F H n k => k F H n) (fun o _ ih F H n k =>
    Bool.rec (motive := fun _ => Prop) (stk 61) (gdX nt ops (frX F) o (opX T rec F H n o fun a H n => setOX F o.dst a fun F => ih F H n k) (setOX F o.dst (.sc undef) fun F => ih F H n k)) (dstOk nt o.dst)) l
theorem opsX_ok {P : Program} {T : Ty} {rec : RecX} {nt n0 : Nat} {ops : Array Oper} (hnt : nt ≤ 256) (hT : TyOk P T) (hr : RecOk P rec) : ∀ (l : List Oper) (F : FX) (H : HX) (n : Nat) (k : FX → HX → Nat → Prop), opsX T rec nt ops l F H n k →
    ∃ F' H' n', k F' H' n' ∧ SemL P nt n0 ops l (fun s' => s' = ⟨frX F', hpX H', n'⟩) ⟨frX F, hpX H, n⟩ := by
  intro l
  induction l with
  | nil => intro F H n k h; exact ⟨F, H, n, h, SemL.nil rfl⟩
  | cons o l ih =>
    intro F H n k h
    cases hd : dstOk nt o.dst with
    | false =>
      have h : Bool.rec (motive := fun _ => Prop) (stk 61) (gdX nt ops (frX F) o (opX T rec F H n o fun a H n => setOX F o.dst a fun F => opsX T rec nt ops l F H n k) (setOX F o.dst (.sc undef) fun F => opsX T rec nt ops l F H n k)) (dstOk nt o.dst) := h
      rw [hd] at h; cases h
    | true =>
      have h : Bool.rec (motive := fun _ => Prop) (stk 61) (gdX nt ops (frX F) o (opX T rec F H n o fun a H n => setOX F o.dst a fun F => opsX T rec nt ops l F H n k) (setOX F o.dst (.sc undef) fun F => opsX T rec nt ops l F H n k)) (dstOk nt o.dst) := h
      rw [hd] at h
      have h : gdX nt ops (frX F) o (opX T rec F H n o fun a H n => setOX F o.dst a fun F => opsX T rec nt ops l F H n k) (setOX F o.dst (.sc undef) fun F => opsX T rec nt ops l F H n k) := h
      have hdlt := dstOk_lt hd
      have hd2 : ∀ t, o.dst = some t → t < 256 := fun t ht => Nat.lt_of_lt_of_le (hdlt t ht) hnt
      rcases gdX_ok h with ⟨h, hg⟩ | ⟨h, j, want, t, v, hg, hj, ht, hv, hb⟩
      · obtain ⟨a, H1, n1, hR, h⟩ := opX_ok (nt := nt) rfl hT hr.X h
        obtain ⟨F1, hF, h⟩ := setOX_ok hd2 h
        obtain ⟨F', H', n', hk, hsem⟩ := ih _ _ _ _ h
        refine ⟨F', H', n', hk, ?_⟩
        have key : SemL P nt n0 ops ({ o with guard := none } :: l) (fun s' => s' = ⟨frX F', hpX H', n'⟩) ⟨frX F, hpX H, n⟩ := by
          refine SemL.step (R := fun a' H' n' => a' = a ∧ H' = hpX H1 ∧ n' = n1) rfl hdlt hR.noGuard ?_
          rintro a' H' n' ⟨rfl, rfl, rfl⟩
          show SemL P nt n0 ops l _ ⟨updO (frX F) o.dst a', hpX H1, n'⟩
          rw [← hF]; exact hsem
        rcases hg with hgn | ⟨j, want, t, hg, hj, ht, hv⟩
        · have ho : ({ o with guard := none } : Oper) = o := by cases o; simp at hgn; subst hgn; rfl
          rw [ho] at key; exact key
        · exact stGuard (b := want) hg hj ht hv hd (fun _ => key) (fun hne => absurd rfl hne)
      · obtain ⟨F1, hF, h⟩ := setOX_ok hd2 h
        obtain ⟨F', H', n', hk, hsem⟩ := ih _ _ _ _ h
        refine ⟨F', H', n', hk, stSkip hg hj ht hv hd hb ?_⟩
        show SemL P nt n0 ops l _ ⟨updO (frX F) o.dst _, hpX H, n⟩
        rw [← hF]; exact hsem
noncomputable def dopX (T : Ty) (rec : RecX) (A : Nat → AV) (V : Heap) (id : Nat) (o : Oper) (k : AV → WEff → Prop) : Prop :=
  match o.op with
  | .move x => sh (evA A x) fun a => k a .none
  | .assign x => sh (evA A x) fun a => k a .none
  | .store t p x => match o.dst with
    | none => match stF T (evA A) V t p x with
      | some (q, z) => fN q fun q => fO fA z fun z => k (.sc undef) (.set q z)
      | none => stk 71
    | some _ => stk 72
  | .call { callee := .value x, args := args, argTypes := _ } => match evA A x with
    | .fn f caps => match mapO (cvF false V 100) (args.toList.map (evA A) ++ caps) with
      | some bs => fDs bs fun bs => rec f bs g8 0 fun r H' _ => match cvF true (hpX H') 100 r with
        | some r' => fD r' fun r' => Bool.rec (motive := fun _ => Prop) (stk 73) (k r' .none) (ownF 100 r')
        | none => stk 74
      | none => stk 75
    | a => StkA 76 a
  | op => match pX T (evA A) V op with
    | some a => fA a fun a => k a .none
    | none => match mkF T (evA A) V id op with
      | some (a, .none) => fA a fun a => k a .none
      | some (a, .new x) => fA a fun a => fO fA x fun x => k a (.new x)
      | some (a, .app old x) => fA a fun a => fN old fun old => fO sh x fun x => k a (.app old x)
      | none => StkO id op
theorem dopX_ok {P : Program} {T : Ty} {rec : RecX} {A : Nat → AV} {V : Heap} {id : Nat} {o : Oper} {k : AV → WEff → Prop} (hr : RecOk P rec) (h : dopX T rec A V id o k) : ∃ a e, DOp P T A V id o a e ∧ k a e := by
  unfold dopX at h
  split at h
  · rename_i x ho
    rw [sh_eq] at h
    exact ⟨_, _, .pu (by rw [ho]; exact .move), h⟩
  · rename_i x ho
    rw [sh_eq] at h
    exact ⟨_, _, .pu (by rw [ho]; exact .assign), h⟩
  · rename_i t p x ho
    split at h
    · rename_i hd
      split at h
      · rename_i hs
        rw [fN_eq, fO_eq fA_eq] at h
        obtain ⟨i, k, y, e, ti, g1, g2, g3, g4, g5, g6, g7, g8, g9, rfl⟩ := stF_ok hs
        exact ⟨_, _, .store ho hd g1 g2 g4 g5 g6 g7 g8 g9, h⟩
      · cases h
    · cases h
  · rename_i x args ts ho
    split at h
    · rename_i f caps hx
      split at h
      · rename_i bs hm
        rw [fDs_eq] at h
        obtain ⟨r, H', n', hc, h⟩ := hr _ _ _ _ _ h
        split at h
        · rename_i r' hcv
          rw [fD_eq] at h
          cases hown : ownF 100 r' with
          | false => rw [hown] at h; cases h
          | true =>
            rw [hown] at h
            obtain ⟨m1, m2⟩ := mapO_ok hm
            rw [hpX_g8] at hc
            exact ⟨_, _, .pure ho hx ⟨m1, fun i a b ha hb => cvF_ok _ _ _ (m2 i a b ha hb)⟩ (Pure.of_hc hc (cvF_ok _ _ _ hcv)) (fun _ _ h => h) (.inl (ownF_ok _ _ hown)), h⟩
        · cases h
      · cases h
    · cases h
  · split at h
    · rename_i hp
      rw [fA_eq] at h
      exact ⟨_, _, .pu (pX_ok hp), h⟩
    · split at h
      · rename_i hm
        rw [fA_eq] at h
        exact ⟨_, _, .zero (mkF_ok hm).1, h⟩
      · rename_i hm
        rw [fA_eq, fO_eq fA_eq] at h
        obtain ⟨h1, h2⟩ := mkF_ok hm
        have := h2 0 _ (.inr rfl)
        exact ⟨_, _, .new h1 this.1 this.2, h⟩
      · rename_i hm
        rw [fA_eq, fN_eq, fO_eq sh_eq] at h
        obtain ⟨h1, h2⟩ := mkF_ok hm
        have := h2 _ _ (.inl rfl)
        exact ⟨_, _, .app h1 this.1 this.2, h⟩
      · cases h
noncomputable def drX (T : Ty) (rec : RecX) (nt base : Nat) (ops : Array Oper) (ms : List Nat) (hs : List (Nat × (Nat → Bool))) (l : List Oper) : Nat → FX → HX → List WEff → (FX → HX → Prop) → Prop :=
  List.rec (motive := fun _ => Nat → FX → HX → List WEff → (FX → HX → Prop) → Prop) (fun _ F H _ k => k F H) (fun o _ ih i F H es k =>
    Bool.rec (motive := fun _ => Prop) (stk 81) (gdX nt ops (frD (badGo i (ms.getD i 0) 0 ops.toList ms) (frX F)) o
      (dopX T rec (frD (badGo i (ms.getD i 0) 0 ops.toList ms) (frX F)) (hpD base (ms.getD i 0) (hz0 o) es (hpX H)) (base + i) o fun a e => weffX (base + i) H e fun H' =>
        Bool.rec (motive := fun _ => Prop) (stk 82) (setOX F o.dst a fun F => ih (i + 1) F H' (es ++ [e]) k) (writeOk base (ms.getD i 0) (e.objs (base + i)) 0 (hs.take i) [] es))
      (setOX F o.dst (.sc undef) fun F => ih (i + 1) F H (es ++ [.none]) k)) (dstOkD nt (badGo i (ms.getD i 0) 0 ops.toList ms) o.dst)) l
theorem drX_ok {P : Program} {T : Ty} {rec : RecX} {nt base : Nat} {ops : Array Oper} {ms : List Nat} (hnt : nt ≤ 256) (hr : RecOk P rec) : ∀ (l : List Oper) (i : Nat) (F : FX) (H : HX) (es : List WEff) (k : FX → HX → Prop),
    drX T rec nt base ops ms (ms.zip (ops.toList.map hz0)) l i F H es k → ∃ F' H', k F' H' ∧ DRun hz0 P T nt base ops ms i l (frX F) (hpX H) es (frX F') (hpX H') := by
  intro l
  induction l with
  | nil => intro i F H es k h; exact ⟨F, H, h, .nil⟩
  | cons o l ih =>
    intro i F H es k h
    have h : Bool.rec (motive := fun _ => Prop) (stk 81) (gdX nt ops (frD (badGo i (ms.getD i 0) 0 ops.toList ms) (frX F)) o
      (dopX T rec (frD (badGo i (ms.getD i 0) 0 ops.toList ms) (frX F)) (hpD base (ms.getD i 0) (hz0 o) es (hpX H)) (base + i) o fun a e => weffX (base + i) H e fun H' =>
        Bool.rec (motive := fun _ => Prop) (stk 82) (setOX F o.dst a fun F => drX T rec nt base ops ms (ms.zip (ops.toList.map hz0)) l (i + 1) F H' (es ++ [e]) k) (writeOk base (ms.getD i 0) (e.objs (base + i)) 0 ((ms.zip (ops.toList.map hz0)).take i) [] es))
      (setOX F o.dst (.sc undef) fun F => drX T rec nt base ops ms (ms.zip (ops.toList.map hz0)) l (i + 1) F H (es ++ [.none]) k)) (dstOkD nt (badGo i (ms.getD i 0) 0 ops.toList ms) o.dst) := h
    cases hd : dstOkD nt (badGo i (ms.getD i 0) 0 ops.toList ms) o.dst with
    | false => rw [hd] at h; cases h
    | true =>
      rw [hd] at h
      have hd2 : ∀ t, o.dst = some t → t < 256 := fun t ht => Nat.lt_of_lt_of_le (dstOk_lt (dstOkD_ok hd) t ht) hnt
      rcases gdX_ok h with ⟨h, hg⟩ | ⟨h, j, want, t, v, hg, hj, ht, hv, hb⟩
      · obtain ⟨a, e, hop, h⟩ := dopX_ok hr h
        obtain ⟨H1, hH, h⟩ := weffX_ok h
        cases hw : writeOk base (ms.getD i 0) (e.objs (base + i)) 0 ((ms.zip (ops.toList.map hz0)).take i) [] es with
        | false => rw [hw] at h; cases h
        | true =>
          rw [hw] at h
          obtain ⟨F1, hF, h⟩ := setOX_ok hd2 h
          obtain ⟨F', H', hk, hrun⟩ := ih _ _ _ _ _ h
          refine ⟨F', H', hk, ?_⟩
          rw [hF, hH] at hrun
          rcases hg with hgn | ⟨j, want, t, hg, hj, ht, hv⟩
          · exact .op hgn hd hop hw hrun
          · exact .run hg hd hj ht hv hop hw hrun
      · obtain ⟨F1, hF, h⟩ := setOX_ok hd2 h
        obtain ⟨F', H', hk, hrun⟩ := ih _ _ _ _ _ h
        rw [hF] at hrun
        exact ⟨F', H', hk, .skip hg hd hj ht hv hb hrun⟩
abbrev KX := AExit → FX → HX → Nat → Prop
abbrev CX := FX → HX → Nat → KX → Prop
noncomputable def loopX (b : CX) (m : Nat) : CX :=
  Nat.rec (motive := fun _ => CX) (fun _ _ _ _ => stk 91) (fun _ ih F H n k => b F H n fun e F H n => AExit.rec (motive := fun _ => Prop) (ih F H n k) (fun i => k (.exit i) F H n) (k .ret F H n) e) m
noncomputable def condX (a : AV) (t e : Prop) : Prop :=
  AV.casesOn (motive_1 := fun _ => Prop) a (stk 93) (fun v => Value.casesOn (motive_1 := fun _ => Prop) v (fun b => Bool.rec (motive := fun _ => Prop) e t b) (fun _ _ => stk 92) (fun _ _ => stk 92) (fun _ _ _ => stk 92) (fun _ => stk 92)
    (fun _ => stk 92) (fun _ _ _ => stk 92) (fun _ => stk 92) (fun _ => stk 92) (fun _ _ _ => stk 92) (stk 92) (fun _ _ => stk 92) (stk 92) (fun _ => stk 92) (fun _ => stk 92))
    (stk 93) (fun _ => stk 93) (fun _ => stk 93) (fun _ _ => stk 93) (fun _ _ _ => stk 93) (fun _ _ _ => stk 93) (fun _ _ _ => stk 93) (fun _ _ => stk 93) (fun _ _ => stk 93) (fun _ _ => stk 93) (fun _ _ => stk 93)
theorem condX_ok {a : AV} {t e : Prop} (h : condX a t e) : (a = .sc (.bool true) ∧ t) ∨ (a = .sc (.bool false) ∧ e) := by
  cases a with
  | sc v =>
    cases v with
    | bool b => cases b with
      | true => exact .inl ⟨rfl, h⟩
      | false => exact .inr ⟨rfl, h⟩
    | _ => cases h
  | _ => cases h
noncomputable def codeX (T : Ty) (rec : RecX) (nt fuel : Nat) (c : Code) : CX :=
  Code.rec (motive := fun _ => CX) (fun F H n k => k .normal F H n)
    (fun _ ops draw F H n k => Bool.rec (motive := fun _ => Prop) (opsX T rec nt ops ops.toList F H n fun F H n => k .normal F H n)
      (Bool.rec (motive := fun _ => Prop) (stk 94) (drX T rec nt n ops (masks ops.toList) ((masks ops.toList).zip (ops.toList.map hz0)) ops.toList 0 F H [] fun F H => fN (n + ops.toList.length) fun n => k .normal F H n) (preLt 0 ops.toList)) draw)
    (fun _ _ iha ihb F H n k => iha F H n fun e F H n => AExit.rec (motive := fun _ => Prop) (ihb F H n k) (fun i => k (.exit i) F H n) (k .ret F H n) e)
    (fun c _ _ iha ihb F H n k => condX (evA (frX F) c) (iha F H n k) (ihb F H n k))
    (fun id _ ih F H n k => ih F H n fun e F H n => AExit.rec (motive := fun _ => Prop) (k .normal F H n) (fun i => Bool.rec (motive := fun _ => Prop) (k (.exit i) F H n) (k .normal F H n) (Nat.beq i id)) (k .ret F H n) e)
    (fun _ ih F H n k => loopX ih fuel F H n k)
    (fun _ _ _ _ _ _ _ _ _ _ => stk 95)
    (fun i F H n k => k (.exit i) F H n)
    (fun _ ih F H n k => ih F H n k) (fun _ F H n k => k .normal F H n) (fun _ _ _ _ _ => stk 96) (fun F H n k => k .ret F H n) (fun _ _ _ _ _ => stk 97) c
def SemD (P : Program) (nt n0 : Nat) (c : Code) (F : FX) (H : HX) (n : Nat) (e : AExit) (F' : FX) (H' : HX) (n' : Nat) : Prop :=
  SemC P nt n0 c (fun e2 s => e2 = e ∧ s = ⟨frX F', hpX H', n'⟩) ⟨frX F, hpX H, n⟩
inductive SemLoop0 (P : Program) (nt n0 : Nat) (b : Code) (e : AExit) (F' : FX) (H' : HX) (n' : Nat) : Nat → FX → HX → Nat → Prop
  | more {m F H n F1 H1 n1} (h : SemD P nt n0 b F H n .normal F1 H1 n1) (hs : SemLoop0 P nt n0 b e F' H' n' m F1 H1 n1) : SemLoop0 P nt n0 b e F' H' n' (m + 1) F H n
  | last {m F H n} (h : SemD P nt n0 b F H n e F' H' n') (hne : e ≠ .normal) : SemLoop0 P nt n0 b e F' H' n' (m + 1) F H n
theorem codeX_ok {P : Program} {T : Ty} {rec : RecX} {nt fuel n0 : Nat} (hm : P.follows .mixedOrders = true) (hnt : nt ≤ 256) (hT : TyOk P T) (hr : RecOk P rec) : ∀ (code : Code) (F : FX) (H : HX) (n : Nat) (k : KX), codeX T rec nt fuel code F H n k →
    ∃ e F' H' n', k e F' H' n' ∧ SemD P nt n0 code F H n e F' H' n' := by
  intro code
  induction code with
  | skip => intro F H n k h; exact ⟨.normal, F, H, n, h, SemC.skip ⟨rfl, rfl⟩⟩
  | label l => intro F H n k h; exact ⟨.normal, F, H, n, h, SemC.label ⟨rfl, rfl⟩⟩
  | exit id => intro F H n k h; exact ⟨.exit id, F, H, n, h, SemC.exit ⟨rfl, rfl⟩⟩
  | ret => intro F H n k h; exact ⟨.ret, F, H, n, h, SemC.ret ⟨rfl, rfl⟩⟩
  | seq a b iha ihb =>
    intro F H n k h
    have h : codeX T rec nt fuel a F H n (fun e F H n => AExit.rec (motive := fun _ => Prop) (codeX T rec nt fuel b F H n k) (fun i => k (.exit i) F H n) (k .ret F H n) e) := h
    obtain ⟨e, F1, H1, n1, h1, s1⟩ := iha _ _ _ _ h
    cases e with
    | normal =>
      obtain ⟨e, F2, H2, n2, h2, s2⟩ := ihb _ _ _ _ h1
      refine ⟨e, F2, H2, n2, h2, SemC.seq (SemC.mono s1 ?_)⟩
      rintro e' s ⟨rfl, rfl⟩
      exact s2
    | exit i =>
      refine ⟨.exit i, F1, H1, n1, h1, SemC.seq (SemC.mono s1 ?_)⟩
      rintro e' s ⟨rfl, rfl⟩
      exact ⟨rfl, rfl⟩
    | ret =>
      refine ⟨.ret, F1, H1, n1, h1, SemC.seq (SemC.mono s1 ?_)⟩
      rintro e' s ⟨rfl, rfl⟩
      exact ⟨rfl, rfl⟩
  | cond x a b iha ihb =>
    intro F H n k h
    have h : condX (evA (frX F) x) (codeX T rec nt fuel a F H n k) (codeX T rec nt fuel b F H n k) := h
    rcases condX_ok h with ⟨hx, h⟩ | ⟨hx, h⟩
    · obtain ⟨e, F1, H1, n1, h1, s1⟩ := iha _ _ _ _ h
      exact ⟨e, F1, H1, n1, h1, SemC.cond (s := ⟨frX F, hpX H, n⟩) hx (fun _ => s1) (fun h => by cases h)⟩
    · obtain ⟨e, F1, H1, n1, h1, s1⟩ := ihb _ _ _ _ h
      exact ⟨e, F1, H1, n1, h1, SemC.cond (s := ⟨frX F, hpX H, n⟩) hx (fun h => by cases h) (fun _ => s1)⟩
  | block id c ih =>
    intro F H n k h
    have h : codeX T rec nt fuel c F H n (fun e F H n => AExit.rec (motive := fun _ => Prop) (k .normal F H n) (fun i => Bool.rec (motive := fun _ => Prop) (k (.exit i) F H n) (k .normal F H n) (Nat.beq i id)) (k .ret F H n) e) := h
    obtain ⟨e, F1, H1, n1, h1, s1⟩ := ih _ _ _ _ h
    cases e with
    | normal =>
      refine ⟨.normal, F1, H1, n1, h1, SemC.block (SemC.mono s1 ?_)⟩
      rintro e' s ⟨rfl, rfl⟩
      exact ⟨rfl, rfl⟩
    | ret =>
      refine ⟨.ret, F1, H1, n1, h1, SemC.block (SemC.mono s1 ?_)⟩
      rintro e' s ⟨rfl, rfl⟩
      exact ⟨rfl, rfl⟩
    | exit i =>
      have h1 : Bool.rec (motive := fun _ => Prop) (k (.exit i) F1 H1 n1) (k .normal F1 H1 n1) (Nat.beq i id) := h1
      cases hb : Nat.beq i id with
      | true =>
        rw [hb] at h1
        refine ⟨.normal, F1, H1, n1, h1, SemC.block (SemC.mono s1 ?_)⟩
        rintro e' s ⟨rfl, rfl⟩
        show bif Nat.beq i id then _ else _
        rw [hb]
        exact ⟨rfl, rfl⟩
      | false =>
        rw [hb] at h1
        refine ⟨.exit i, F1, H1, n1, h1, SemC.block (SemC.mono s1 ?_)⟩
        rintro e' s ⟨rfl, rfl⟩
        show bif Nat.beq i id then _ else _
        rw [hb]
        exact ⟨rfl, rfl⟩
  | loop b ih =>
    intro F H n k h
    have h : loopX (codeX T rec nt fuel b) fuel F H n k := h
    have key : ∀ m F H n, loopX (codeX T rec nt fuel b) m F H n k → ∃ e F' H' n', k e F' H' n' ∧ SemLoop0 P nt n0 b e F' H' n' m F H n := by
      intro m
      induction m with
      | zero => intro F H n h; cases h
      | succ m ihm =>
        intro F H n h
        have h : codeX T rec nt fuel b F H n (fun e F H n => AExit.rec (motive := fun _ => Prop) (loopX (codeX T rec nt fuel b) m F H n k) (fun i => k (.exit i) F H n) (k .ret F H n) e) := h
        obtain ⟨e, F1, H1, n1, h1, s1⟩ := ih _ _ _ _ h
        cases e with
        | normal =>
          obtain ⟨e, F2, H2, n2, h2, s2⟩ := ihm _ _ _ h1
          exact ⟨e, F2, H2, n2, h2, .more s1 s2⟩
        | exit i => exact ⟨_, F1, H1, n1, h1, .last s1 (by simp)⟩
        | ret => exact ⟨_, F1, H1, n1, h1, .last s1 (by simp)⟩
    obtain ⟨e, F', H', n', hk, hl⟩ := key _ _ _ _ h
    refine ⟨e, F', H', n', hk, ?_⟩
    refine SemC.loop0 (fun m s => ∃ F H n, s = ⟨frX F, hpX H, n⟩ ∧ SemLoop0 P nt n0 b e F' H' n' m F H n) ⟨fuel, F, H, n, rfl, hl⟩ ?_
    rintro m _ ⟨F, H, n, rfl, hl⟩
    cases hl with
    | more s1 s2 =>
      refine SemC.mono s1 ?_
      rintro e' s ⟨rfl, rfl⟩
      exact ⟨_, ⟨_, _, _, rfl, s2⟩, Nat.lt_succ_self _⟩
    | last s1 hne =>
      refine SemC.mono s1 ?_
      rintro e' s ⟨rfl, rfl⟩
      cases e' with
      | normal => exact absurd rfl hne
      | exit id => exact ⟨rfl, rfl⟩
      | ret => exact ⟨rfl, rfl⟩
  | scope c ih =>
    intro F H n k h
    obtain ⟨e, F1, H1, n1, h1, s1⟩ := ih F H n k h
    exact ⟨e, F1, H1, n1, h1, SemC.scope s1⟩
  | region id ops draw =>
    intro F H n k h
    cases draw with
    | false =>
      have h : opsX T rec nt ops ops.toList F H n (fun F H n => k .normal F H n) := h
      obtain ⟨F', H', n', hk, hs⟩ := opsX_ok (n0 := n0) hnt hT hr _ _ _ _ _ h
      refine ⟨.normal, F', H', n', hk, SemC.region ?_⟩
      intro c0 H0 c act g Qx hQ
      exact hs c0 H0 c act g Qx fun c' s'' act' g' hd hq => hQ c' s'' act' g' hd ⟨rfl, hq⟩
    | true =>
      cases hp : preLt 0 ops.toList with
      | false =>
        have h : Bool.rec (motive := fun _ => Prop) (stk 94) (drX T rec nt n ops (masks ops.toList) ((masks ops.toList).zip (ops.toList.map hz0)) ops.toList 0 F H [] fun F H => fN (n + ops.toList.length) fun n => k .normal F H n) (preLt 0 ops.toList) := h
        rw [hp] at h; cases h
      | true =>
        have h : Bool.rec (motive := fun _ => Prop) (stk 94) (drX T rec nt n ops (masks ops.toList) ((masks ops.toList).zip (ops.toList.map hz0)) ops.toList 0 F H [] fun F H => fN (n + ops.toList.length) fun n => k .normal F H n) (preLt 0 ops.toList) := h
        rw [hp] at h
        obtain ⟨F', H', hk, hrun⟩ := drX_ok hnt hr _ _ _ _ _ _ h
        rw [fN_eq] at hk
        exact ⟨.normal, F', H', _, hk, SemC.drawn (s := ⟨frX F, hpX H, n⟩) hm hT hp hrun ⟨rfl, rfl⟩⟩
  | _ => intro F H n k h; cases h
end Go.Av.X

namespace Go.Av.X
variable [Gls]
open Go.Av
noncomputable def argX (as : List AV) : Nat → FX → (FX → Prop) → Prop :=
  List.rec (motive := fun _ => Nat → FX → (FX → Prop) → Prop) (fun _ F k => k F) (fun a _ ih i F k => setX F i a fun F => ih (i + 1) F k) as
theorem argX_ok : ∀ (as : List AV) (i : Nat) (F : FX) (k : FX → Prop), i + as.length ≤ 256 → argX as i F k → ∃ F', k F' ∧ ∀ t, frX F' t = if i ≤ t ∧ t < i + as.length then (as[t - i]?).getD (.sc undef) else frX F t := by
  intro as
  induction as with
  | nil => intro i F k _ h; exact ⟨F, h, fun t => by rw [if_neg (by simp)]⟩
  | cons a as ih =>
    intro i F k hl h
    simp only [List.length_cons] at hl
    have h : setX F i a (fun F => argX as (i + 1) F k) := h
    rw [setX_eq] at h
    obtain ⟨F', hk, hF⟩ := ih _ _ _ (by omega) h
    refine ⟨F', hk, fun t => ?_⟩
    rw [hF, frX_put F i (by omega)]
    by_cases ht : t = i
    · subst ht; rw [if_neg (by omega), upd_same, if_pos (by simp)]; simp
    · by_cases h2 : i + 1 ≤ t ∧ t < i + 1 + as.length
      · rw [if_pos h2, if_pos ⟨by omega, by simp only [List.length_cons]; omega⟩, show t - i = (t - (i + 1)) + 1 by omega, List.getElem?_cons_succ]
      · rw [if_neg h2, upd_other _ _ ht, if_neg]
        simp only [List.length_cons]; omega
theorem argX_fr {as : List AV} {k : FX → Prop} (hl : as.length ≤ 256) (h : argX as 0 f4 k) : ∃ F', k F' ∧ frX F' = argA as := by
  obtain ⟨F', hk, hF⟩ := argX_ok as 0 f4 k (by omega) h
  refine ⟨F', hk, ?_⟩
  funext t
  rw [hF, frX_f4]
  unfold argA
  by_cases ht : t < as.length
  · rw [if_pos ⟨Nat.zero_le _, by omega⟩, Nat.sub_zero]
  · rw [if_neg (by omega), List.getElem?_eq_none (by omega)]; rfl
def resG (T : Ty) (A : Nat → AV) (H : Heap) : List ResultVar → Option (List AV)
  | [] => some []
  | .tmp t :: l => match resG T A H l with
    | some r => some (strip (A t) :: r)
    | none => none
  | .cell p t :: l => match T t with
    | some ti => match derefF H (strip (A p)) with
      | some (e, k) => match loadE ti e k with
        | some a => match resG T A H l with
          | some r => some (a :: r)
          | none => none
        | none => none
      | none => none
    | none => none
theorem resG_ok {T : Ty} {s : St} : ∀ (l : List ResultVar) (r : List AV), resG T s.A s.H l = some r → ResRs T s l r := by
  intro l
  induction l with
  | nil => intro r h; simp [resG] at h; subst h; exact .nil
  | cons v l ih =>
    intro r h
    cases v with
    | tmp t =>
      simp only [resG] at h
      split at h
      · rename_i hr; cases h; exact .cons .tmp (ih _ hr)
      · cases h
    | cell p t =>
      simp only [resG] at h
      split at h
      · split at h
        · split at h
          · split at h
            · rename_i ht _ _ _ hd _ _ hl _ _ hr
              cases h
              exact .cons (.cell ht (derefF_ok hd) hl) (ih _ hr)
            · cases h
          · cases h
        · cases h
      · cases h
noncomputable def retX (T : Ty) (l : List ResultVar) (F : FX) (H : HX) (n : Nat) (k : AV → HX → Nat → Prop) : Prop :=
  match resG T (frX F) (hpX H) l with
  | some rs => fsp fA rs fun rs => sh (packA rs) fun a => k a H n
  | none => stk 101
noncomputable def callX (T : Ty) (E : Env) (pr : RecX) (fuel d : Nat) : RecX :=
  Nat.rec (motive := fun _ => RecX) (fun _ _ _ _ _ => stk 102) (fun _ ih f as H n k =>
    match E f with
    | some (fn, code) => Bool.rec (motive := fun _ => Prop) (stk 103) (argX as 0 f4 fun F => codeX T ih fn.ntmps fuel code F H n fun e F H n =>
        AExit.rec (motive := fun _ => Prop) (retX T fn.results.toList F H n k) (fun _ => stk 104) (retX T fn.results.toList F H n k) e) (Nat.ble as.length fn.ntmps && Nat.ble fn.ntmps 256)
    | none => pr f as H n k) d
theorem callX_ok {P : Program} {T : Ty} {E : Env} {pr : RecX} {fuel : Nat} (hm : P.follows .mixedOrders = true) (hT : TyOk P T) (hE : EnvOk P E) (hp : RecOk P pr) : ∀ d, RecOk P (callX T E pr fuel d) := by
  intro d
  induction d with
  | zero => intro f as H n k h; cases h
  | succ d ih =>
    intro f as H n k h
    have h : (match E f with
      | some (fn, code) => Bool.rec (motive := fun _ => Prop) (stk 103) (argX as 0 f4 fun F => codeX T (callX T E pr fuel d) fn.ntmps fuel code F H n fun e F H n =>
          AExit.rec (motive := fun _ => Prop) (retX T fn.results.toList F H n k) (fun _ => stk 104) (retX T fn.results.toList F H n k) e) (Nat.ble as.length fn.ntmps && Nat.ble fn.ntmps 256)
      | none => pr f as H n k) := h
    split at h
    · rename_i fn code hf
      cases hle : (Nat.ble as.length fn.ntmps && Nat.ble fn.ntmps 256) with
      | false => rw [hle] at h; cases h
      | true =>
        rw [hle] at h
        simp only [Bool.and_eq_true, Nat.ble_eq] at hle
        obtain ⟨F0, h, hF0⟩ := argX_fr (by omega) h
        obtain ⟨e, F', H', n', h1, hsem⟩ := codeX_ok (n0 := n) hm hle.2 hT ih _ _ _ _ _ h
        have fin : retX T fn.results.toList F' H' n' k → ∃ r, k r H' n' ∧ ∃ rs, ResRs T ⟨frX F', hpX H', n'⟩ fn.results.toList rs ∧ packA rs = r := by
          intro h
          unfold retX at h
          split at h
          · rename_i rs hrs
            rw [fsp_eq fA_eq, sh_eq] at h
            exact ⟨_, h, rs, resG_ok (s := ⟨frX F', hpX H', n'⟩) _ _ hrs, rfl⟩
          · cases h
        unfold SemD at hsem
        rw [hF0] at hsem
        cases e with
        | exit i => cases h1
        | normal =>
          obtain ⟨r, hk, rs, hrs, hpk⟩ := fin h1
          refine ⟨r, H', n', ?_, hk⟩
          refine HC.of_body hT (hE _ _ _ hf) rfl hle.1 (hsem.mono ?_)
          rintro e' s' ⟨rfl, rfl⟩
          exact ⟨rs, hrs, hpk, rfl, rfl⟩
        | ret =>
          obtain ⟨r, hk, rs, hrs, hpk⟩ := fin h1
          refine ⟨r, H', n', ?_, hk⟩
          refine HC.of_body hT (hE _ _ _ hf) rfl hle.1 (hsem.mono ?_)
          rintro e' s' ⟨rfl, rfl⟩
          exact ⟨rs, hrs, hpk, rfl, rfl⟩
    · exact hp _ _ _ _ _ h
noncomputable def prNone : RecX := fun _ _ _ _ _ => stk 105
theorem prNone_ok (P : Program) : RecOk P prNone := fun _ _ _ _ _ h => by cases h
noncomputable def isV (v : Value) (a : AV) (_ : HX) (_ : Nat) : Prop := a = .sc v
theorem run_pureX {P : Program} {T : Ty} {E : Env} {pr : RecX} {fuel d f : Nat} {as : List AV} {r : AV} (hm : P.follows .mixedOrders = true) (hT : TyOk P T) (hE : EnvOk P E) (hp : RecOk P pr)
    (h : callX T E pr fuel d f as g8 0 fun a H _ => cvF true (hpX H) 100 a = some r) : Pure P f as r := by
  obtain ⟨r', H', n', h1, h2⟩ := callX_ok hm hT hE hp d _ _ _ _ _ h
  rw [hpX_g8] at h1
  exact Pure.of_hc h1 (cvF_ok _ _ _ h2)
end Go.Av.X

namespace Go.Av
variable [Gls]
open MapKept
noncomputable def setV (k v : Value) : List (Value × Value) → List (Value × Value)
  | [] => [(k, v)]
  | (a, b) :: r => open Classical in if a = k then (k, v) :: r else (a, b) :: setV k v r
noncomputable def getV (k : Value) : List (Value × Value) → Option Value
  | [] => none
  | (a, b) :: r => open Classical in if a = k then some b else getV k r
theorem setV_at {k v : Value} : ∀ (l : List (Value × Value)) (j : Nat) (p : Value × Value), l[j]? = some p → p.1 = k → (∀ i q, i < j → l[i]? = some q → q.1 ≠ k) → setV k v l = l.set j (k, v) ∧ getV k l = some p.2 := by
  intro l
  induction l with
  | nil => intro j p h; simp at h
  | cons a r ih =>
    obtain ⟨a1, a2⟩ := a
    intro j p h hk hn
    cases j with
    | zero => simp at h; subst h; simp only at hk; simp [setV, getV, hk]
    | succ j =>
      have h0 : a1 ≠ k := hn 0 (a1, a2) (Nat.succ_pos j) rfl
      obtain ⟨h1, h2⟩ := ih j p (by simpa using h) hk (fun i q hi hq => hn (i + 1) q (Nat.succ_lt_succ hi) (by simpa using hq))
      simp [setV, getV, h0, h1, h2]
theorem setV_new {k v : Value} : ∀ (l : List (Value × Value)), (∀ q ∈ l, q.1 ≠ k) → setV k v l = l ++ [(k, v)] ∧ getV k l = none := by
  intro l
  induction l with
  | nil => intro _; exact ⟨rfl, rfl⟩
  | cons a r ih =>
    obtain ⟨a1, a2⟩ := a
    intro hn
    have h0 : a1 ≠ k := hn (a1, a2) (by simp)
    obtain ⟨h1, h2⟩ := ih (fun q hq => hn q (List.mem_cons_of_mem _ hq))
    simp [setV, getV, h0, h1, h2]
theorem findNow_first {d : TypeDesc} {k : Value} (hk : IsKey d k) : ∀ (l : List MapEntry) (i : Nat), (∀ x ∈ l, IsKey d x.key) →
    (Instr.findNow d k l i = some none ∧ ∀ x ∈ l, x.key ≠ k) ∨ ∃ j e, Instr.findNow d k l i = some (some (i + j, e.val)) ∧ l[j]? = some e ∧ e.key = k ∧ ∀ m x, m < j → l[m]? = some x → x.key ≠ k := by
  intro l
  induction l with
  | nil => intro i _; exact .inl ⟨rfl, by simp⟩
  | cons e es ih =>
    intro i h
    obtain ⟨r, hr, hiff⟩ := sameNow_of_keys hk (h e (by simp))
    cases r with
    | true => exact .inr ⟨0, e, by simp [Instr.findNow, hr], rfl, (hiff.1 rfl).symm, fun m x hm => absurd hm (Nat.not_lt_zero m)⟩
    | false =>
      have hne : e.key ≠ k := fun q => by have := hiff.2 q.symm; cases this
      rcases ih (i + 1) (fun x hx => h x (List.mem_cons_of_mem _ hx)) with ⟨h1, h2⟩ | ⟨j, e', h1, h2, h3, h4⟩
      · exact .inl ⟨by simp [Instr.findNow, hr, h1], fun x hx => by
          rcases List.mem_cons.1 hx with rfl | hx
          · exact hne
          · exact h2 x hx⟩
      · refine .inr ⟨j + 1, e', by simp [Instr.findNow, hr, h1]; omega, by simpa using h2, h3, fun m x hm hx => ?_⟩
        cases m with
        | zero => simp at hx; subst hx; exact hne
        | succ m => exact h4 m x (by omega) (by simpa using hx)
theorem sameBits_key {d : TypeDesc} {k : Value} (hk : IsKey d k) (n : Nat) : Instr.sameBits (n + 1) k k = true := by
  cases d <;> cases k <;> simp_all [IsKey, Instr.sameBits, bytes_beq]
theorem run_mapUpdate_is {P : Program} {w : World} {b : Nat} {l : List (Value × Value)} {t kt et : TypeId} {d : TypeDesc} {k v : Value} (hm : P.underlying t = some (.map kt et)) (hd : P.underlying kt = some d)
    (hM : MapIs w b l) (hk : IsKey d k) (hks : ∀ p ∈ l, IsKey d p.1) :
    ∃ o', (Instr.mapUpdate t (.map (some b)) k v).run P w = .ok () { w with heap := w.heap.setIfInBounds b o' } ∧ MapIs { w with heap := w.heap.setIfInBounds b o' } b (setV k v l) := by
  obtain ⟨es, clock, hb, hl, hp, hc⟩ := hM
  have hes : ∀ x ∈ es.toList, IsKey d x.key := fun x hx => hks (x.key, x.val) (by rw [← hl]; exact List.mem_map.2 ⟨x, hx, rfl⟩)
  have hset : ∀ o', (w.heap.setIfInBounds b o')[b]? = some o' := fun o' => (heap_set (o' := o') hb).1
  rcases findNow_first hk es.toList 0 hes with ⟨h1, h2⟩ | ⟨j, e, h1, h2, h3, h4⟩
  · refine ⟨.map (es.push { key := k, val := v, born := clock }) (clock + 1), ?_, es.push { key := k, val := v, born := clock }, clock + 1, hset _, ?_, ?_, ?_⟩
    · simp [Instr.mapUpdate, run_underlying hm, MapKept.run_getObj_map hb, run_checkKey hd hk, run_findKey hd h1, MapKept.run_setObj_map _ hb]
    · rw [Array.toList_push, List.map_append, hl]
      rw [(setV_new (v := v) l (fun q hq => by
        rw [← hl] at hq
        obtain ⟨x, hx, rfl⟩ := List.mem_map.1 hq
        exact h2 x hx)).1]
      rfl
    · rw [Array.toList_push]
      exact List.pairwise_append.2 ⟨hp, List.pairwise_singleton _ _, fun a ha b' hb' => by rw [List.mem_singleton.1 hb']; exact hc a ha⟩
    · intro x hx
      rw [Array.toList_push, List.mem_append] at hx
      rcases hx with hx | hx
      · exact Nat.lt_succ_of_lt (hc x hx)
      · rw [List.mem_singleton.1 hx]; exact Nat.lt_succ_self _
  · have he : es[j]? = some e := by simpa using h2
    have hlj : l[j]? = some (e.key, e.val) := by rw [← hl, List.getElem?_map, h2]; rfl
    have hm2 : (es.modify j fun e => { e with key := k, val := v }).toList = es.toList.modify j fun e => { e with key := k, val := v } := by simp
    refine ⟨.map (es.modify j fun e => { e with key := k, val := v }) clock, ?_, es.modify j fun e => { e with key := k, val := v }, clock, hset _, ?_, ?_, ?_⟩
    · have hst : (Instr.keyThatStays k k).run P w = .ok k w := by simp [Instr.keyThatStays, sameBits_key hk]
      simp only [Nat.zero_add] at h1
      simp [Instr.mapUpdate, run_underlying hm, MapKept.run_getObj_map hb, run_checkKey hd hk, run_findKey hd h1, he, h3, hst, MapKept.run_setObj_map _ hb]
    · rw [hm2, (setV_at (v := v) l j _ hlj h3 (fun i q hi hq => by
        rw [← hl, List.getElem?_map] at hq
        cases hx : es.toList[i]? with
        | none => rw [hx] at hq; cases hq
        | some x => rw [hx] at hq; cases hq; exact h4 i x hi hx)).1, ← hl]
      apply List.ext_getElem?
      intro i
      simp only [List.getElem?_map, List.getElem?_modify, List.getElem?_set]
      by_cases hij : j = i
      · subst hij
        have hlt : j < es.toList.length := (List.getElem?_eq_some_iff.1 h2).1
        simp [he] at *
        simpa using hlt
      · simp [hij]
    · rw [hm2]
      refine List.pairwise_iff_getElem.2 fun i i' hi hi' hlt => ?_
      have := List.pairwise_iff_getElem.1 hp i i' (by simpa using hi) (by simpa using hi') hlt
      simp only [List.getElem_modify]
      split <;> split <;> exact this
    · intro x hx
      rw [hm2] at hx
      obtain ⟨i, hi⟩ := List.getElem?_of_mem hx
      rw [List.getElem?_modify] at hi
      cases hy : es.toList[i]? with
      | none => rw [hy] at hi; simp at hi
      | some y =>
        rw [hy] at hi
        have := hc y (List.mem_of_getElem? hy)
        by_cases hij : j = i
        · simp [hij] at hi; rw [← hi]; exact this
        · simp [hij] at hi; rw [← hi]; exact this
theorem Inv.aside {c : Ctx} {H : Heap} {M : Nat → Prop} (hI : Inv c H M) {b : Nat} {w' : World} (hsz : w'.heap.size = c.w.heap.size) (hw : ∀ q, q ≠ b → w'.heap[q]? = c.w.heap[q]?) (hsa : ¬ c.Sa b ∧ ¬ c.So b) (hob : ∀ o x, H o = some x → (c.ρ o).blk ≠ b) :
    c.Le M { c with w := w' } ∧ Inv { c with w := w' } H M := by
  have hle : c.Le M { c with w := w' } := ⟨fun _ _ => rfl, fun _ h => h, fun _ h => h, fun q hq => hw q (fun e => by subst e; exact hq.elim hsa.1 hsa.2), rfl⟩
  refine ⟨hle, ⟨?_, hI.sep, hI.stab, fun q hq => by have := hI.lt q hq; simp only [hsz]; exact this, by have := hI.base; simp only [hsz]; exact this, hI.own, hI.low, hI.glob.mono hle⟩⟩
  intro p x hx
  obtain ⟨h1, ⟨⟨cur, hb, hs, hc⟩, h3, h4, h5⟩, h6⟩ := hI.obj p x hx
  refine ⟨h1, ⟨⟨cur, ?_, hs, ?_⟩, h3, h4, h5⟩, h6⟩
  · show w'.heap[(c.ρ p).blk]? = _
    rw [hw _ (hob p x hx)]; exact hb
  · intro i e he
    obtain ⟨g1, g2⟩ := hc i e he
    exact ⟨g1, fun k a ha => by obtain ⟨v, hv, hr, h7⟩ := g2 k a ha; exact ⟨v, hv, hr.mono hle (.inr (h6 e (List.mem_of_getElem? he) a (List.mem_of_getElem? ha))), h7⟩⟩
section
variable {P : Program} {nt n0 : Nat} {Q : AExit → St → Mu → Prop} {ops : Array Oper} {l : List Oper} {o : Oper} {K : List Kn} {L : List (Nat × AV)} {G : List (Nat × Obj)} {n : Nat} {μ : Mu}
theorem Carry_run_makeMap {P : Program} (t : TypeId) (w : World) : (Instr.makeMap t none).run P w = .ok (.map (some w.heap.size)) (w.alloc (.map #[] 0)) := rfl
theorem SemK.mapNew {t : Nat} (ho : o.op = .makeMap t none) (hg : o.guard = none) (hd : dstOk nt o.dst = true)
    (h : ∀ b, SemK P nt n0 Q (.ops ops l) K ⟨fr (putO o.dst (.sc (.map (some b))) L), hp G, n⟩ ((b, .map []) :: μ)) : SemK P nt n0 Q (.ops ops (o :: l)) K ⟨fr L, hp G, n⟩ μ := by
  intro c0 H0 c act g hm Qx hQ R hR
  refine wpListR_step fun K' hK' => ?_
  rw [if_pos (by simp [Region.wanted, hg])]
  have hrun : (execOp act.eval o).run P c.w = .ok (.value (.map (some c.w.heap.size))) (c.w.alloc (.map #[] 0)) := by
    obtain ⟨dst, op, type, pos, after, guard⟩ := o
    simp only at ho
    subst ho
    simp only [execOp, Sem.run_bind, Carry_run_makeMap]
    rfl
  refine Oper.wpR (fun d hd => by rw [hd] at ho; cases ho) ?_
  unfold Oper.wp
  rw [hrun]
  obtain ⟨h1, h2, h3⟩ := g.inv.waste (w' := c.w.alloc (.map #[] 0)) (.map #[] 0) rfl rfl rfl ⟨rfl, Nat.le_refl _⟩
  have g2 := (g.rebase).next (c' := { c with w := c.w.alloc (.map #[] 0) }) (dst := o.dst) (a := .sc (.map (some c.w.heap.size))) (v := .map (some c.w.heap.size)) (dstOk_lt hd) h1 rfl (fun b hb => .inl hb) h3 (fun q x hx => .inr ⟨q, x, hx, rfl⟩) h2 g.solo (Nat.le_refl _) .sc .sc
  have hk := hm.kept g2.reach
  have hnew : (c.w.alloc (.map #[] 0)).heap[c.w.heap.size]? = some (.map #[] 0) := (heap_alloc c.w _).1
  have hb := h c.w.heap.size
  rw [putO_fr] at hb
  refine hK' _ _ (hb c0 H0 { c with w := c.w.alloc (.map #[] 0) } _ (.join g.reach g2) ⟨?_, ?_, ?_, (put_defers _ _ _).trans hm.ds⟩ Qx hQ R hR)
  · intro p hp
    rcases List.mem_cons.1 hp with rfl | hp
    · exact ⟨#[], 0, hnew, rfl, List.Pairwise.nil, fun e he => by simp at he⟩
    · exact hk.is p hp
  · intro p hp
    rcases List.mem_cons.1 hp with rfl | hp
    · refine ⟨fun hs => Nat.lt_irrefl _ (g.inv.lt _ (.inl hs)), fun hs => Nat.lt_irrefl _ (g.inv.lt _ (.inr hs)), fun q x hx he => ?_, g.reach.size⟩
      obtain ⟨_, ⟨⟨cur, hcb, _⟩, _, _, _⟩, _⟩ := g.inv.obj q x hx
      have he' : (c.ρ q).blk = c.w.heap.size := he
      rw [he'] at hcb
      simp at hcb
    · exact hk.away p hp
  · refine List.nodup_cons.2 ⟨fun hmem => ?_, hk.nodup⟩
    obtain ⟨p, hp, he⟩ := List.mem_map.1 hmem
    have := (hm.is p hp).lt
    simp only at he
    omega
theorem SemK.mapUpd {T : Ty} {t b kt et : Nat} {m k x : Operand} {qm qk qx : List Prop} {kv xv : Value} {es : List (Value × Value)} {ti : TI} {d : TypeDesc} (hT : TyOk P T) (ho : o.op = .mapUpdate t m k x) (hg : o.guard = none) (hd : o.dst = none)
    (ht : T t = some ti) (hkd : ti.kind = .map kt et) (hu : P.underlying kt = some d)
    (hm : rd L m = (.sc (.map (some b)), qm)) (hk : rd L k = (.sc kv, qk)) (hx : rd L x = (.sc xv, qx)) (hqm : allP qm) (hqk : allP qk) (hqx : allP qx) (hik : IsKey d kv) (hks : ∀ p ∈ es, IsKey d p.1)
    (h : SemK P nt n0 Q (.ops ops l) K ⟨fr L, hp G, n⟩ ((b, setV kv xv es) :: μ)) : SemK P nt n0 Q (.ops ops (o :: l)) K ⟨fr L, hp G, n⟩ ((b, es) :: μ) := by
  intro c0 H0 c act g hM Qx hQ R hR
  refine wpListR_step fun K' hK' => ?_
  rw [if_pos (by simp [Region.wanted, hg])]
  have em : act.eval m = .map (some b) := by have := g.ev m; rw [show evA (St.A ⟨fr L, hp G, n⟩) m = _ from rd_ok hm hqm] at this; exact this.sc_inv
  have ek : act.eval k = kv := by have := g.ev k; rw [show evA (St.A ⟨fr L, hp G, n⟩) k = _ from rd_ok hk hqk] at this; exact this.sc_inv
  have ex : act.eval x = xv := by have := g.ev x; rw [show evA (St.A ⟨fr L, hp G, n⟩) x = _ from rd_ok hx hqx] at this; exact this.sc_inv
  have hu1 : P.underlying t = some (.map kt et) := by
    obtain ⟨i, dd, _, hdd, _, hkk, _⟩ := tyInfo_parts (hT t ti ht)
    rw [hkd] at hkk
    cases dd <;> simp [kindOf] at hkk
    obtain ⟨rfl, rfl⟩ := hkk
    exact hdd
  obtain ⟨o', hrun, hmap⟩ := run_mapUpdate_is (v := xv) hu1 hu (hM.is (b, es) (by simp)) hik hks
  have hex : (execOp act.eval o).run P c.w = .ok .skip { c.w with heap := c.w.heap.setIfInBounds b o' } := by
    obtain ⟨dst, op, type, pos, after, guard⟩ := o
    simp only at ho
    subst ho
    simp only [execOp, em, ek, ex, Sem.run_bind, hrun]
    rfl
  refine Oper.wpR (fun d hd => by rw [hd] at ho; cases ho) ?_
  unfold Oper.wp
  rw [hex]
  obtain ⟨a1, a2, a3, a4⟩ := hM.away (b, es) (by simp)
  obtain ⟨es0, cl, hb0, _⟩ := hM.is (b, es) (by simp)
  have hoth : ∀ q, q ≠ b → ({ c.w with heap := c.w.heap.setIfInBounds b o' } : World).heap[q]? = c.w.heap[q]? := (heap_set (o' := o') hb0).2
  obtain ⟨h1, h2⟩ := g.inv.aside (w' := { c.w with heap := c.w.heap.setIfInBounds b o' }) (by simp) hoth ⟨a1, a2⟩ a3
  have g2 : Good nt c0 H0 n0 { c with w := { c.w with heap := c.w.heap.setIfInBounds b o' } } ⟨fr L, hp G, n⟩ act := by
    refine ⟨h2, g.solo, fun q => (g.frame q).mono h1 (.inr (g.ok q)), g.ok, g.size, ?_, g.le0⟩
    have r := g.reach
    refine ⟨r.rho, r.os, r.tape, ⟨r.output.1, Nat.le_trans r.output.2 (by first | exact Nat.le_refl _ | exact dr_le (Nat.le_succ _) | (simp; done) | (simp; omega))⟩, by simpa using r.size, fun q hq hn => ?_, fun q hq => ?_, r.sa, r.so1, r.so2, r.B, r.own⟩
    · exact (hoth q (fun e => by subst e; exact absurd hq (Nat.not_lt.2 a4))).trans (r.block q hq hn)
    · refine (hoth q (fun e => ?_)).trans (r.stable q hq)
      subst e
      rcases hq with hq | hq
      · exact a1 (by rw [r.sa]; exact hq)
      · exact a2 (r.so1 _ hq)
  have hact : act.put o.dst undef = act := by rw [hd]; rfl
  have hMs : MOk n0 c0 { c with w := { c.w with heap := c.w.heap.setIfInBounds b o' } } (hp G) ((b, setV kv xv es) :: μ) act := by
    refine ⟨fun p hp => ?_, fun p hp => ?_, ?_, hM.ds⟩
    · rcases List.mem_cons.1 hp with rfl | hp
      · exact hmap
      · have hne : p.1 ≠ b := fun e => (List.nodup_cons.1 hM.nodup).1 (List.mem_map.2 ⟨p, hp, e⟩)
        exact (hM.is p (List.mem_cons_of_mem _ hp)).le (hoth _ hne) (h1.weaken fun q hq => Nat.lt_of_lt_of_le hq g.le0)
    · rcases List.mem_cons.1 hp with rfl | hp
      · exact hM.away (b, es) (by simp)
      · exact hM.away p (List.mem_cons_of_mem _ hp)
    · exact hM.nodup
  have := hK' act { c.w with heap := c.w.heap.setIfInBounds b o' } (h c0 H0 _ act g2 hMs Qx hQ R hR)
  show K' (act.put o.dst undef) _
  rw [hact]; exact this
theorem SemK.mapLen {T : Ty} {t b kt et : Nat} {x : Operand} {qx : List Prop} {es : List (Value × Value)} {ti : TI} (hT : TyOk P T) (ho : o.op = .call { callee := .builtin .len, args := #[x], argTypes := #[t] }) (hg : o.guard = none) (hd : dstOk nt o.dst = true)
    (ht : T t = some ti) (hkd : ti.kind = .map kt et) (hx : rd L x = (.sc (.map (some b)), qx)) (hqx : allP qx)
    (h : SemK P nt n0 Q (.ops ops l) K ⟨fr (putO o.dst (.sc (.int .i64 es.length)) L), hp G, n⟩ ((b, es) :: μ)) : SemK P nt n0 Q (.ops ops (o :: l)) K ⟨fr L, hp G, n⟩ ((b, es) :: μ) := by
  intro c0 H0 c act g hM Qx hQ R hR
  refine wpListR_step fun K' hK' => ?_
  rw [if_pos (by simp [Region.wanted, hg])]
  have ex : act.eval x = .map (some b) := by have := g.ev x; rw [show evA (St.A ⟨fr L, hp G, n⟩) x = _ from rd_ok hx hqx] at this; exact this.sc_inv
  have hu1 : P.underlying t = some (.map kt et) := by
    obtain ⟨i, dd, _, hdd, _, hkk, _⟩ := tyInfo_parts (hT t ti ht)
    rw [hkd] at hkk
    cases dd <;> simp [kindOf] at hkk
    obtain ⟨rfl, rfl⟩ := hkk
    exact hdd
  obtain ⟨es0, cl, hb0, hl, _⟩ := hM.is (b, es) (by simp)
  have hsz : es0.size = es.length := by have hl' : es0.toList.map (fun e => (e.key, e.val)) = es := hl; rw [← hl']; simp
  have hex : (execOp act.eval o).run P c.w = .ok (.value (.int .i64 es.length)) c.w := by
    obtain ⟨dst, op, type, pos, after, guard⟩ := o
    simp only at ho
    subst ho
    simp [execOp, resolve, invoke, builtin, Builtin.len_, ex, run_underlying hu1, MapKept.run_getObj_map hb0, goInt, hsz]
  refine Oper.wpR (fun d hd => by rw [hd] at ho; cases ho) ?_
  unfold Oper.wp
  rw [hex]
  have g2 := g.next (c' := c) (dst := o.dst) (a := .sc (.int .i64 es.length)) (v := .int .i64 es.length) (dstOk_lt hd) (.refl c) rfl (fun b hb => .inl hb) (.refl c (hp G)) (fun q x hx => .inr ⟨q, x, hx, rfl⟩) g.inv g.solo (Nat.le_refl _) .sc .sc
  rw [putO_fr] at h
  exact hK' _ _ (h c0 H0 c _ g2 hM.act Qx hQ R hR)
end
end Go.Av
namespace Go.D
def distAdd (ks : List Int) (z : Int) : List Int := if z ∈ ks then ks else ks ++ [z]
def distinctL (ks : List Int) : List Int → List Int
  | [] => ks
  | z :: zs => distinctL (distAdd ks z) zs
end Go.D
namespace Go.Av
def kvInt (z : Int) : Value × Value := (.int .i64 z, .bool true)
end Go.Av

namespace Go.Av
variable [Gls]
structure Away (c : Ctx) (H : Heap) (b : Nat) : Prop where
  sa : ¬ c.Sa b
  so : ¬ c.So b
  ob : ∀ o x, H o = some x → (c.ρ o).blk ≠ b
theorem Away.kept {c c' : Ctx} {H H' : Heap} {n b : Nat} (h : Away c H b) (hb : b < c.w.heap.size) (r : Reach c H n c' H') : Away c' H' b := by
  refine ⟨by rw [r.sa]; exact h.sa, fun hs => ?_, fun o x hx he => ?_⟩
  · rcases r.so2 _ hs with h1 | h1 | ⟨o, x, h1, h2⟩
    · exact h.so h1
    · omega
    · exact h.ob o x h1 h2
  · rcases r.own o x hx with h1 | ⟨o', x', h1, h2⟩
    · omega
    · exact h.ob o' x' h1 (h2.trans he)
theorem Reach.weaken {c c' : Ctx} {H H' : Heap} {n n' : Nat} (r : Reach c H n c' H') (h : n' ≤ n) : Reach c H n' c' H' :=
  ⟨fun o ho => r.rho o (Nat.lt_of_lt_of_le ho h), r.os, r.tape, r.output, r.size, r.block, r.stable, r.sa, r.so1, r.so2, r.B, r.own⟩
theorem Good.turn0 {nt n0 : Nat} {c0 c : Ctx} {H0 : Heap} {s : St} {act : Act} {b : Nat} (o : Go.Obj) (g : Good nt c0 H0 n0 c s act) (h : Away c s.H b) :
    Good nt { c with w := c.w.putObj b o } s.H n0 { c with w := c.w.putObj b o } s act ∧ c.Le (fun _ => True) { c with w := c.w.putObj b o } := by
  have hother : ∀ k, k ≠ b → (c.w.putObj b o).heap[k]? = c.w.heap[k]? := fun k hk => World.putObj_heap_other hk
  have hle : c.Le (fun _ => True) { c with w := c.w.putObj b o } :=
    ⟨fun _ _ => rfl, fun _ h => h, fun _ h => h, fun k hk => hother k (fun e => by subst e; exact hk.elim h.sa h.so), rfl⟩
  have all : ∀ {a : AV} {M : Nat → Prop}, a.Ok M → a.Ok (fun _ => True) := fun h => h.mono fun _ _ => trivial
  refine ⟨⟨⟨fun q x hx => ?_, g.inv.sep, g.inv.stab, fun k hk => ?_, ?_, g.inv.own, g.inv.low, g.inv.glob.mono hle⟩, g.solo, fun t => (g.frame t).mono hle (.inr (all (g.ok t))), g.ok, g.size, .refl _ _ _, g.le0⟩, hle⟩
  · obtain ⟨i1, ⟨⟨cur, hb, hs, hc⟩, i3, i4, i5⟩, i6⟩ := g.inv.obj q x hx
    refine ⟨i1, ⟨⟨cur, (hother _ (h.ob q x hx)).trans hb, hs, fun i e he => ?_⟩, i3, i4, i5⟩, i6⟩
    obtain ⟨g1, g2⟩ := hc i e he
    exact ⟨g1, fun k a ha => by obtain ⟨v, hv, hr, h7⟩ := g2 k a ha; exact ⟨v, hv, hr.mono hle (.inr (all (i6 e (List.mem_of_getElem? he) a (List.mem_of_getElem? ha)))), h7⟩⟩
  · show k < (c.w.putObj b o).heap.size
    rw [World.putObj_size]; exact g.inv.lt k hk
  · show c.B ≤ (c.w.putObj b o).heap.size
    rw [World.putObj_size]; exact g.inv.base
theorem Reach.turnBack {c c1 c2 : Ctx} {H H1 H2 : Heap} {n b : Nat} {o0 o1 : Go.Obj} (r1 : Reach c H n c1 H1) (r2 : Reach { c1 with w := c1.w.putObj b o1 } H1 n c2 H2) (hb : c.w.heap[b]? = some o0) (h : Away c H b) :
    Reach c H n { c2 with w := c2.w.putObj b o0 } H2 := by
  have hlt : b < c.w.heap.size := (Array.getElem?_eq_some_iff.1 hb).1
  have hs2 : c.w.heap.size ≤ c2.w.heap.size := by
    have h1 := r1.size
    have h2 : (c1.w.putObj b o1).heap.size ≤ c2.w.heap.size := r2.size
    rw [World.putObj_size] at h2; omega
  refine ⟨fun o ho => (r2.rho o ho).trans (r1.rho o ho), r2.os.trans r1.os, r2.tape.trans r1.tape, ⟨r2.output.1.trans r1.output.1, Nat.le_trans r1.output.2 r2.output.2⟩, ?_, fun k hk hn => ?_, fun k hk => ?_, r2.sa.trans r1.sa, fun k hk => r2.so1 k (r1.so1 k hk), fun k hk => ?_, r2.B.trans r1.B, fun o x hx => ?_⟩
  · show c.w.heap.size ≤ (c2.w.putObj b o0).heap.size
    rw [World.putObj_size]; exact hs2
  · show (c2.w.putObj b o0).heap[k]? = _
    by_cases e : k = b
    · subst e; rw [World.putObj_heap_same (by omega)]; exact hb.symm
    · rw [World.putObj_heap_other e]
      have h2 : c2.w.heap[k]? = (c1.w.putObj b o1).heap[k]? := r2.block k (by show k < (c1.w.putObj b o1).heap.size; rw [World.putObj_size]; exact Nat.lt_of_lt_of_le hk r1.size) fun o x hx he => by
        rcases r1.own o x hx with h1 | ⟨o', x', h1, h2⟩
        · have he' : (c1.ρ o).blk = k := he
          omega
        · exact hn o' x' h1 (h2.trans he)
      rw [h2, World.putObj_heap_other e]
      exact r1.block k hk hn
  · show (c2.w.putObj b o0).heap[k]? = _
    have e : k ≠ b := fun e => by subst e; exact hk.elim h.sa h.so
    rw [World.putObj_heap_other e]
    have h2 : c2.w.heap[k]? = (c1.w.putObj b o1).heap[k]? := r2.stable k (hk.imp (fun x => by show c1.Sa k; rw [r1.sa]; exact x) (r1.so1 k))
    rw [h2, World.putObj_heap_other e]
    exact r1.stable k hk
  · rcases r2.so2 k hk with h1 | h1 | ⟨q, y, h1, h2⟩
    · exact r1.so2 k h1
    · right; left
      have h3 : (c1.w.putObj b o1).heap.size ≤ k := h1
      rw [World.putObj_size] at h3
      exact Nat.le_trans r1.size h3
    · have h2' : (c1.ρ q).blk = k := h2
      rcases r1.own q y h1 with h3 | ⟨q', y', h3, h4⟩
      · exact .inr (.inl (by omega))
      · exact .inr (.inr ⟨q', y', h3, h4.trans h2'⟩)
  · rcases r2.own o x hx with h1 | ⟨q, y, h1, h2⟩
    · left
      have h3 : (c1.w.putObj b o1).heap.size ≤ (c2.ρ o).blk := h1
      rw [World.putObj_size] at h3
      exact Nat.le_trans r1.size h3
    · rcases r1.own q y h1 with h3 | ⟨q', y', h3, h4⟩
      · left
        have : (c1.ρ q).blk = (c2.ρ o).blk := h2
        show c.w.heap.size ≤ (c2.ρ o).blk
        omega
      · exact .inr ⟨q', y', h3, h4.trans h2⟩
def zipL : List Nat → List AV → List (Nat × AV) → List (Nat × AV)
  | p :: ps, a :: as, L => zipL ps as ((p, a) :: L)
  | _, _, L => L
theorem zipL_rel {c : Ctx} {n : Nat} : ∀ (ps : List Nat) (as : List AV) (vs : List Value) (L : List (Nat × AV)) (tmps : Array Value), as.length = vs.length → (∀ (i : Nat) a v, as[i]? = some a → vs[i]? = some v → VRel c false a v ∧ a.Ok (· < n)) →
    (∀ p ∈ ps, p < tmps.size) → (∀ t, VRel c false (fr L t) (tmps.getD t undef) ∧ (fr L t).Ok (· < n)) →
    (∀ t, VRel c false (fr (zipL ps as L) t) (((ps.zip vs).foldl (fun t (p, v) => t.setIfInBounds p v) tmps).getD t undef) ∧ (fr (zipL ps as L) t).Ok (· < n)) ∧ ((ps.zip vs).foldl (fun t (p, v) => t.setIfInBounds p v) tmps).size = tmps.size := by
  intro ps
  induction ps with
  | nil => intro as vs L tmps _ _ _ h; cases as <;> exact ⟨h, rfl⟩
  | cons p ps ih =>
    intro as vs L tmps hl ha hp h
    cases as with
    | nil =>
      have : vs = [] := List.eq_nil_of_length_eq_zero (by rw [← hl]; rfl)
      subst this
      exact ⟨h, rfl⟩
    | cons a as =>
      cases vs with
      | nil => simp at hl
      | cons v vs =>
        have h0 := ha 0 a v rfl rfl
        obtain ⟨k1, k2⟩ := ih as vs ((p, a) :: L) (tmps.setIfInBounds p v) (by simpa using hl) (fun i a v h1 h2 => ha (i + 1) a v (by simpa using h1) (by simpa using h2)) (fun q hq => by simpa using hp q (List.mem_cons_of_mem _ hq)) (fun t => by
          rw [getD_set (hp p List.mem_cons_self)]
          by_cases ht : t = p
          · subst ht; rw [if_pos rfl]
            have : fr ((t, a) :: L) t = a := by simp [fr]
            rw [this]; exact h0
          · rw [if_neg ht]
            have : fr ((p, a) :: L) t = fr L t := by
              have hb : Nat.beq t p = false := by rw [← Bool.not_eq_true, Nat.beq_eq]; exact ht
              simp [fr, hb]
            rw [this]; exact h t)
        exact ⟨k1, by simpa using k2⟩
def asgQ (P : Program) (nt n : Nat) (body : Code) (RQ : AExit → St → Mu → Prop) : AExit → St → Mu → Prop := fun e s μ => e = .normal ∧ μ = [] ∧ SemM P nt n body RQ s []
theorem SemK.asg {P : Program} {nt n : Nat} {body : Code} {RQ : AExit → St → Mu → Prop} {s : St} (h : SemK P nt n RQ (.code body) [] s []) : SemK P nt n (asgQ P nt n body RQ) (.exit .normal) [] s [] :=
  Cl.mk ⟨rfl, rfl, SemM.ofCl h⟩
theorem noLoop_mem {μ : Mu} {b : Nat} {r : Loop} {nt m : Nat} {A : Nat → AV} (h : (b, .loop r nt m A) ∈ μ) : noLoop μ = false := by
  induction μ with
  | nil => cases h
  | cons p μ ih =>
    obtain ⟨q, x⟩ := p
    rcases List.mem_cons.1 h with h | h2
    · cases h; rfl
    · cases x with
      | loop => rfl
      | mark => exact ih h2
      | map => exact ih h2
      | blk => exact ih h2
def rndQ (P : Program) (nt n0 : Nat) (Q : AExit → St → Mu → Prop) (ops : Array Oper) (l : List Oper) (K : List Kn) (L : List (Nat × AV)) (d : Option Nat) (μ : Mu) : AExit → St → Mu → Prop :=
  fun e s _ => e = .normal ∧ SemK P nt n0 Q (.ops ops l) K ⟨updO (fr L) d (.sc (.bool true)), s.H, s.n⟩ μ
theorem SemK.rndEnd {P : Program} {nt n0 nt' n1 : Nat} {Q : AExit → St → Mu → Prop} {ops : Array Oper} {l : List Oper} {K : List Kn} {L L1 : List (Nat × AV)} {d : Option Nat} {μ μ1 : Mu} {G : List (Nat × Obj)} {n : Nat}
    (h : SemK P nt n0 Q (.ops ops l) K ⟨fr (putO d (.sc (.bool true)) L), hp G, n⟩ μ) : SemK P nt' n1 (rndQ P nt n0 Q ops l K L d μ) (.exit .normal) [] ⟨fr L1, hp G, n⟩ μ1 :=
  Cl.mk ⟨rfl, by show SemK P nt n0 Q (.ops ops l) K ⟨updO (fr L) d (.sc (.bool true)), hp G, n⟩ μ; rw [← putO_fr]; exact h⟩
theorem SemK.yield {P : Program} {nt n0 n b ntc m : Nat} {Q : AExit → St → Mu → Prop} {ops : Array Oper} {l : List Oper} {o : Oper} {K : List Kn} {L Lc : List (Nat × AV)} {G : List (Nat × Obj)} {μ : Mu} {x : Operand} {args : Array Operand} {ts : Array Nat} {r : Loop}
    {as : List AV} {qx qa : List Prop} {ps : Array Nat} {assign body : Code} (ho : o.op = .call { callee := .value x, args := args, argTypes := ts }) (hg : o.guard = none) (hd : dstOk nt o.dst = true)
    (hx : rd L x = (.sc (.func (.yield b) #[] #[]), qx)) (ha : rds L args.toList = (as, qa)) (hqx : allP qx) (hqa : allP qa)
    (hμ : (b, .loop r ntc m (fr Lc)) ∈ μ) (h1 : r.state = .ready) (h2 : r.pending = none) (h3 : r.params = ps) (h4 : r.assign = assign) (h5 : r.body = body)
    (hps : (Nat.beq as.length ps.size && ps.toList.all fun p => Nat.blt p ntc) = true) (ht : (topOnly assign || topOnly body) = false)
    (h : SemK P ntc n (asgQ P ntc n body (rndQ P nt n0 Q ops l K L o.dst μ)) (.code assign) [] ⟨fr (zipL ps.toList as Lc), hp G, n⟩ []) : SemK P nt n0 Q (.ops ops (o :: l)) K ⟨fr L, hp G, n⟩ μ := by
  subst h3 h4 h5
  simp only [Bool.and_eq_true, Nat.beq_eq, List.all_eq_true, Nat.blt_eq] at hps
  obtain ⟨hp1, hp2⟩ := hps
  simp only [Bool.or_eq_false_iff] at ht
  intro c0 H0 c act g hm Qx hQ R hR
  cases R with
  | none => rw [noLoop_mem hμ] at hR; exact absurd (hR rfl) (by simp)
  | some R =>
  refine wpListR_step fun K' hK' => ?_
  rw [if_pos (by simp [Region.wanted, hg])]
  obtain ⟨⟨hrec, hsz⟩, hmn, hAok, hA⟩ := hm.is _ hμ
  obtain ⟨w1, w2, w3, w4⟩ := hm.away _ hμ
  have haw : Away c (hp G) b := ⟨w1, w2, w3⟩
  have hlt : b < c.w.heap.size := (Array.getElem?_eq_some_iff.1 hrec).1
  have ex : act.eval x = .func (.yield b) #[] #[] := by have := g.ev x; rw [show evA (St.A ⟨fr L, hp G, n⟩) x = _ from rd_ok hx hqx] at this; exact this.sc_inv
  have hargs : args.toList.map (evA (fr L)) = as := rds_ok ha hqa
  have hlen : as.length = args.size := by rw [← hargs]; simp
  have hy := run_yield (P := P) (args := args.map act.eval) hrec (by rw [Array.size_map, ← hlen]; exact hp1)
  have hrun : (execOp act.eval o).run P c.w = .ok (.round b r.fn ((r.params.zip (args.map act.eval)).foldl (fun tmps (t, a) => tmps.setIfInBounds t a) r.tmps) r.assign r.body) c.w := by
    simp only [execOp, ho, resolve, ex, Deferred.ofValue, Sem.run_bind, Sem.run_pure, Result.andThen_ok, invoke, Array.empty_append, Array.append_empty]
    exact hy
  show Oper.wpIn (FR R) 0 P o act c.w K' Qx
  refine ⟨fun _ _ => trivial, ?_⟩
  rw [Oper.semAt_eq _ _ _ (fun d hd => by rw [hd] at ho; cases ho), hrun, Oper.uponIn_round]
  refine ⟨fun h => Bool.noConfusion h, roundIn_of_wpIn trivial ?_⟩
  have hz : (r.params.zip (args.map act.eval)).foldl (fun tmps (t, a) => tmps.setIfInBounds t a) r.tmps = (r.params.toList.zip (args.toList.map act.eval)).foldl (fun t (p, v) => t.setIfInBounds p v) r.tmps := by
    rw [← Array.foldl_toList]; simp
  have hzip := zipL_rel (c := c) (n := n) r.params.toList as (args.toList.map act.eval) Lc r.tmps (by rw [← hargs]; simp) (fun i a v h1 h2 => by
      rw [← hargs, List.getElem?_map] at h1
      rw [List.getElem?_map] at h2
      cases hq : args.toList[i]? with
      | none => simp [hq] at h1
      | some q =>
        simp only [hq, Option.map_some, Option.some.injEq] at h1 h2
        subst h1 h2
        exact ⟨g.ev q, g.evOk q⟩) (fun p hp => by rw [hsz]; exact hp2 p hp) (fun t => ⟨hA t, (hAok t).mono fun q hq => Nat.lt_of_lt_of_le hq (Nat.le_trans hmn g.le0)⟩)
  rw [← hz] at hzip
  have gB : Good ntc c (hp G) n c ⟨fr (zipL r.params.toList as Lc), hp G, n⟩ { tmps := (r.params.zip (args.map act.eval)).foldl (fun tmps (t, a) => tmps.setIfInBounds t a) r.tmps, defers := [] } :=
    ⟨g.inv, g.solo, fun t => (hzip.1 t).1, fun t => (hzip.1 t).2, hzip.2.trans hsz, .refl _ _ _, Nat.le_refl _⟩
  refine wpIn_mono (SemM.ofCl h c (hp G) c _ gB (.nil rfl) (some b) (fun h => by rw [ht.1] at h; cases h)) ?_
  rintro e a1 w' ⟨c1, s1, ae, μ1, rfl, g1, hm1, rfl, rfl, rfl, hbody⟩
  have hrec1 : c1.w.heap[b]? = some (.loop r) := (g1.reach.block b hlt haw.ob).trans hrec
  refine ⟨_, run_beginRound hrec1 h1, ?_⟩
  have aw1 : Away c1 s1.H b := haw.kept hlt g1.reach
  obtain ⟨g1', _⟩ := g1.turn0 (.loop { r with state := .busy }) aw1
  refine wpIn_mono (hbody _ s1.H _ a1 g1' (.nil hm1.ds) (some b) (fun h => by rw [ht.2] at h; cases h)) ?_
  rintro e a2 w' ⟨c2, s2, ae, μ2, rfl, g2, hm2, rfl, rfl, hk⟩
  have hlt1 : b < c1.w.heap.size := (Array.getElem?_eq_some_iff.1 hrec1).1
  have hrec2 : c2.w.heap[b]? = some (.loop { r with state := .busy }) :=
    (g2.reach.block b (by show b < (c1.w.putObj b _).heap.size; rw [World.putObj_size]; exact hlt1) aw1.ob).trans (World.putObj_heap_same hlt1)
  have hr : ({ r with state := .ready, pending := none } : Loop) = r := by
    obtain ⟨st, pe, fn, tm, pa, asg, bd, de⟩ := r
    simp only at h1 h2
    subst h1 h2; rfl
  have hend := run_endRound (P := P) none hrec2
  simp only [Option.isNone_none, if_true] at hend
  rw [hr] at hend
  refine ⟨_, _, hend, ?_⟩
  have aw2 : Away c2 s2.H b := (Away.mk aw1.sa aw1.so aw1.ob : Away { c1 with w := c1.w.putObj b (.loop { r with state := .busy }) } s1.H b).kept (by show b < (c1.w.putObj b _).heap.size; rw [World.putObj_size]; exact hlt1) g2.reach
  obtain ⟨g3, _⟩ := g2.turn0 (.loop r) aw2
  have rt : Reach c (hp G) n { c2 with w := c2.w.putObj b (.loop r) } s2.H := Reach.turnBack g1.reach g2.reach hrec haw
  have gf := g.next (dstOk_lt hd) rt.le rt.sa rt.so2 rt.fr rt.own g3.inv g3.solo g3.le0 (a := .sc (.bool true)) (v := .bool true) .sc .sc
  exact hK' _ _ (hk c0 H0 _ _ gf (hm.kept (rt.weaken g.le0)) Qx hQ (some R) (fun h => by cases h))
def rfsOf : Code → List (Array Nat × Code × Code)
  | .loop b => rfsOf b
  | .seq a b => rfsOf a ++ rfsOf b
  | .block _ c => rfsOf c
  | .scope c => rfsOf c
  | .cond _ a b => rfsOf a ++ rfsOf b
  | .rangeFunc _ ps a b => (ps, a, b) :: (rfsOf a ++ rfsOf b)
  | _ => []
def rfB (i : Nat) (c : Code) : Array Nat × Code × Code := ((rfsOf c)[i]?).getD (#[], .skip, .skip)
def pickL (slots : List Nat) (L : List (Nat × AV)) : List (Nat × AV) := slots.map fun t => (t, fr L t)
theorem pickL_fr (L : List (Nat × AV)) : ∀ (slots : List Nat) (t : Nat), fr (pickL slots L) t = fr L t ∨ fr (pickL slots L) t = .junk := by
  intro slots
  induction slots with
  | nil => intro t; exact .inr rfl
  | cons q r ih =>
    intro t
    show fr ((q, fr L q) :: pickL r L) t = _ ∨ fr ((q, fr L q) :: pickL r L) t = _
    simp only [fr]
    cases hb : Nat.beq t q with
    | true => rw [Nat.eq_of_beq_eq_true hb]; exact .inl rfl
    | false => exact ih t
theorem SemK.keepL {P : Program} {nt n0 n : Nat} {Q : AExit → St → Mu → Prop} {cf : Cf} {K : List Kn} {L : List (Nat × AV)} {G : List (Nat × Obj)} {μ : Mu} (slots : List Nat) (h : SemK P nt n0 Q cf K ⟨fr (pickL slots L), hp G, n⟩ μ) : SemK P nt n0 Q cf K ⟨fr L, hp G, n⟩ μ := by
  refine SemK.sub (s' := ⟨fr (pickL slots L), hp G, n⟩) (fun c0 H0 c act μ g hm => ⟨⟨g.inv, g.solo, fun t => ?_, fun t => ?_, g.size, g.reach, g.le0⟩, hm⟩) h
  · rcases pickL_fr L slots t with h | h
    · show VRel c false (fr (pickL slots L) t) _; rw [h]; exact g.frame t
    · show VRel c false (fr (pickL slots L) t) _; rw [h]; exact .junk
  · rcases pickL_fr L slots t with h | h
    · show (fr (pickL slots L) t).Ok _; rw [h]; exact g.ok t
    · show (fr (pickL slots L) t).Ok _; rw [h]; exact .junk
def rfQ (P : Program) (nt n0 : Nat) (Q : AExit → St → Mu → Prop) (K : List Kn) (L : List (Nat × AV)) (μ : Mu) (D : Nat) (μi : Mu) : AExit → St → Mu → Prop :=
  fun e s μ' => (∀ id, e ≠ .exit id) ∧ μ' = μi ∧ SemK P nt n0 Q (.exit .normal) K ⟨fr L, s.H, s.n⟩ ((D, .mark) :: μ)
theorem SemK.rfEnd {P : Program} {nt n0 nt' n1 : Nat} {Q : AExit → St → Mu → Prop} {K : List Kn} {L L1 : List (Nat × AV)} {μ μi : Mu} {D : Nat} {G : List (Nat × Obj)} {n : Nat} {e : AExit} (he : ∀ id, e ≠ .exit id)
    (h : SemK P nt n0 Q (.exit .normal) K ⟨fr L, hp G, n⟩ ((D, .mark) :: μ)) : SemK P nt' n1 (rfQ P nt n0 Q K L μ D μi) (.exit e) [] ⟨fr L1, hp G, n⟩ μi :=
  Cl.mk ⟨he, rfl, h⟩
theorem Good.alloc {nt n0 : Nat} {c0 c : Ctx} {H0 : Heap} {s : St} {act : Act} (o : Go.Obj) (g : Good nt c0 H0 n0 c s act) : Good nt c0 H0 n0 { c with w := c.w.alloc o } s act := by
  obtain ⟨h1, h2, h3⟩ := g.inv.waste (w' := c.w.alloc o) o rfl rfl rfl ⟨rfl, Nat.le_refl _⟩
  have := g.next (c' := { c with w := c.w.alloc o }) (dst := none) (a := .sc undef) (v := undef) (fun d h => by cases h) h1 rfl (fun b hb => .inl hb) h3 (fun q x hx => .inr ⟨q, x, hx, rfl⟩) h2 g.solo (Nat.le_refl _) .sc .sc
  exact this
theorem SemK.rangeFunc {P : Program} {nt n0 n gf nti : Nat} {Q : AExit → St → Mu → Prop} {K : List Kn} {L : List (Nat × AV)} {G : List (Nat × Obj)} {μ : Mu} {g : Operand} {ps : Array Nat} {assign body codeI : Code} {fnI : Func} {caps : List AV} {q : List Prop}
    (hg : rd L g = (.fn gf caps, q)) (hq : allP q) (hfn : FnOk P gf fnI codeI) (hnt : fnI.ntmps = nti) (hle : Nat.ble (caps.length + 1) nti = true) (hres : fnI.results = #[])
    (h : ∀ (b D : Nat) (r : Loop), r.state = .ready → r.pending = none → r.params = ps → r.assign = assign → r.body = body →
      SemK P nti n (rfQ P nt n0 Q K L μ D [(b, .loop r nt n (fr L)), (D, .blk (.deferred (some [])))]) (.code codeI) [] ⟨fr (argL 0 (.sc (.func (.yield b) #[] #[]) :: caps)), hp G, n⟩ [(b, .loop r nt n (fr L)), (D, .blk (.deferred (some [])))]) :
    SemK P nt n0 Q (.code (.rangeFunc g ps assign body)) K ⟨fr L, hp G, n⟩ μ := by
  intro c0 H0 c act gd hm R hR
  obtain rfl := hR rfl
  have hv := gd.ev g
  rw [show evA (St.A ⟨fr L, hp G, n⟩) g = _ from rd_ok hg hq] at hv
  have hvo := gd.evOk g
  rw [show evA (St.A ⟨fr L, hp G, n⟩) g = _ from rd_ok hg hq] at hvo
  obtain ⟨cv, hcv, hcl, hcr⟩ := hv.fn_inv
  refine wpIn_rangeFunc ?_
  intro fn _
  let D := c.w.heap.size
  let b := c.w.heap.size + 1
  let rec0 : Loop := { state := .ready, pending := none, fn, tmps := act.tmps, params := ps, assign, body, defers := c.w.heap.size }
  let W1 : World := (c.w.alloc (.deferred (some []))).alloc (.loop rec0)
  let c1 : Ctx := { c with w := W1 }
  have hL1 : W1.heap[b]? = some (.loop rec0) := by
    have := World.alloc_heap_new (c.w.alloc (.deferred (some []))) (.loop rec0); rwa [World.size_alloc] at this
  have hK1 : W1.heap[D]? = some (.deferred (some [])) := (RowKit.Below.heap_alloc _ _ _ (by simp [D])).trans (World.alloc_heap_new c.w _)
  have hs1 : W1.heap.size = c.w.heap.size + 2 := by simp [W1]
  have g1 : Good nt c (hp G) n0 c1 ⟨fr L, hp G, n⟩ act := (gd.rebase.alloc (.deferred (some []))).alloc (.loop rec0)
  have hold : ∀ k, k < c.w.heap.size → W1.heap[k]? = c.w.heap[k]? := fun k hk => (RowKit.Below.heap_alloc _ _ _ (by simp; omega)).trans (RowKit.Below.heap_alloc _ _ _ hk)
  have r1 : Reach c (hp G) n c1 (hp G) := ⟨fun _ _ => rfl, rfl, rfl, ⟨rfl, Nat.le_refl _⟩, by show c.w.heap.size ≤ W1.heap.size; omega, fun k hk _ => hold k hk, fun k hk => hold k (gd.inv.lt k hk), rfl, fun _ h => h, fun _ h => .inl h, rfl, fun o x hx => .inr ⟨o, x, hx, rfl⟩⟩
  have hob : ∀ o x, hp G o = some x → (c.ρ o).blk < c.w.heap.size := fun o x hx => by
    obtain ⟨_, ⟨⟨cur, hcb, _⟩, _⟩, _⟩ := gd.inv.obj o x hx
    exact (Array.getElem?_eq_some_iff.1 hcb).1
  let vs : Array Value := #[.func (.yield b) #[] #[]] ++ cv
  have hvs : vs.size = caps.length + 1 := by simp [vs, ← hcl]; omega
  have gI : Good nti c (hp G) n c1 ⟨fr (argL 0 (.sc (.func (.yield b) #[] #[]) :: caps)), hp G, n⟩ { tmps := vs ++ Array.replicate (fnI.ntmps - vs.size) undef, defers := [] } := by
    have hrel : VRels c1 false (.sc (.func (.yield b) #[] #[]) :: caps) vs := by
      refine ⟨by rw [hvs]; simp, fun i a v ha hv => ?_⟩
      cases i with
      | zero =>
        have hv' : vs[0]? = some (.func (.yield b) #[] #[]) := by simp only [vs]; rw [Array.getElem?_append_left (by simp)]; rfl
        rw [hv'] at hv
        simp only [List.getElem?_cons_zero, Option.some.injEq] at ha hv
        subst ha hv; exact .sc
      | succ i =>
        have hv' : cv[i]? = some v := by
          simp only [vs] at hv
          rw [Array.getElem?_append_right (by simp)] at hv
          simpa using hv
        simp only [List.getElem?_cons_succ] at ha
        refine (hcr i a v ha hv').mono r1.le (.inr ?_)
        cases hvo with | fn hvo => exact hvo a (List.mem_of_getElem? ha)
    have hok : ∀ a ∈ (.sc (.func (.yield b) #[] #[]) :: caps : List AV), a.Ok (· < n) := by
      intro a ha
      rcases List.mem_cons.1 ha with rfl | ha
      · exact .sc
      · cases hvo with | fn hvo => exact hvo a ha
    have : Good nti c (hp G) n c1 ⟨argA (.sc (.func (.yield b) #[] #[]) :: caps), hp G, n⟩ { tmps := vs ++ Array.replicate (fnI.ntmps - vs.size) undef, defers := [] } :=
      ⟨g1.inv, g1.solo, fun t => frame_args hrel _ t, fun t => argA_ok hok t, by have := Nat.le_of_ble_eq_true hle; simp only [Array.size_append, Array.size_replicate]; omega, r1, Nat.le_refl _⟩
    exact this.argL
  have mI : MOk n c c1 (hp G) [(b, .loop rec0 nt n (fr L)), (D, .blk (.deferred (some [])))] { tmps := vs ++ Array.replicate (fnI.ntmps - vs.size) undef, defers := [] } := by
    refine ⟨fun p hp => ?_, fun p hp => ?_, by simp [b, D], rfl⟩
    · simp only [List.mem_cons, List.not_mem_nil, or_false] at hp
      rcases hp with rfl | rfl
      · exact ⟨⟨hL1, gd.size⟩, Nat.le_refl _, fun t => gd.ok t, fun t => g1.frame t⟩
      · exact hK1
    · simp only [List.mem_cons, List.not_mem_nil, or_false] at hp
      have key : ∀ k, c.w.heap.size ≤ k → ¬ c1.Sa k ∧ ¬ c1.So k ∧ (∀ o x, Av.hp G o = some x → (c1.ρ o).blk ≠ k) ∧ c.w.heap.size ≤ k := fun k hk =>
        ⟨fun hs => by have := gd.inv.lt k (.inl hs); omega, fun hs => by have := gd.inv.lt k (.inr hs); omega, fun o x hx e => by have h1 := hob o x hx; have h2 : (c.ρ o).blk = k := e; omega, hk⟩
      rcases hp with rfl | rfl
      · exact key b (by simp [b])
      · exact key D (Nat.le_refl _)
  refine ⟨b, [{ target := .collected D, args := #[] }], W1, { target := .fn (.func gf) cv, args := #[.func (.yield b) #[] #[]] }, W1, gf, vs, W1, run_enterLoop_outer _ _ _ _ _, ?_, fun _ _ => trivial, ?_, fun h => Bool.noConfusion h, ?_⟩
  · simp only [resolve, hcv]
    simp [go_sem]
  · simp only [invoke, callFunc, Sem.run_bind, run_program, Result.andThen_ok, hfn.here, hfn.name, hfn.body, Option.isNone_some, Bool.false_eq_true, if_false]
    rfl
  refine callsIn_of_wp hfn.here hfn.body trivial ?_ rfl
  refine wpIn_mono (SemM.ofCl (h b D rec0 rfl rfl rfl rfl rfl) c (hp G) c1 _ gI mI none .none) ?_
  rintro e a w' ⟨c2, s2, ae, μ2, rfl, g2, hm2, rfl, hne, rfl, hk⟩
  have hds : a.defers = [] := hm2.ds
  have fin : a.defers = [] ∧ ∃ v, (results fnI a.tmps).run P c2.w = .ok v c2.w ∧ rangePost (FR none) 0 P b (MQ nt c0 H0 n0 (Kont P nt n0 Q K)) { act with defers := [{ target := .collected D, args := #[] }] ++ act.defers } (.returned v) c2.w := by
    obtain ⟨⟨hrec, _⟩, _⟩ := hm2.is (b, .loop rec0 nt n (fr L)) (by simp)
    have hDk : c2.w.heap[D]? = some (.deferred (some [])) := hm2.is (D, .blk (.deferred (some []))) (by simp)
    obtain ⟨x1, x2, x3, x4⟩ := hm2.away (b, .loop rec0 nt n (fr L)) (by simp)
    obtain ⟨y1, y2, y3, y4⟩ := hm2.away (D, .blk (.deferred (some []))) (by simp)
    obtain ⟨g3, hle3⟩ := g2.turn (.loop { rec0 with state := .exhausted }) x1 x2 x3 x4
    refine ⟨hds, .tuple #[], by simp [results, hres, go_sem], ?_⟩
    refine ⟨none, _, run_endLoop hrec (by simp [rec0]), ?_⟩
    have rt := g3.reach
    have gc := gd.next (dst := none) (a := .sc undef) (v := undef) (fun d h => by cases h) rt.le rt.sa rt.so2 rt.fr rt.own g3.inv g3.solo g3.le0 .sc .sc
    have gc2 : Good nt c0 H0 n0 { c2 with w := c2.w.putObj b (.loop { rec0 with state := .exhausted }) } ⟨fr L, s2.H, s2.n⟩ { act with defers := [{ target := .collected D, args := #[] }] ++ act.defers } :=
      ⟨gc.inv, gc.solo, gc.frame, gc.ok, gc.size, gc.reach, gc.le0⟩
    have hmk := hm.kept (rt.weaken gd.le0) (act' := act) rfl
    refine ⟨_, ⟨fr L, s2.H, s2.n⟩, .normal, (D, .mark) :: μ, rfl, gc2, ⟨fun p hp => ?_, fun p hp => ?_, ?_, ?_⟩, rfl, hk⟩
    · rcases List.mem_cons.1 hp with rfl | hp
      · exact (World.putObj_heap_other (by simp [b, D])).trans hDk
      · exact hmk.is p hp
    · rcases List.mem_cons.1 hp with rfl | hp
      · exact ⟨y1, y2, y3, Nat.le_trans gd.reach.size y4⟩
      · exact hmk.away p hp
    · refine List.nodup_cons.2 ⟨fun hmem => ?_, hm.nodup⟩
      obtain ⟨p, hp, he⟩ := List.mem_map.1 hmem
      have := (hm.is p hp).lt
      simp only [D] at he
      omega
    · show [_] ++ act.defers = _ :: dsOf μ
      rw [hm.ds]; rfl
  cases ae with
  | exit id => exact (hne id rfl).elim
  | normal => exact fin
  | ret => exact fin
end Go.Av

namespace Go.Av
variable [Gls]
def zipA : List Nat → List AV → (Nat → AV) → (Nat → AV)
  | p :: ps, a :: as, A => zipA ps as (upd A p a)
  | _, _, A => A
theorem zipA_rel {c : Ctx} {n : Nat} : ∀ (ps : List Nat) (as : List AV) (vs : List Value) (A : Nat → AV) (tmps : Array Value), as.length = vs.length → (∀ (i : Nat) a v, as[i]? = some a → vs[i]? = some v → VRel c false a v ∧ a.Ok (· < n)) →
    (∀ p ∈ ps, p < tmps.size) → (∀ t, VRel c false (A t) (tmps.getD t undef) ∧ (A t).Ok (· < n)) →
    (∀ t, VRel c false (zipA ps as A t) (((ps.zip vs).foldl (fun t (p, v) => t.setIfInBounds p v) tmps).getD t undef) ∧ (zipA ps as A t).Ok (· < n)) ∧ ((ps.zip vs).foldl (fun t (p, v) => t.setIfInBounds p v) tmps).size = tmps.size := by
  intro ps
  induction ps with
  | nil => intro as vs A tmps _ _ _ h; cases as <;> exact ⟨h, rfl⟩
  | cons p ps ih =>
    intro as vs A tmps hl ha hp h
    cases as with
    | nil =>
      have : vs = [] := List.eq_nil_of_length_eq_zero (by rw [← hl]; rfl)
      subst this
      exact ⟨h, rfl⟩
    | cons a as =>
      cases vs with
      | nil => simp at hl
      | cons v vs =>
        have h0 := ha 0 a v rfl rfl
        obtain ⟨k1, k2⟩ := ih as vs (upd A p a) (tmps.setIfInBounds p v) (by simpa using hl) (fun i a v h1 h2 => ha (i + 1) a v (by simpa using h1) (by simpa using h2)) (fun q hq => by simpa using hp q (List.mem_cons_of_mem _ hq)) (fun t => by
          rw [getD_set (hp p List.mem_cons_self)]
          by_cases ht : t = p
          · subst ht; rw [if_pos rfl, upd_same]; exact h0
          · rw [if_neg ht]
            rw [upd_other _ _ ht]; exact h t)
        exact ⟨k1, by simpa using k2⟩
def jumpOf : AExit → Option Code
  | .normal => none
  | .exit id => some (.exit id)
  | .ret => some .ret
def setP (r : Loop) (e : AExit) : Loop := { r with state := if (jumpOf e).isNone then .ready else .done, pending := jumpOf e }
theorem setP_normal {r : Loop} (h1 : r.state = .ready) (h2 : r.pending = none) : setP r .normal = r := by
  obtain ⟨st, pe, fn, tm, pa, asg, bd, de⟩ := r
  simp only at h1 h2
  subst h1 h2; rfl
theorem setP_setP (r : Loop) (e e' : AExit) : setP (setP r e) e' = setP r e' := rfl
theorem putObj_twice (w : World) (b : Nat) (x y : Go.Obj) : (w.putObj b x).putObj b y = w.putObj b y := by
  simp [World.putObj]
theorem MOk.turn {n0 : Nat} {c0 c : Ctx} {H : Heap} {μr : Mu} {act : Act} {b ntc m : Nat} {A : Nat → AV} {r r2 : Loop} (h : MOk n0 c0 c H ((b, .loop r ntc m A) :: μr) act) (ht : r2.tmps = r.tmps)
    (hle : c.Le (fun _ => True) { c with w := c.w.putObj b (.loop r2) }) : MOk n0 c0 { c with w := c.w.putObj b (.loop r2) } H ((b, .loop r2 ntc m A) :: μr) act := by
  have hlt : b < c.w.heap.size := (h.is _ List.mem_cons_self).lt
  refine ⟨fun p hp => ?_, fun p hp => ?_, h.nodup, h.ds⟩
  · rcases List.mem_cons.1 hp with rfl | hp
    · obtain ⟨⟨h1, h2⟩, h3, h4, h5⟩ := h.is _ List.mem_cons_self
      exact ⟨⟨World.putObj_heap_same hlt, by rw [ht]; exact h2⟩, h3, h4, fun t => by rw [ht]; exact (h5 t).mono hle (.inr ((h4 t).mono fun _ _ => trivial))⟩
    · have hne : p.1 ≠ b := fun e => by
        have := h.nodup
        simp only [List.map_cons, List.nodup_cons] at this
        exact this.1 (e ▸ List.mem_map_of_mem hp)
      exact (h.is p (List.mem_cons_of_mem _ hp)).le (World.putObj_heap_other hne) (hle.weaken fun _ _ => trivial)
  · rcases List.mem_cons.1 hp with rfl | hp
    · exact h.away (b, .loop r ntc m A) List.mem_cons_self
    · exact h.away p (List.mem_cons_of_mem _ hp)
theorem SemLM.yield {P : Program} {nt n0 n b ntc m : Nat} {ops : Array Oper} {l : List Oper} {o : Oper} {K : St → Mu → Prop} {A Ac : Nat → AV} {H : Heap} {μr : Mu} {x : Operand} {args : Array Operand} {ts : Array Nat} {r : Loop} {as : List AV}
    (ho : o.op = .call { callee := .value x, args := args, argTypes := ts }) (hg : o.guard = none) (hd : dstOk nt o.dst = true)
    (hx : evA A x = .sc (.func (.yield b) #[] #[])) (has : args.toList.map (evA A) = as) (h1 : r.state = .ready) (h2 : r.pending = none)
    (hp1 : as.length = r.params.size) (hp2 : ∀ p ∈ r.params.toList, p < ntc) (ht : topOnly r.assign = false ∧ topOnly r.body = false)
    (h : SemM P ntc n r.assign (fun e s μ1 => e = .normal ∧ μ1 = [] ∧ SemM P ntc n r.body (fun e s _ => SemLM P nt n0 ops l K ⟨updO A o.dst (.sc (.bool (jumpOf e).isNone)), s.H, s.n⟩ ((b, .loop (setP r e) ntc m Ac) :: μr)) s []) ⟨zipA r.params.toList as Ac, H, n⟩ []) :
    SemLM P nt n0 ops (o :: l) K ⟨A, H, n⟩ ((b, .loop r ntc m Ac) :: μr) := by
  subst has
  obtain ⟨htA, htB⟩ := ht
  have hμ : (b, MuE.loop r ntc m Ac) ∈ ((b, .loop r ntc m Ac) :: μr : Mu) := List.mem_cons_self
  intro c0 H0 c act g hm Qx hQ R hR
  cases R with
  | none => rw [noLoop_mem hμ] at hR; exact absurd (hR rfl) (by simp)
  | some R =>
  refine wpListR_step fun K' hK' => ?_
  rw [if_pos (by simp [Region.wanted, hg])]
  obtain ⟨⟨hrec, hsz⟩, hmn, hAok, hA⟩ := hm.is _ hμ
  obtain ⟨w1, w2, w3, w4⟩ := hm.away _ hμ
  have haw : Away c H b := ⟨w1, w2, w3⟩
  have hlt : b < c.w.heap.size := (Array.getElem?_eq_some_iff.1 hrec).1
  have ex : act.eval x = .func (.yield b) #[] #[] := by have := g.ev x; rw [show evA (St.A ⟨A, H, n⟩) x = _ from hx] at this; exact this.sc_inv
  have hy := run_yield (P := P) (args := args.map act.eval) hrec (by rw [Array.size_map, ← hp1]; simp)
  have hrun : (execOp act.eval o).run P c.w = .ok (.round b r.fn ((r.params.zip (args.map act.eval)).foldl (fun tmps (t, a) => tmps.setIfInBounds t a) r.tmps) r.assign r.body) c.w := by
    simp only [execOp, ho, resolve, ex, Deferred.ofValue, Sem.run_bind, Sem.run_pure, Result.andThen_ok, invoke, Array.empty_append, Array.append_empty]
    exact hy
  show Oper.wpIn (FR R) 0 P o act c.w K' Qx
  refine ⟨fun _ _ => trivial, ?_⟩
  rw [Oper.semAt_eq _ _ _ (fun d hd => by rw [hd] at ho; cases ho), hrun, Oper.uponIn_round]
  refine ⟨fun h => Bool.noConfusion h, roundIn_of_wpIn trivial ?_⟩
  have hz : (r.params.zip (args.map act.eval)).foldl (fun tmps (t, a) => tmps.setIfInBounds t a) r.tmps = (r.params.toList.zip (args.toList.map act.eval)).foldl (fun t (p, v) => t.setIfInBounds p v) r.tmps := by
    rw [← Array.foldl_toList]; simp
  have hzip := zipA_rel (c := c) (n := n) r.params.toList (args.toList.map (evA A)) (args.toList.map act.eval) Ac r.tmps (by simp) (fun i a v h1 h2 => by
      rw [List.getElem?_map] at h1
      rw [List.getElem?_map] at h2
      cases hq : args.toList[i]? with
      | none => simp [hq] at h1
      | some q =>
        simp only [hq, Option.map_some, Option.some.injEq] at h1 h2
        subst h1 h2
        exact ⟨g.ev q, g.evOk q⟩) (fun p hp => by rw [hsz]; exact hp2 p hp) (fun t => ⟨hA t, (hAok t).mono fun q hq => Nat.lt_of_lt_of_le hq (Nat.le_trans hmn g.le0)⟩)
  rw [← hz] at hzip
  have gB : Good ntc c H n c ⟨zipA r.params.toList (args.toList.map (evA A)) Ac, H, n⟩ { tmps := (r.params.zip (args.map act.eval)).foldl (fun tmps (t, a) => tmps.setIfInBounds t a) r.tmps, defers := [] } :=
    ⟨g.inv, g.solo, fun t => (hzip.1 t).1, fun t => (hzip.1 t).2, hzip.2.trans hsz, .refl _ _ _, Nat.le_refl _⟩
  refine wpIn_mono (h c H c _ gB (.nil rfl) (some b) (fun h => by rw [htA] at h; cases h)) ?_
  rintro e a1 w' ⟨c1, s1, ae, μ1, rfl, g1, hm1, rfl, rfl, rfl, hbody⟩
  have hrec1 : c1.w.heap[b]? = some (.loop r) := (g1.reach.block b hlt haw.ob).trans hrec
  refine ⟨_, run_beginRound hrec1 h1, ?_⟩
  have aw1 : Away c1 s1.H b := haw.kept hlt g1.reach
  obtain ⟨g1', _⟩ := g1.turn0 (.loop { r with state := .busy }) aw1
  refine wpIn_mono (hbody _ s1.H _ a1 g1' (.nil hm1.ds) (some b) (fun h => by rw [htB] at h; cases h)) ?_
  rintro e a2 w' ⟨c2, s2, ae, μ2, rfl, g2, hm2, rfl, hk⟩
  have hlt1 : b < c1.w.heap.size := (Array.getElem?_eq_some_iff.1 hrec1).1
  have hrec2 : c2.w.heap[b]? = some (.loop { r with state := .busy }) :=
    (g2.reach.block b (by show b < (c1.w.putObj b _).heap.size; rw [World.putObj_size]; exact hlt1) aw1.ob).trans (World.putObj_heap_same hlt1)
  have hend : ∀ j, (Instr.endRound b j).run P c2.w = .ok (.bool j.isNone) (c2.w.putObj b (.loop { r with state := if j.isNone then .ready else .done, pending := j })) := fun j => run_endRound (P := P) (r := { r with state := .busy }) j hrec2
  have aw2 : Away c2 s2.H b := (Away.mk aw1.sa aw1.so aw1.ob : Away { c1 with w := c1.w.putObj b (.loop { r with state := .busy }) } s1.H b).kept (by show b < (c1.w.putObj b _).heap.size; rw [World.putObj_size]; exact hlt1) g2.reach
  obtain ⟨g3, _⟩ := g2.turn0 (.loop r) aw2
  have rt : Reach c H n { c2 with w := c2.w.putObj b (.loop r) } s2.H := Reach.turnBack g1.reach g2.reach hrec haw
  have gf := g.next (dstOk_lt hd) rt.le rt.sa rt.so2 rt.fr rt.own g3.inv g3.solo g3.le0 (a := .sc (.bool (jumpOf ae).isNone)) (v := .bool (jumpOf ae).isNone) .sc .sc
  have mk := hm.kept (rt.weaken g.le0) (act' := act.put o.dst (.bool (jumpOf ae).isNone))
  obtain ⟨gt, hle⟩ := gf.turn (.loop (setP r ae)) aw2.sa aw2.so aw2.ob w4
  have mt := mk.turn (r2 := setP r ae) rfl hle
  have hw : ({ c2 with w := c2.w.putObj b (.loop (setP r ae)) } : Ctx) = { { c2 with w := c2.w.putObj b (.loop r) } with w := (c2.w.putObj b (.loop r)).putObj b (.loop (setP r ae)) } := by rw [putObj_twice]
  rw [← hw] at gt mt
  have fin := hK' _ _ (hk c0 H0 _ _ gt mt Qx hQ (some R) (fun h => by cases h))
  cases ae with
  | normal => exact ⟨_, _, hend none, fin⟩
  | exit id => exact ⟨_, _, hend (some (.exit id)), fin⟩
  | ret => exact ⟨_, _, hend (some .ret), fin⟩
theorem SemM.rangeFunc {P : Program} {nt n0 n gf nti : Nat} {Q : AExit → St → Mu → Prop} {A : Nat → AV} {H : Heap} {μ : Mu} {g : Operand} {ps : Array Nat} {assign body codeI : Code} {fnI : Func} {caps : List AV}
    (hg : evA A g = .fn gf caps) (hfn : FnOk P gf fnI codeI) (hnt : fnI.ntmps = nti) (hle : caps.length + 1 ≤ nti) (hres : fnI.results = #[])
    (h : ∀ (b D : Nat) (r : Loop), r.state = .ready → r.pending = none → r.params = ps → r.assign = assign → r.body = body →
      SemM P nti n codeI (fun e s μ' => (∀ id, e ≠ .exit id) ∧ ∃ pe, μ' = [(b, .loop (setP r pe) nt n A), (D, .blk (.deferred (some [])))] ∧ Q pe ⟨A, s.H, s.n⟩ ((D, .mark) :: μ)) ⟨argA (.sc (.func (.yield b) #[] #[]) :: caps), H, n⟩ [(b, .loop r nt n A), (D, .blk (.deferred (some [])))]) :
    SemM P nt n0 (.rangeFunc g ps assign body) Q ⟨A, H, n⟩ μ := by
  intro c0 H0 c act gd hm R hR
  obtain rfl := hR rfl
  have hv := gd.ev g
  rw [show evA (St.A ⟨A, H, n⟩) g = _ from hg] at hv
  have hvo := gd.evOk g
  rw [show evA (St.A ⟨A, H, n⟩) g = _ from hg] at hvo
  obtain ⟨cv, hcv, hcl, hcr⟩ := hv.fn_inv
  refine wpIn_rangeFunc ?_
  intro fn _
  let D := c.w.heap.size
  let b := c.w.heap.size + 1
  let rec0 : Loop := { state := .ready, pending := none, fn, tmps := act.tmps, params := ps, assign, body, defers := c.w.heap.size }
  let W1 : World := (c.w.alloc (.deferred (some []))).alloc (.loop rec0)
  let c1 : Ctx := { c with w := W1 }
  have hL1 : W1.heap[b]? = some (.loop rec0) := by
    have := World.alloc_heap_new (c.w.alloc (.deferred (some []))) (.loop rec0); rwa [World.size_alloc] at this
  have hK1 : W1.heap[D]? = some (.deferred (some [])) := (RowKit.Below.heap_alloc _ _ _ (by simp [D])).trans (World.alloc_heap_new c.w _)
  have hs1 : W1.heap.size = c.w.heap.size + 2 := by simp [W1]
  have g1 : Good nt c H n0 c1 ⟨A, H, n⟩ act := (gd.rebase.alloc (.deferred (some []))).alloc (.loop rec0)
  have hold : ∀ k, k < c.w.heap.size → W1.heap[k]? = c.w.heap[k]? := fun k hk => (RowKit.Below.heap_alloc _ _ _ (by simp; omega)).trans (RowKit.Below.heap_alloc _ _ _ hk)
  have r1 : Reach c H n c1 H := ⟨fun _ _ => rfl, rfl, rfl, ⟨rfl, Nat.le_refl _⟩, by show c.w.heap.size ≤ W1.heap.size; omega, fun k hk _ => hold k hk, fun k hk => hold k (gd.inv.lt k hk), rfl, fun _ h => h, fun _ h => .inl h, rfl, fun o x hx => .inr ⟨o, x, hx, rfl⟩⟩
  have hob : ∀ o x, H o = some x → (c.ρ o).blk < c.w.heap.size := fun o x hx => by
    obtain ⟨_, ⟨⟨cur, hcb, _⟩, _⟩, _⟩ := gd.inv.obj o x hx
    exact (Array.getElem?_eq_some_iff.1 hcb).1
  let vs : Array Value := #[.func (.yield b) #[] #[]] ++ cv
  have hvs : vs.size = caps.length + 1 := by simp [vs, ← hcl]; omega
  have gI : Good nti c H n c1 ⟨argA (.sc (.func (.yield b) #[] #[]) :: caps), H, n⟩ { tmps := vs ++ Array.replicate (fnI.ntmps - vs.size) undef, defers := [] } := by
    have hrel : VRels c1 false (.sc (.func (.yield b) #[] #[]) :: caps) vs := by
      refine ⟨by rw [hvs]; simp, fun i a v ha hv => ?_⟩
      cases i with
      | zero =>
        have hv' : vs[0]? = some (.func (.yield b) #[] #[]) := by simp only [vs]; rw [Array.getElem?_append_left (by simp)]; rfl
        rw [hv'] at hv
        simp only [List.getElem?_cons_zero, Option.some.injEq] at ha hv
        subst ha hv; exact .sc
      | succ i =>
        have hv' : cv[i]? = some v := by
          simp only [vs] at hv
          rw [Array.getElem?_append_right (by simp)] at hv
          simpa using hv
        simp only [List.getElem?_cons_succ] at ha
        refine (hcr i a v ha hv').mono r1.le (.inr ?_)
        cases hvo with | fn hvo => exact hvo a (List.mem_of_getElem? ha)
    have hok : ∀ a ∈ (.sc (.func (.yield b) #[] #[]) :: caps : List AV), a.Ok (· < n) := by
      intro a ha
      rcases List.mem_cons.1 ha with rfl | ha
      · exact .sc
      · cases hvo with | fn hvo => exact hvo a ha
    have : Good nti c H n c1 ⟨argA (.sc (.func (.yield b) #[] #[]) :: caps), H, n⟩ { tmps := vs ++ Array.replicate (fnI.ntmps - vs.size) undef, defers := [] } :=
      ⟨g1.inv, g1.solo, fun t => frame_args hrel _ t, fun t => argA_ok hok t, by simp only [Array.size_append, Array.size_replicate]; omega, r1, Nat.le_refl _⟩
    exact this
  have mI : MOk n c c1 H [(b, .loop rec0 nt n A), (D, .blk (.deferred (some [])))] { tmps := vs ++ Array.replicate (fnI.ntmps - vs.size) undef, defers := [] } := by
    refine ⟨fun p hp => ?_, fun p hp => ?_, by simp [b, D], rfl⟩
    · simp only [List.mem_cons, List.not_mem_nil, or_false] at hp
      rcases hp with rfl | rfl
      · exact ⟨⟨hL1, gd.size⟩, Nat.le_refl _, fun t => gd.ok t, fun t => g1.frame t⟩
      · exact hK1
    · simp only [List.mem_cons, List.not_mem_nil, or_false] at hp
      have key : ∀ k, c.w.heap.size ≤ k → ¬ c1.Sa k ∧ ¬ c1.So k ∧ (∀ o x, H o = some x → (c1.ρ o).blk ≠ k) ∧ c.w.heap.size ≤ k := fun k hk =>
        ⟨fun hs => by have := gd.inv.lt k (.inl hs); omega, fun hs => by have := gd.inv.lt k (.inr hs); omega, fun o x hx e => by have h1 := hob o x hx; have h2 : (c.ρ o).blk = k := e; omega, hk⟩
      rcases hp with rfl | rfl
      · exact key b (by simp [b])
      · exact key D (Nat.le_refl _)
  refine ⟨b, [{ target := .collected D, args := #[] }], W1, { target := .fn (.func gf) cv, args := #[.func (.yield b) #[] #[]] }, W1, gf, vs, W1, run_enterLoop_outer _ _ _ _ _, ?_, fun _ _ => trivial, ?_, fun h => Bool.noConfusion h, ?_⟩
  · simp only [resolve, hcv]
    simp [go_sem]
  · simp only [invoke, callFunc, Sem.run_bind, run_program, Result.andThen_ok, hfn.here, hfn.name, hfn.body, Option.isNone_some, Bool.false_eq_true, if_false]
    rfl
  refine callsIn_of_wp hfn.here hfn.body trivial ?_ rfl
  refine wpIn_mono (h b D rec0 rfl rfl rfl rfl rfl c H c1 _ gI mI none .none) ?_
  rintro e a w' ⟨c2, s2, ae, μ2, rfl, g2, hm2, rfl, hne, pe, rfl, hk⟩
  have hds : a.defers = [] := hm2.ds
  have fin : a.defers = [] ∧ ∃ v, (results fnI a.tmps).run P c2.w = .ok v c2.w ∧ rangePost (FR none) 0 P b (MQ nt c0 H0 n0 Q) { act with defers := [{ target := .collected D, args := #[] }] ++ act.defers } (.returned v) c2.w := by
    obtain ⟨⟨hrec, _⟩, _⟩ := hm2.is (b, .loop (setP rec0 pe) nt n A) (by simp)
    have hDk : c2.w.heap[D]? = some (.deferred (some [])) := hm2.is (D, .blk (.deferred (some []))) (by simp)
    obtain ⟨x1, x2, x3, x4⟩ := hm2.away (b, .loop (setP rec0 pe) nt n A) (by simp)
    obtain ⟨y1, y2, y3, y4⟩ := hm2.away (D, .blk (.deferred (some []))) (by simp)
    obtain ⟨g3, hle3⟩ := g2.turn (.loop { setP rec0 pe with state := .exhausted }) x1 x2 x3 x4
    refine ⟨hds, .tuple #[], by simp [results, hres, go_sem], ?_⟩
    refine ⟨jumpOf pe, _, run_endLoop hrec (by cases pe <;> simp [setP, jumpOf]), ?_⟩
    have rt := g3.reach
    have gc := gd.next (dst := none) (a := .sc undef) (v := undef) (fun d h => by cases h) rt.le rt.sa rt.so2 rt.fr rt.own g3.inv g3.solo g3.le0 .sc .sc
    have gc2 : Good nt c0 H0 n0 { c2 with w := c2.w.putObj b (.loop { setP rec0 pe with state := .exhausted }) } ⟨A, s2.H, s2.n⟩ { act with defers := [{ target := .collected D, args := #[] }] ++ act.defers } :=
      ⟨gc.inv, gc.solo, gc.frame, gc.ok, gc.size, gc.reach, gc.le0⟩
    have hmk := hm.kept (rt.weaken gd.le0) (act' := act) rfl
    have last : MQ nt c0 H0 n0 Q pe.of { act with defers := [{ target := .collected D, args := #[] }] ++ act.defers } (c2.w.putObj b (.loop { setP rec0 pe with state := .exhausted })) := by
      refine ⟨_, ⟨A, s2.H, s2.n⟩, pe, (D, .mark) :: μ, rfl, gc2, ⟨fun p hp => ?_, fun p hp => ?_, ?_, ?_⟩, rfl, hk⟩
      · rcases List.mem_cons.1 hp with rfl | hp
        · exact (World.putObj_heap_other (by simp [b, D])).trans hDk
        · exact hmk.is p hp
      · rcases List.mem_cons.1 hp with rfl | hp
        · exact ⟨y1, y2, y3, Nat.le_trans gd.reach.size y4⟩
        · exact hmk.away p hp
      · refine List.nodup_cons.2 ⟨fun hmem => ?_, hm.nodup⟩
        obtain ⟨p, hp, he⟩ := List.mem_map.1 hmem
        have := (hm.is p hp).lt
        simp only [D] at he
        omega
      · show [_] ++ act.defers = _ :: dsOf μ
        rw [hm.ds]; rfl
    cases pe with
    | normal => exact last
    | exit id => exact wpIn_exit last
    | ret => exact wpIn_ret last
  cases ae with
  | exit id => exact (hne id rfl).elim
  | normal => exact fin
  | ret => exact fin
end Go.Av

namespace Go.Av
variable [Gls]
inductive Tab (V : Type) where
  | leaf
  | node (k : Nat) (v : V) (l r : Tab V)
noncomputable def Tab.find {V : Type} (t : Tab V) : Nat → Option V :=
  Tab.rec (motive := fun _ => Nat → Option V) (fun _ => none) (fun k v _ _ ihl ihr n => bif Nat.beq n k then some v else bif Nat.blt n k then ihl n else ihr n) t
theorem Tab.find_node {V : Type} (k : Nat) (v : V) (l r : Tab V) (t : Nat) : (Tab.node k v l r).find t = bif Nat.beq t k then some v else bif Nat.blt t k then l.find t else r.find t := rfl
def Tab.All {V : Type} (p : Nat → V → Prop) : Tab V → Prop
  | .leaf => True
  | .node k v l r => p k v ∧ l.All p ∧ r.All p
theorem Tab.find_all {V : Type} {p : Nat → V → Prop} : ∀ (t : Tab V), t.All p → ∀ k v, t.find k = some v → p k v := by
  intro t
  induction t with
  | leaf => intro _ k v h; cases h
  | node k' v' l r ihl ihr =>
    intro h k v hf
    obtain ⟨h1, h2, h3⟩ := h
    rw [Tab.find_node] at hf
    cases hb : Nat.beq k k' with
    | true =>
      rw [hb, cond_true] at hf
      cases hf
      have : k = k' := Nat.eq_of_beq_eq_true hb
      subst this; exact h1
    | false =>
      rw [hb, cond_false] at hf
      cases hlt : Nat.blt k k' with
      | true => rw [hlt, cond_true] at hf; exact ihl h2 k v hf
      | false => rw [hlt, cond_false] at hf; exact ihr h3 k v hf
theorem tyOk_tab {P : Program} {t : Tab TI} (h : t.All (TiOk P)) : TyOk P t.find := fun k v hf => t.find_all h k v hf
theorem tiOk {P : Program} {t : Nat} {i : TypeInfo} {d : TypeDesc} {z : Value} (hi : P.info? t = some i) (hd : P.underlying t = some d) (hz : i.zero = some z)
    (hw : ((ofConst z).whole && Nat.beq (ofConst z).cells.length i.size) = true) : TiOk P t ⟨kindOf d, i.size, i.bytes, z, false⟩ := by
  simp only [Bool.and_eq_true] at hw
  exact ⟨⟨i, d, hi, hd, hz, rfl, rfl, rfl⟩, ⟨hw.1, Nat.eq_of_beq_eq_true hw.2⟩, fun h => by cases h⟩
theorem tiOkE {P : Program} {t : Nat} {i : TypeInfo} {d : TypeDesc} {z : Value} (hi : P.info? t = some i) (hd : P.underlying t = some d) (hz : i.zero = some z)
    (hw : ((ofConst z).whole && Nat.beq (ofConst z).cells.length i.size) = true) (h1 : P.stoodInHeld t = false) (h2 : P.eqGuardType P.depth t = false)
    (h3 : (match d with | .struct fs => fs.toList.all (fun f => !(f.name == "_")) | _ => true) = true) : TiOk P t ⟨kindOf d, i.size, i.bytes, z, true⟩ := by
  simp only [Bool.and_eq_true] at hw
  refine ⟨⟨i, d, hi, hd, hz, rfl, rfl, rfl⟩, ⟨hw.1, Nat.eq_of_beq_eq_true hw.2⟩, fun _ => ⟨h1, h2, fun fs hfs f hf => ?_⟩⟩
  rw [hd] at hfs
  cases hfs
  have := List.all_eq_true.1 h3 f (by simpa using hf)
  simpa using this
def bodyOf (fn : Func) : Code := fn.body.getD .skip
theorem envOk_tab {P : Program} {t : Tab (Func × Code)} (h : t.All (fun k v => FnOk P k v.1 v.2)) : EnvOk P t.find := fun k fn code hf => t.find_all h k (fn, code) hf
end Go.Av

namespace Go.Av
variable [Gls]
section
variable {P : Program} {ops : Array Oper} {keep : Nat → Bool} {v0 : Nat → Value}
def Kept (keep : Nat → Bool) (v0 : Nat → Value) (a : Act) : Prop := ∀ t, keep t = true → a.tmps.getD t undef = v0 t
theorem Kept.put {a : Act} {d : Option Nat} {v : Value} (h : Kept keep v0 a) (hd : ∀ t, d = some t → keep t = false) : Kept keep v0 (a.put d v) := by
  intro t ht
  rw [← h t ht]
  cases d with
  | none => rfl
  | some d =>
    show (a.tmps.setIfInBounds d v).getD t undef = _
    have hne : d ≠ t := fun e => by subst e; rw [hd d rfl] at ht; cases ht
    simp only [Array.getD_eq_getD_getElem?]
    rw [Array.getElem?_setIfInBounds_ne hne]
theorem Oper.wp_keep {o : Oper} {a : Act} {w : World} {K K' : Act → World → Prop} {Q Q' : Exit → Act → World → Prop} (hno : ∀ a w, ¬ Q .outgrown a w) (hd : ∀ t, o.dst = some t → keep t = false) (ha : Kept keep v0 a)
    (hK : ∀ a w, Kept keep v0 a → K a w → K' a w) (hQ : ∀ e a w, Kept keep v0 a → Q e a w → Q' e a w) (h : o.wp P a w K Q) : o.wp P a w K' Q' := by
  have hl : ¬ LetsOut Q := fun ⟨a, w, h⟩ => hno a w h
  unfold Oper.wp at *
  generalize (execOp a.eval o).run P w = r at *
  cases r with
  | ok n w' =>
    cases n <;> simp only [Oper.upon] at h ⊢ <;>
      first
        | exact hK _ _ (ha.put hd) h
        | exact hK _ _ (Kept.put (a := { a with defers := _ :: a.defers }) ha hd) h
        | exact Calls.mono h (fun e w'' he => by cases e <;> first | exact hK _ _ (ha.put hd) he | exact hQ _ _ _ ha he | exact (hl he).elim)
        | exact Rows.mono h (fun _ _ he => hK _ _ (ha.put hd) he)
        | exact h
  | halt x w' => cases x <;> simp only [Oper.upon] at h ⊢ <;> first | exact hQ _ _ _ ha h | exact h
theorem wpAny_keep {md : Region.Mode} {Q Q' : Exit → Act → World → Prop} (hno : ∀ a w, ¬ Q .outgrown a w) (hk : ∀ o ∈ ops.toList, ∀ d, o.dst = some d → keep d = false) (hQ : ∀ e a w, Kept keep v0 a → Q e a w → Q' e a w) :
    ∀ (fuel : Nat) (listed : Array Bool) (a : Act) (w : World), Kept keep v0 a → wpAny P md ops Q fuel listed a w → wpAny P md ops Q' fuel listed a w := by
  intro fuel
  induction fuel with
  | zero => intro listed a w ha h; exact ⟨h.1, hQ _ _ _ ha h.2⟩
  | succ fuel ih =>
    intro listed a w ha h
    refine ⟨fun hr => hQ _ _ _ ha (h.1 hr), fun i hi => ?_⟩
    have hh := h.2 i hi
    unfold wpOp at hh ⊢
    cases ho : ops[i]? with
    | none => rw [ho] at hh; exact ih _ _ _ ha hh
    | some o =>
      rw [ho] at hh
      have hm : o ∈ ops.toList := by rw [Array.mem_toList_iff]; exact Array.mem_of_getElem? ho
      simp only at hh ⊢
      by_cases hw : Region.wanted o (yielded ops a.tmps) = true
      · rw [if_pos hw] at hh ⊢
        rcases hh with hh | ⟨_, a, w, hq⟩
        · exact .inl (Oper.wp_keep hno (hk o hm) ha (fun a w ha h => ih _ a w ha h) hQ hh)
        · exact (hno a w hq).elim
      · rw [if_neg hw] at hh ⊢
        exact ih _ _ _ (ha.put (hk o hm)) hh
end
section
variable {hz : Oper → Nat → Bool} {P : Program} {T : Ty} {nt n0 : Nat} {ops : Array Oper}
theorem SemC.drawnK {id n : Nat} {Q : AExit → St → Prop} {A A0 A' : Nat → AV} {H H' : Heap} {keep : Nat → Bool} (hm : P.follows .mixedOrders = true) (hT : TyOk P T) (hpre : preLt 0 ops.toList = true)
    (hk : ∀ o ∈ ops.toList, ∀ d, o.dst = some d → keep d = false) (hA0 : ∀ t, A0 t = A t ∨ A0 t = .junk)
    (hrun : DRun hz P T nt n ops (masks ops.toList) 0 ops.toList A0 H [] A' H') (hQ : Q .normal ⟨fun t => bif keep t then A t else A' t, H', n + ops.toList.length⟩) : SemC P nt n0 (.region id ops true) Q ⟨A, H, n⟩ := by
  obtain ⟨rs, hall, hA, hH⟩ := hrun.all A0 H [] (Nat.zero_le _) rfl rfl rfl rfl rfl (fun k o r _ hr => by simp at hr)
  subst hA hH
  intro c0 HH c act gA R hR
  have g1 : Good nt c0 HH n0 c ⟨A0, H, n⟩ act := by
    refine ⟨gA.inv, gA.solo, fun t => ?_, fun t => ?_, gA.size, gA.reach, gA.le0⟩
    · show VRel c false (A0 t) _
      rcases hA0 t with h | h
      · rw [h]; exact gA.frame t
      · rw [h]; exact .junk
    · show (A0 t).Ok _
      rcases hA0 t with h | h
      · rw [h]; exact gA.ok t
      · rw [h]; exact .junk
  have g := g1.drew
  have hno : ∀ (Q : AExit → St → Prop) a w, ¬ CQ nt c HH n0 act.defers Q .outgrown a w := by rintro Q a w ⟨c, s, ae, _, _, _, h, _⟩; cases ae <;> cases h
  refine wpR_region_any hm hR (by rintro a w ⟨c, s, ae, _, _, _, h, _⟩; cases ae <;> cases h) ?_
  have hzz : ∀ k, (Array.replicate ops.size false).getD k false = false := by
    intro k
    simp only [Array.getD_eq_getD_getElem?, Array.getElem?_replicate]
    split <;> rfl
  have hfn : (fun k => (Array.replicate ops.size false).getD k false) = (fun _ => false) := funext hzz
  let cb : Ctx := { c with w := { c.w with drawn := c.w.drawn + 1 } }
  have gb : Good nt cb H n cb ⟨A0, H, n⟩ act := ⟨g.inv, g.solo, g.frame, g.ok, g.size, .refl _ _ _, Nat.le_refl _⟩
  refine wpAny_keep (keep := keep) (v0 := fun t => act.tmps.getD t undef) (Q := CQ nt cb H n act.defers (fun e s => e = .normal ∧ s = ⟨_, _, n + ops.toList.length⟩)) (by rintro a w ⟨c, s, ae, _, _, _, h, _⟩; cases ae <;> cases h) hk ?_ _ _ _ _ (fun t _ => rfl)
    (drawn_go hT hpre hall (Q := fun e s => e = .normal ∧ s = ⟨_, _, n + ops.toList.length⟩) ⟨rfl, rfl⟩ (Nat.le_refl n) ops.size _ (List.range ops.size) cb act (by simp) (by simp) (fun k hk _ => List.mem_range.2 hk) (fun i o _ h => by rw [hzz] at h; cases h) ?_ rfl)
  · rintro e a w hkept ⟨c', s', ae, rfl, g', hds, rfl, rfl, rfl⟩
    have hr : Reach c0 HH n0 c' _ := g.reach.trans (g'.reach.weaken gA.le0)
    refine ⟨c', ⟨fun t => bif keep t then A t else foldS (stepA ops.toList rs) (fun x => true) ops.toList.length A0 t, _, _⟩, .normal, rfl, ⟨g'.inv, g'.solo, fun t => ?_, fun t => ?_, g'.size, hr, Nat.le_trans gA.le0 g'.le0⟩, hds, rfl, hQ⟩
    · show VRel c' false (bif keep t then A t else _) _
      cases ht : keep t with
      | false => exact g'.frame t
      | true =>
        rw [hkept t ht]
        have h0 : VRel cb false (A t) (act.tmps.getD t undef) := by
          have := gA.drew.frame t
          exact this
        exact h0.mono g'.reach.le (.inr (gA.ok t))
    · show (bif keep t then A t else _ : AV).Ok _
      cases ht : keep t with
      | false => exact g'.ok t
      | true => exact (gA.ok t).mono fun q hq => Nat.lt_of_lt_of_le hq g'.le0
  · rw [hfn, foldS_none, foldS_none]
    have hM : ∀ q, q < n → AtS n (fun _ => false) q := fun q h => .inl h
    exact ⟨gb.inv.more hM, gb.solo, gb.frame, fun t => (gb.ok t).mono hM, gb.size, gb.reach, fun q hq => hM q (Nat.lt_of_lt_of_le hq (Nat.le_refl _))⟩
end
end Go.Av
