/- Symbolic runs: facts that are owed, for lists of flat elements. -/
import Derived.Test.YtioookhnoobpgaaAvSym4
import Derived.IntWalk
namespace Go.Av

def FlatE (e : AV) : Prop := ∀ a ∈ e.cells, ∃ v, a = .sc v

theorem cv_list {H : Heap} {own : Bool} {es : List AV} (h : ∀ e ∈ es, FlatE e) : Cv false H (.list own es) (.list false es) := by
  refine .listD rfl rfl (fun i e e' he he' => by rw [he] at he'; cases he'; rfl) (fun i e e' k a b he he' ha hb => ?_)
  rw [he] at he'; cases he'
  rw [ha] at hb; cases hb
  obtain ⟨v, rfl⟩ := h e (List.mem_of_getElem? he) a (List.mem_of_getElem? ha)
  exact .sc

theorem cv_ref {m : Bool} {H : Heap} {o n : Nat} {x : Obj} {es : List AV} (hH : H o = some x) (he : x.es = es) (hn : n = es.length) (h : ∀ e ∈ es, FlatE e) : Cv m H (.ref o 0 n) (.list m es) := by
  subst he hn
  refine .ref hH (by omega) rfl (fun i e e' he he' => ?_) (fun i e e' k a b he he' ha hb => ?_)
  · rw [Nat.zero_add] at he; rw [he] at he'; cases he'; rfl
  · rw [Nat.zero_add] at he; rw [he] at he'; cases he'
    rw [ha] at hb; cases hb
    obtain ⟨v, rfl⟩ := h e (List.mem_of_getElem? he) a (List.mem_of_getElem? ha)
    exact .sc

theorem cv_own {H : Heap} {own : Bool} {es : List AV} : Cv true H (.list own es) (.list own es) := .listS rfl

theorem Cvs.nil {m : Bool} {H : Heap} : Cvs m H [] [] := ⟨rfl, fun i a b h => by simp at h⟩
theorem Cvs.cons {m : Bool} {H : Heap} {a b : AV} {as bs : List AV} (h : Cv m H a b) (hs : Cvs m H as bs) : Cvs m H (a :: as) (b :: bs) := by
  refine ⟨by simp [hs.len], fun i x y hx hy => ?_⟩
  cases i with
  | zero => simp at hx hy; subst hx hy; exact h
  | succ i => simp at hx hy; exact hs.rel i x y hx hy

/-- A call to which no objects are lent. -/
theorem PureCall.none {P : Program} {f : Nat} {H : Heap} {as bs : List AV} {r : AV} (hp : Pure P f bs r) (h : Cvs false (fun _ => none) as bs) : PureCall P f H as bs r :=
  ⟨hp, fun _ => .none, h, (fun _ _ h => by cases h), .inr fun _ => rfl⟩
/-- A call to which objects are lent. -/
theorem PureCall.lent {P : Program} {f : Nat} {H : Heap} {as bs : List AV} {r : AV} (hp : Pure P f bs r) (h : Cvs false H as bs) (hr : OwnO r) : PureCall P f H as bs r :=
  ⟨hp, H, h, fun _ _ h => h, .inl hr⟩

theorem ownO_list {es : List AV} (h : ∀ e ∈ es, FlatE e) : OwnO (.list true es) :=
  .list fun e he a ha => by obtain ⟨v, rfl⟩ := h e he a ha; exact .sc

theorem wrap_i64 {z : Int} (h1 : -9223372036854775808 ≤ z) (h2 : z ≤ 9223372036854775807) : IntKind.i64.wrap z = z := IntWalk.i64_in z ⟨h1, h2⟩
theorem wrap_u8 {z : Int} (h1 : 0 ≤ z) (h2 : z ≤ 255) : IntKind.u8.wrap z = z := IntWalk.u8_in z ⟨h1, h2⟩

theorem ix_map {α : Type} {enc : α → AV} {l : List α} {k : Nat} {x : α} (h : l[k]? = some x) : (l.map enc)[((k : Nat) : Int).toNat]? = some (enc x) := by
  rw [Int.toNat_natCast, List.getElem?_map, h]; rfl
theorem ok_flat {es : List AV} {M : Nat → Prop} (h : ∀ e ∈ es, FlatE e) : ∀ e ∈ es, ∀ a ∈ e.cells, a.Ok M := fun e he a ha => by
  obtain ⟨v, rfl⟩ := h e he a ha; exact .sc
theorem flat1 {v : Value} : ∀ e ∈ [AV.sc v], FlatE e := fun e he a ha => by
  rw [List.mem_singleton.1 he] at ha
  exact ⟨v, List.mem_singleton.1 ha⟩
/-- Elements in which no object is named. -/
def StillE (e : AV) : Prop := ∀ θ, e.ren θ = e
theorem ren_still {es : List AV} (h : ∀ e ∈ es, StillE e) (θ : Nat → Nat) : es = es.map (AV.ren θ) := by
  conv => lhs; rw [← List.map_id es]
  exact List.map_congr_left fun e he => (h e he θ).symm
theorem allNil {p : AV → Prop} : ∀ e ∈ ([] : List AV), p e := fun _ h => by cases h
theorem allCons {p : AV → Prop} {a : AV} {l : List AV} (h : p a) (hl : ∀ e ∈ l, p e) : ∀ e ∈ a :: l, p e := fun e he => by
  rcases List.mem_cons.1 he with h1 | h1
  · rw [h1]; exact h
  · exact hl e h1
theorem allApp {p : AV → Prop} {l m : List AV} (h : ∀ e ∈ l, p e) (hm : ∀ e ∈ m, p e) : ∀ e ∈ l ++ m, p e := fun e he => (List.mem_append.1 he).elim (h e) (hm e)
theorem flatSc {v : Value} : FlatE (.sc v) := fun a ha => ⟨v, List.mem_singleton.1 ha⟩
theorem stillSc {v : Value} : StillE (.sc v) := fun _ => rfl
theorem cv_tup {m : Bool} {H : Heap} {as bs : List AV} (h : Cvs m H as bs) : Cv m H (.tup as) (.tup bs) := .tup h.len h.rel
theorem cv_tup2 {m : Bool} {H : Heap} {a b a' b' : AV} (h : Cv m H a a') (k : Cv m H b b') : Cv m H (.tup [a, b]) (.tup [a', b']) := cv_tup (.cons h (.cons k .nil))
theorem cv_tup3 {m : Bool} {H : Heap} {a b c a' b' c' : AV} (h : Cv m H a a') (k : Cv m H b b') (l : Cv m H c c') : Cv m H (.tup [a, b, c]) (.tup [a', b', c']) := cv_tup (.cons h (.cons k (.cons l .nil)))
end Go.Av
