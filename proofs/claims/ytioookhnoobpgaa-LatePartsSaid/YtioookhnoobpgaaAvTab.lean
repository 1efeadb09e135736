/- Tables of types and of functions. -/
import Derived.Test.YtioookhnoobpgaaAvRun4
namespace Go.Av

inductive Tab (V : Type) where
  | leaf
  | node (k : Nat) (v : V) (l r : Tab V)

noncomputable def Tab.find {V : Type} (t : Tab V) : Nat → Option V :=
  Tab.rec (motive := fun _ => Nat → Option V) (fun _ => none) (fun k v _ _ ihl ihr n => bif Nat.beq n k then some v else bif Nat.blt n k then ihl n else ihr n) t
theorem Tab.find_node {V : Type} (k : Nat) (v : V) (l r : Tab V) (t : Nat) : (Tab.node k v l r).find t = bif Nat.beq t k then some v else bif Nat.blt t k then l.find t else r.find t := rfl

def Tab.All {V : Type} (p : Nat → V → Prop) : Tab V → Prop
  | .leaf => True
  | .node k v l r => p k v ∧ l.All p ∧ r.All p

theorem Tab.find_all {V : Type} {p : Nat → V → Prop} : ∀ (t : Tab V), t.All p → ∀ k v, t.find k = some v → p k v := by
  intro t
  induction t with
  | leaf => intro _ k v h; cases h
  | node k' v' l r ihl ihr =>
    intro h k v hf
    obtain ⟨h1, h2, h3⟩ := h
    rw [Tab.find_node] at hf
    cases hb : Nat.beq k k' with
    | true =>
      rw [hb, cond_true] at hf
      cases hf
      have : k = k' := Nat.eq_of_beq_eq_true hb
      subst this; exact h1
    | false =>
      rw [hb, cond_false] at hf
      cases hlt : Nat.blt k k' with
      | true => rw [hlt, cond_true] at hf; exact ihl h2 k v hf
      | false => rw [hlt, cond_false] at hf; exact ihr h3 k v hf

theorem tyOk_tab {P : Program} {t : Tab TI} (h : t.All (TiOk P)) : TyOk P t.find := fun k v hf => t.find_all h k v hf

theorem tiOk {P : Program} {t : Nat} {i : TypeInfo} {d : TypeDesc} {z : Value} (hi : P.info? t = some i) (hd : P.underlying t = some d) (hz : i.zero = some z)
    (hw : ((ofConst z).whole && Nat.beq (ofConst z).cells.length i.size) = true) : TiOk P t ⟨kindOf d, i.size, i.bytes, z, false⟩ := by
  simp only [Bool.and_eq_true] at hw
  exact ⟨⟨i, d, hi, hd, hz, rfl, rfl, rfl⟩, ⟨hw.1, Nat.eq_of_beq_eq_true hw.2⟩, fun h => by cases h⟩

theorem tiOkE {P : Program} {t : Nat} {i : TypeInfo} {d : TypeDesc} {z : Value} (hi : P.info? t = some i) (hd : P.underlying t = some d) (hz : i.zero = some z)
    (hw : ((ofConst z).whole && Nat.beq (ofConst z).cells.length i.size) = true) (h1 : P.stoodInHeld t = false) (h2 : P.eqGuardType P.depth t = false)
    (h3 : (match d with | .struct fs => fs.toList.all (fun f => !(f.name == "_")) | _ => true) = true) : TiOk P t ⟨kindOf d, i.size, i.bytes, z, true⟩ := by
  simp only [Bool.and_eq_true] at hw
  refine ⟨⟨i, d, hi, hd, hz, rfl, rfl, rfl⟩, ⟨hw.1, Nat.eq_of_beq_eq_true hw.2⟩, fun _ => ⟨h1, h2, fun fs hfs f hf => ?_⟩⟩
  rw [hd] at hfs
  cases hfs
  have := List.all_eq_true.1 h3 f (by simpa using hf)
  simpa using this

def bodyOf (fn : Func) : Code := fn.body.getD .skip

theorem envOk_tab {P : Program} {t : Tab (Func × Code)} (h : t.All (fun k v => FnOk P k v.1 v.2)) : EnvOk P t.find := fun k fn code hf => t.find_all h k (fn, code) hf
end Go.Av
