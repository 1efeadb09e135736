/- Types, as the abstract operations see them. -/
import Derived.Test.YtioookhnoobpgaaAvBase
import Derived.Laws.StructEq
namespace Go.Av


inductive TK where
  | struct (fs : List (Nat × Nat))
  | array (len elem : Nat)
  | slice (elem : Nat)
  | int (k : IntKind)
  | bool
  | string
  | pointer (e : Nat)
  | map (k e : Nat)
  | other
  deriving Inhabited

structure TI where
  kind : TK
  size : Nat
  bytes : Nat
  zero : Value
  eqok : Bool := false
  deriving Inhabited

def TK.isAgg : TK → Bool
  | .struct _ | .array _ _ => true
  | _ => false

def kindOf : TypeDesc → TK
  | .struct fs => .struct (fs.toList.map fun f => (f.offset, f.type))
  | .array n e => .array n e
  | .slice e => .slice e
  | .int k => .int k
  | .bool => .bool
  | .string => .string
  | .pointer e => .pointer e
  | .map k e => .map k e
  | _ => .other

structure TiOk (P : Program) (t : Nat) (ti : TI) : Prop where
  parts : ∃ i d, P.info? t = some i ∧ P.underlying t = some d ∧ i.zero = some ti.zero ∧ ti.kind = kindOf d ∧ ti.size = i.size ∧ ti.bytes = i.bytes
  zs : (ofConst ti.zero).whole = true ∧ (ofConst ti.zero).cells.length = ti.size
  eq : ti.eqok = true → P.stoodInHeld t = false ∧ P.eqGuardType P.depth t = false ∧ ∀ fs, P.underlying t = some (.struct fs) → ∀ f ∈ fs, f.name ≠ "_"

abbrev Ty := Nat → Option TI
def TyOk (P : Program) (T : Ty) : Prop := ∀ t ti, T t = some ti → TiOk P t ti

theorem tyInfo_parts {P : Program} {t : Nat} {ti : TI} (h : TiOk P t ti) :
    ∃ i d, P.info? t = some i ∧ P.underlying t = some d ∧ i.zero = some ti.zero ∧ ti.kind = kindOf d ∧ ti.size = i.size ∧ ti.bytes = i.bytes := h.parts

section
variable {P : Program} {t : Nat} {ti : TI} (w : World)
theorem run_sizeOf_ty (h : TiOk P t ti) : (Go.sizeOf t).run P w = .ok ti.size w := by
  obtain ⟨i, d, hi, _, _, _, hs, _⟩ := tyInfo_parts h
  simp [Go.sizeOf, typeInfo, hi, hs]
theorem run_zero_ty (h : TiOk P t ti) : (zeroValue t).run P w = .ok ti.zero w := by
  obtain ⟨i, d, hi, _, hz, _⟩ := tyInfo_parts h
  simp [zeroValue, typeInfo, hi, hz]
theorem run_isAgg_ty (h : TiOk P t ti) : (isAgg t).run P w = .ok ti.kind.isAgg w := by
  obtain ⟨i, d, _, hd, _, hk, _⟩ := tyInfo_parts h
  unfold isAgg
  rw [Sem.run_bind, run_underlying hd w, hk]
  cases d <;> simp [kindOf, TK.isAgg]
theorem under_struct {fs : List (Nat × Nat)} (h : TiOk P t ti) (hk : ti.kind = .struct fs) :
    ∃ gs, P.underlying t = some (.struct gs) ∧ fs = gs.toList.map fun f => (f.offset, f.type) := by
  obtain ⟨i, d, _, hd, _, hk', _⟩ := tyInfo_parts h
  rw [hk] at hk'
  cases d <;> simp [kindOf] at hk'
  exact ⟨_, hd, hk'⟩
theorem under_array {n e : Nat} (h : TiOk P t ti) (hk : ti.kind = .array n e) : P.underlying t = some (.array n e) := by
  obtain ⟨i, d, _, hd, _, hk', _⟩ := tyInfo_parts h
  rw [hk] at hk'
  cases d <;> simp [kindOf] at hk'
  obtain ⟨rfl, rfl⟩ := hk'
  exact hd
theorem under_slice {e : Nat} (h : TiOk P t ti) (hk : ti.kind = .slice e) : P.underlying t = some (.slice e) := by
  obtain ⟨i, d, _, hd, _, hk', _⟩ := tyInfo_parts h
  rw [hk] at hk'
  cases d <;> simp [kindOf] at hk'
  obtain rfl := hk'
  exact hd
theorem under_int {k : IntKind} (h : TiOk P t ti) (hk : ti.kind = .int k) : P.underlying t = some (.int k) := by
  obtain ⟨i, d, _, hd, _, hk', _⟩ := tyInfo_parts h
  rw [hk] at hk'
  cases d <;> simp [kindOf] at hk'
  obtain rfl := hk'
  exact hd
theorem under_bool (h : TiOk P t ti) (hk : ti.kind = .bool) : P.underlying t = some .bool := by
  obtain ⟨i, d, _, hd, _, hk', _⟩ := tyInfo_parts h
  rw [hk] at hk'
  cases d <;> simp [kindOf] at hk'
  exact hd
theorem under_string (h : TiOk P t ti) (hk : ti.kind = .string) : P.underlying t = some .string := by
  obtain ⟨i, d, _, hd, _, hk', _⟩ := tyInfo_parts h
  rw [hk] at hk'
  cases d <;> simp [kindOf] at hk'
  exact hd
end
end Go.Av
