/- The relation of the pure operations, and that it is sound. -/
import Derived.Test.YtioookhnoobpgaaAvPure
namespace Go.Av

def intBin (op : BinOp) (k : IntKind) (a b : Int) : Option Value :=
  match op with
  | .add => some (.int k (k.wrap (a + b)))
  | .sub => some (.int k (k.wrap (a - b)))
  | .mul => some (.int k (k.wrap (a * b)))
  | .and => some (.int k (bits .and k a b))
  | .or => some (.int k (bits .or k a b))
  | .xor => some (.int k (bits .xor k a b))
  | .andNot => some (.int k (bits .andNot k a b))
  | .eql => some (.bool (a == b))
  | .neq => some (.bool (a != b))
  | .lss => some (.bool (decide (a < b)))
  | .leq => some (.bool (decide (a ≤ b)))
  | .gtr => some (.bool (decide (a > b)))
  | .geq => some (.bool (decide (a ≥ b)))
  | _ => none

def strBin (op : BinOp) (a b : ByteArray) : Option Value :=
  match op with
  | .eql => some (.bool (a.toList == b.toList))
  | .neq => some (.bool (!(a.toList == b.toList)))
  | .lss => some (.bool (Op.bytesLess a.toList b.toList))
  | .leq => some (.bool (Op.bytesLess a.toList b.toList || a.toList == b.toList))
  | .gtr => some (.bool (!(Op.bytesLess a.toList b.toList || a.toList == b.toList)))
  | .geq => some (.bool (!Op.bytesLess a.toList b.toList))
  | _ => none

abbrev AV.int (k : IntKind) (n : Int) : AV := .sc (.int k n)
abbrev AV.bool (b : Bool) : AV := .sc (.bool b)
abbrev AV.str (s : ByteArray) : AV := .sc (.string s)

/-- Plain equality of values of a type: its fields one after the other. -/
def eqT (T : Ty) : Nat → Nat → AV → AV → Option Bool
  | 0, _, _, _ => none
  | d + 1, t, x, y =>
    match T t with
    | none => none
    | some ti =>
      match ti.kind, x, y with
      | .bool, .sc (.bool a), .sc (.bool b) => some (a == b)
      | .int _, .sc (.int k a), .sc (.int k' b) => if k = k' then some (a == b) else none
      | .string, .sc (.string a), .sc (.string b) => some (a.toList == b.toList)
      | .struct fs, .agg xs, .agg ys => if ti.eqok then eqFs (eqT T d) T xs ys fs else none
      | .array n e, .agg xs, .agg ys => match T e with
        | some te => eqAs (eqT T d) te xs ys e 0 n
        | none => none
      | _, _, _ => none
where
  partA (ti : TI) (cs : List AV) (off : Nat) : Option AV :=
    if ti.kind.isAgg then (if off + ti.size ≤ cs.length then some (.agg ((cs.drop off).take ti.size)) else none) else cs[off]?
  eqFs (rec : Nat → AV → AV → Option Bool) (T : Ty) (xs ys : List AV) : List (Nat × Nat) → Option Bool
    | [] => some true
    | (off, ft) :: r =>
      match T ft with
      | none => none
      | some fi => match partA fi xs off, partA fi ys off with
        | some a, some b => match rec ft a b, eqFs rec T xs ys r with
          | some p, some q => some (p && q)
          | _, _ => none
        | _, _ => none
  eqAs (rec : Nat → AV → AV → Option Bool) (te : TI) (xs ys : List AV) (e : Nat) : Nat → Nat → Option Bool
    | _, 0 => some true
    | i, n + 1 =>
      match partA te xs (i * te.size), partA te ys (i * te.size) with
      | some a, some b => match rec e a b, eqAs rec te xs ys e (i + 1) n with
        | some p, some q => some (p && q)
        | _, _ => none
      | _, _ => none

section
variable {P : Program}
theorem intBin_ok {op : BinOp} {k : IntKind} {a b : Int} {v : Value} (h : intBin op k a b = some v) (t : Nat) (x y : Operand) (w : World) :
    ((do eqGuard op t x y (.int k a) (.int k b); binOp op t (.int k a) (.int k b) : Sem Value)).run P w = .ok v w := by
  cases op <;> simp [intBin] at h <;> subst h <;> simp [eqGuard_at_int, binOp, Op.intArith, Op.intBits, Op.intCmp, bits]
theorem strBin_ok {op : BinOp} {a b : ByteArray} {v : Value} (h : strBin op a b = some v) (t : Nat) (x y : Operand) (w : World) :
    ((do eqGuard op t x y (.string a) (.string b); binOp op t (.string a) (.string b) : Sem Value)).run P w = .ok v w := by
  cases op <;> simp [strBin] at h <;> subst h <;> simp [eqGuard_at_string, binOp, Op.stringOp]
theorem boolEq_ok {t : Nat} (ht : P.underlying t = some .bool) (a b : Bool) (x y : Operand) (w : World) :
    ((do eqGuard .eql t x y (.bool a) (.bool b); binOp .eql t (.bool a) (.bool b) : Sem Value)).run P w = .ok (.bool (a == b)) w := by
  simp [eqGuard_at_bool, binOp, Op.equal, Op.maxDepth, run_equalIn_bool' w 9999 t a b ht]
theorem boolNe_ok {t : Nat} (ht : P.underlying t = some .bool) (a b : Bool) (x y : Operand) (w : World) :
    ((do eqGuard .neq t x y (.bool a) (.bool b); binOp .neq t (.bool a) (.bool b) : Sem Value)).run P w = .ok (.bool (!(a == b))) w := by
  simp [eqGuard_at_bool, binOp, Op.equal, Op.maxDepth, run_equalIn_bool' w 9999 t a b ht]
end
end Go.Av
