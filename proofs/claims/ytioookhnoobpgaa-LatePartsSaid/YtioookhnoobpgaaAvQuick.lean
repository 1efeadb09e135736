/- The operations of the evaluator, in small pieces: they are quick in the kernel. -/
import Derived.Test.YtioookhnoobpgaaAvScope
namespace Go.Av

def qPick (ev : Operand → AV) (c a b : Operand) : Option AV :=
  match ev c with
  | .sc (.bool true) => some (ev a)
  | .sc (.bool false) => some (ev b)
  | _ => none
def qLoad2 (ti : TI) (H : Heap) (p : AV) : Option AV :=
  match derefF H p with
  | some (e, k) => loadE ti e k
  | none => none
def qLoad (T : Ty) (ev : Operand → AV) (H : Heap) (t : Nat) (x : Operand) : Option AV :=
  match T t with
  | some ti => qLoad2 ti H (ev x)
  | none => none
def qNil : AV → Option AV
  | .ptr o i k => some (.ptr o i k)
  | .elem own e k => some (.elem own e k)
  | .fn f caps => some (.fn f caps)
  | _ => none
def qFieldAddr2 (off : Nat) : AV → Option AV
  | .ptr o i k => some (.ptr o i (k + off))
  | .elem own e k => some (.elem own e (k + off))
  | _ => none
def qFieldAddr (T : Ty) (ev : Operand → AV) (s : Nat) (x : Operand) (f : Nat) : Option AV :=
  match fieldF T s f with
  | some (off, tf) => if tf.size ≠ 0 then qFieldAddr2 off (ev x) else none
  | none => none
def qField (T : Ty) (ev : Operand → AV) (s : Nat) (x : Operand) (f : Nat) : Option AV :=
  match fieldF T s f with
  | some (off, tf) => match ev x with
    | .agg cs => eqT.partA tf cs off
    | _ => none
  | none => none
def qIndexAddr (T : Ty) (ev : Operand → AV) (H : Heap) (t : Nat) (x ix : Operand) : Option AV :=
  match ev ix with
  | .sc (.int _ i) => if 0 ≤ i then ixF T H t (ev x) i else none
  | _ => none
def qIndex (T : Ty) (ev : Operand → AV) (t : Nat) (x ix : Operand) : Option AV :=
  match ev ix with
  | .sc (.int _ i) => if 0 ≤ i then (match ev x with
    | .agg cs => match arrTy T t with
      | some (n, te) => if i < n then eqT.partA te cs (i.toNat * te.size) else none
      | none => none
    | _ => none) else none
  | _ => none
def qExtract (ev : Operand → AV) (x : Operand) (i : Nat) : Option AV :=
  match ev x with
  | .tup cs => cs[i]?
  | _ => none
def qLen2 (x : AV) : Option AV :=
  match x with
  | .list _ es => some (.sc (.int .i64 es.length))
  | .ref _ _ n => some (.sc (.int .i64 n))
  | .nils => some (.sc (.int .i64 (0 : Nat)))
  | _ => none
def qLenS (x : AV) : Option AV :=
  match x with
  | .sc (.string s) => some (.sc (.int .i64 s.size))
  | _ => none
def qLen (T : Ty) (ev : Operand → AV) (x : Operand) (t : Nat) : Option AV :=
  match T t with
  | some ti => match ti.kind with
    | .slice _ => qLen2 (ev x)
    | .string => qLenS (ev x)
    | .array n _ => some (.sc (.int .i64 n))
    | _ => none
  | none => none
def qBuild (T : Ty) (ev : Operand → AV) (t : Nat) (ps : Array (Nat × Operand)) : Option AV :=
  match T t with
  | some ti => match ofConst ti.zero with
    | .agg cs => match ti.kind with
      | .struct fs => if fs.all (fun p => (T p.2).isSome) then (match fillA (fun i => (fs[i]?).map fun p => (p.1, ((T p.2).map (·.size)).getD 0)) cs (ps.toList.map fun p => (p.1, ev p.2)) with
        | some r => some (.agg r)
        | none => none) else none
      | .array _ et => match T et with
        | some te => match fillA (fun i => some (i * te.size, te.size)) cs (ps.toList.map fun p => (p.1, ev p.2)) with
          | some r => some (.agg r)
          | none => none
        | none => none
      | _ => none
    | _ => none
  | none => none

def qPu (T : Ty) (ev : Operand → AV) (H : Heap) (op : Op) : Option AV :=
  match op with
  | .move x => some (ev x)
  | .assign x => some (ev x)
  | .pick c a b => qPick ev c a b
  | .load t x => qLoad T ev H t x
  | .nilCheck x => qNil (ev x)
  | .binOp op t x y _ => binF T op t (ev x) (ev y)
  | .unOp op _ x => unF op (ev x)
  | .convert src dst x => convF T src dst (ev x)
  | .fieldAddr s x f => qFieldAddr T ev s x f
  | .field s x f => qField T ev s x f
  | .indexAddr t x ix => qIndexAddr T ev H t x ix
  | .index t x ix => qIndex T ev t x ix
  | .extract x i => qExtract ev x i
  | .build t ps => qBuild T ev t ps
  | .slice t x lo hi mx => puF T ev H (.slice t x lo hi mx)
  | .makeFunc f ts caps => puF T ev H (.makeFunc f ts caps)
  | .call c => match c.callee with
    | .builtin .len => match c.args.toList, c.argTypes.toList with
      | [x], [t] => qLen T ev x t
      | _, _ => none
    | .builtin .append => none
    | .builtin _ => puF T ev H (.call c)
    | _ => none
  | _ => none

theorem qPu_ok {T : Ty} {ev : Operand → AV} {H : Heap} {op : Op} {a : AV} (h : qPu T ev H op = some a) : Pu T ev H op a := by
  refine puF_ok ?_
  unfold qPu at h
  split at h
  all_goals first
    | exact h
    | skip
  · rename_i c
    obtain ⟨callee, args, ts⟩ := c
    simp only at h
    split at h
    · split at h
      · rename_i x t ha ht
        obtain ⟨l⟩ := args
        obtain ⟨m⟩ := ts
        simp only at ha ht
        subst ha ht
        exact h
      · cases h
    · cases h
    · exact h
    · cases h
  · cases h
end Go.Av
