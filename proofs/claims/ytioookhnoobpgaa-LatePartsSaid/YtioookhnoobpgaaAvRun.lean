/- An evaluator for closed runs: the operations. -/
import Derived.Test.YtioookhnoobpgaaAvDraw4
namespace Go.Av

def derefF (H : Heap) : AV → Option (AV × Nat)
  | .ptr o i k => match H o with
    | some x => match x.es[i]? with
      | some e => some (e, k)
      | none => none
    | none => none
  | .elem _ e k => some (e, k)
  | _ => none

theorem derefF_ok {H : Heap} {p e : AV} {k : Nat} (h : derefF H p = some (e, k)) : Deref H p e k := by
  unfold derefF at h
  split at h
  · split at h
    · split at h
      · cases h; exact .ptr (by assumption) (by assumption)
      · cases h
    · cases h
  · cases h; exact .elem
  · cases h

def binF (T : Ty) (op : BinOp) (t : Nat) : AV → AV → Option AV
  | .sc (.int k a), .sc (.int k' b) =>
    match op with
    | .quo => if k = k' then (if b ≠ 0 then some (.sc (.int k (k.wrap (a.tdiv b)))) else none) else none
    | .rem => if k = k' then (if b ≠ 0 then some (.sc (.int k (a.tmod b))) else none) else none
    | .shl => if 0 ≤ b then some (.sc (.int k (k.wrap (a * 2 ^ (min b.toNat k.bits))))) else none
    | .shr => if 0 ≤ b then some (.sc (.int k (a.fdiv (2 ^ (min b.toNat k.bits))))) else none
    | op => if k = k' then (match intBin op k a b with | some v => some (.sc v) | none => none) else none
  | .sc (.bool a), .sc (.bool b) => match T t with
    | some ti => match ti.kind with
      | .bool => match op with
        | .eql => some (.sc (.bool (a == b)))
        | .neq => some (.sc (.bool (!(a == b))))
        | _ => none
      | _ => none
    | none => none
  | .agg xs, .agg ys => match T t with
    | some ti => if ti.eqok = true then (match op with
      | .eql => match eqT T 10000 t (.agg xs) (.agg ys) with | some r => some (.sc (.bool r)) | none => none
      | .neq => match eqT T 10000 t (.agg xs) (.agg ys) with | some r => some (.sc (.bool (!r))) | none => none
      | _ => none) else none
    | none => none
  | _, _ => none

theorem binF_ok {T : Ty} {ev : Operand → AV} {H : Heap} {op : BinOp} {t yt : Nat} {x y : Operand} {a : AV} (h : binF T op t (ev x) (ev y) = some a) : Pu T ev H (.binOp op t x y yt) a := by
  generalize hx : ev x = u at h
  generalize hy : ev y = v at h
  unfold binF at h
  split at h
  · split at h
    · split at h
      · rename_i hk; subst hk
        split at h
        · cases h; exact .quo hx hy (by assumption)
        · cases h
      · cases h
    · split at h
      · rename_i hk; subst hk
        split at h
        · cases h; exact .rem hx hy (by assumption)
        · cases h
      · cases h
    · split at h
      · cases h; exact .shl hx hy (by assumption)
      · cases h
    · split at h
      · cases h; exact .shr hx hy (by assumption)
      · cases h
    · split at h
      · rename_i hk; subst hk
        split at h
        · cases h; exact .binInt hx hy (by assumption)
        · cases h
      · cases h
  · split at h
    · split at h
      · split at h
        · cases h; exact .boolEq hx hy (by assumption) (by assumption)
        · cases h; exact .boolNe hx hy (by assumption) (by assumption)
        · cases h
      · cases h
    · cases h
  · split at h
    · split at h
      · split at h
        · split at h
          · cases h; exact .aggEq hx hy (by assumption) (by assumption) (by assumption)
          · cases h
        · split at h
          · cases h; exact .aggNe hx hy (by assumption) (by assumption) (by assumption)
          · cases h
        · cases h
      · cases h
    · cases h
  · cases h

def unF (op : UnOp) : AV → Option AV
  | .sc (.int k n) => match op with
    | .neg => some (.sc (.int k (k.wrap (0 - n))))
    | _ => none
  | .sc (.bool b) => match op with
    | .not => some (.sc (.bool (!b)))
    | _ => none
  | _ => none

def convF (T : Ty) (src dst : Nat) : AV → Option AV
  | .sc (.int _ n) => match T src with
    | some _ => match T dst with
      | some td => match td.kind with
        | .int k' => some (.sc (.int k' (k'.wrap n)))
        | _ => none
      | none => none
    | none => none
  | .sc (.string s) => match T src with
    | some _ => match T dst with
      | some td => match td.kind with
        | .string => some (.sc (.string s))
        | _ => none
      | none => none
    | none => none
  | _ => none

def fieldF (T : Ty) (s f : Nat) : Option (Nat × TI) :=
  match T s with
  | some ti => match ti.kind with
    | .struct fs => match fs[f]? with
      | some (off, ft) => match T ft with
        | some tf => some (off, tf)
        | none => none
      | none => none
    | _ => none
  | none => none

theorem fieldF_ok {T : Ty} {s f off : Nat} {tf : TI} (h : fieldF T s f = some (off, tf)) : ∃ ti fs ft, T s = some ti ∧ ti.kind = .struct fs ∧ fs[f]? = some (off, ft) ∧ T ft = some tf := by
  unfold fieldF at h
  split at h
  · split at h
    · split at h
      · split at h
        · cases h; exact ⟨_, _, _, by assumption, by assumption, by assumption, by assumption⟩
        · cases h
      · cases h
    · cases h
  · cases h

def sliceTy (T : Ty) (t : Nat) : Option TI :=
  match T t with
  | some ti => match ti.kind with
    | .slice et => T et
    | _ => none
  | none => none
theorem sliceTy_ok {T : Ty} {t : Nat} {te : TI} (h : sliceTy T t = some te) : ∃ ti et, T t = some ti ∧ ti.kind = .slice et ∧ T et = some te := by
  unfold sliceTy at h
  split at h
  · split at h
    · exact ⟨_, _, by assumption, by assumption, h⟩
    · cases h
  · cases h
def arrTy (T : Ty) (t : Nat) : Option (Nat × TI) :=
  match T t with
  | some ti => match ti.kind with
    | .array n et => match T et with
      | some te => some (n, te)
      | none => none
    | _ => none
  | none => none
theorem arrTy_ok {T : Ty} {t n : Nat} {te : TI} (h : arrTy T t = some (n, te)) : ∃ ti et, T t = some ti ∧ ti.kind = .array n et ∧ T et = some te := by
  unfold arrTy at h
  split at h
  · split at h
    · split at h
      · cases h; exact ⟨_, _, by assumption, by assumption, by assumption⟩
      · cases h
    · cases h
  · cases h

def ixF (T : Ty) (H : Heap) (t : Nat) (x : AV) (i : Int) : Option AV :=
  match x with
  | .list own es => match sliceTy T t with
    | some te => match es[i.toNat]? with
      | some e => if e.cells.length = te.size then some (.elem own e 0) else none
      | none => none
    | none => none
  | .ref o off len => match sliceTy T t with
    | some te => if i < len then (match H o with
      | some y => match y.es[off + i.toNat]? with
        | some e => if e.cells.length = te.size then some (.ptr o (off + i.toNat) 0) else none
        | none => none
      | none => none) else none
    | none => none
  | .ptr o j q => match arrTy T t with
    | some (n, te) => if i < n then some (.ptr o j (q + i.toNat * te.size)) else none
    | none => none
  | .elem own e q => match arrTy T t with
    | some (n, te) => if i < n then some (.elem own e (q + i.toNat * te.size)) else none
    | none => none
  | _ => none

def bdF (ev : Operand → AV) : Option Operand → Nat → Option Nat
  | none, d => some d
  | some x, _ => match ev x with
    | .sc (.int _ z) => if 0 ≤ z then some z.toNat else none
    | _ => none
theorem bdF_ok {ev : Operand → AV} {o : Option Operand} {d n : Nat} (h : bdF ev o d = some n) : Bd ev o d n := by
  unfold bdF at h
  split at h
  · cases h; exact .dflt
  · split at h
    · split at h
      · cases h; exact .given (by assumption) (by assumption)
      · cases h
    · cases h

def sliceF (T : Ty) (ev : Operand → AV) (H : Heap) (t : Nat) (x : AV) (lo hi : Option Operand) : Option AV :=
  match x with
  | .list own es => match sliceTy T t with
    | some te => match bdF ev lo 0, bdF ev hi es.length with
      | some l, some h => if l ≤ h then (if h ≤ es.length then (if es.all (fun e => e.cells.length == te.size) then some (.list own ((es.drop l).take (h - l))) else none) else none) else none
      | _, _ => none
    | none => none
  | .ref o off len => match sliceTy T t with
    | some te => match bdF ev lo 0, bdF ev hi len with
      | some l, some h => if h ≤ len then (if l < h then (match H o with
          | some y => if y.es.any (fun e => e.cells.length == te.size) then some (.ref o (off + l) (h - l)) else none
          | none => none)
        else if l = h then some (.list true []) else none) else none
      | _, _ => none
    | none => none
  | .nils => match sliceTy T t with
    | some _ => match bdF ev lo 0, bdF ev hi 0 with
      | some 0, some 0 => some .nils
      | _, _ => none
    | none => none
  | _ => none

def puF (T : Ty) (ev : Operand → AV) (H : Heap) : Op → Option AV
  | .move x => some (ev x)
  | .assign x => some (ev x)
  | .pick c a b => match ev c with
    | .sc (.bool true) => some (ev a)
    | .sc (.bool false) => some (ev b)
    | _ => none
  | .load t x => match T t with
    | some ti => match derefF H (ev x) with
      | some (e, k) => loadE ti e k
      | none => none
    | none => none
  | .nilCheck x => match ev x with
    | .ptr o i k => some (.ptr o i k)
    | .elem own e k => some (.elem own e k)
    | .fn f caps => some (.fn f caps)
    | _ => none
  | .binOp op t x y _ => binF T op t (ev x) (ev y)
  | .unOp op _ x => unF op (ev x)
  | .convert src dst x => convF T src dst (ev x)
  | .fieldAddr s x f => match fieldF T s f with
    | some (off, tf) => if tf.size ≠ 0 then (match ev x with
      | .ptr o i k => some (.ptr o i (k + off))
      | .elem own e k => some (.elem own e (k + off))
      | _ => none) else none
    | none => none
  | .field s x f => match fieldF T s f with
    | some (off, tf) => match ev x with
      | .agg cs => eqT.partA tf cs off
      | _ => none
    | none => none
  | .indexAddr t x ix => match ev ix with
    | .sc (.int _ i) => if 0 ≤ i then ixF T H t (ev x) i else none
    | _ => none
  | .index t x ix => match ev ix with
    | .sc (.int _ i) => if 0 ≤ i then (match ev x with
      | .agg cs => match arrTy T t with
        | some (n, te) => if i < n then eqT.partA te cs (i.toNat * te.size) else none
        | none => none
      | _ => none) else none
    | _ => none
  | .slice t x lo hi none => sliceF T ev H t (ev x) lo hi
  | .slice t x none (some hi) (some mx) => match sliceTy T t with
    | some _ => match bdF ev (some hi) 0, bdF ev (some mx) 0 with
      | some 0, some 0 => match ev x with
        | .list _ _ => some .nils
        | .ref _ _ _ => some .nils
        | .nils => some .nils
        | _ => none
      | _, _ => none
    | none => none
  | .extract x i => match ev x with
    | .tup cs => cs[i]?
    | _ => none
  | .makeFunc (.func f) ⟨[]⟩ caps => some (.fn f (caps.toList.map ev))
  | .call { callee := .builtin .len, args := ⟨[x]⟩, argTypes := ⟨[t]⟩ } => match T t with
    | some ti => match ti.kind with
      | .slice _ => match ev x with
        | .list own es => some (.sc (.int .i64 es.length))
        | .ref _ _ n => some (.sc (.int .i64 n))
        | .nils => some (.sc (.int .i64 (0 : Nat)))
        | _ => none
      | .string => match ev x with
        | .sc (.string s) => some (.sc (.int .i64 s.size))
        | _ => none
      | .array n _ => some (.sc (.int .i64 n))
      | _ => none
    | none => none
  | .call { callee := .builtin .min, args := ⟨[x, y]⟩, argTypes := _ } => match ev x, ev y with
    | .sc (.int k a), .sc (.int k' b) => if k = k' then some (.sc (.int k (if b < a then b else a))) else none
    | _, _ => none
  | .call { callee := .builtin .max, args := ⟨[x, y]⟩, argTypes := _ } => match ev x, ev y with
    | .sc (.int k a), .sc (.int k' b) => if k = k' then some (.sc (.int k (if b > a then b else a))) else none
    | _, _ => none
  | .build t ps => match T t with
    | some ti => match ofConst ti.zero with
      | .agg cs => match ti.kind with
        | .struct fs => if fs.all (fun p => (T p.2).isSome) then (match fillA (fun i => (fs[i]?).map fun p => (p.1, ((T p.2).map (·.size)).getD 0)) cs (ps.toList.map fun p => (p.1, ev p.2)) with
          | some r => some (.agg r)
          | none => none) else none
        | .array _ et => match T et with
          | some te => match fillA (fun i => some (i * te.size, te.size)) cs (ps.toList.map fun p => (p.1, ev p.2)) with
            | some r => some (.agg r)
            | none => none
          | none => none
        | _ => none
      | _ => none
    | none => none
  | _ => none

theorem puF_ok {T : Ty} {ev : Operand → AV} {H : Heap} {op : Op} {a : AV} (h : puF T ev H op = some a) : Pu T ev H op a := by
  unfold puF at h
  split at h
  · cases h; exact .move
  · cases h; exact .assign
  · split at h
    · cases h; exact .pick (by assumption) (fun _ => rfl) (fun h => by cases h)
    · cases h; exact .pick (by assumption) (fun h => by cases h) (fun _ => rfl)
    · cases h
  · split at h
    · split at h
      · exact .load (by assumption) (derefF_ok (by assumption)) h
      · cases h
    · cases h
  · split at h
    · rename_i hx; cases h; rw [← hx]; exact .nilCheckPtr hx
    · rename_i hx; cases h; rw [← hx]; exact .nilCheckElem hx
    · rename_i hx; cases h; rw [← hx]; exact .nilCheckFn hx
    · cases h
  · exact binF_ok h
  · unfold unF at h
    split at h
    · split at h
      · cases h; exact .neg (by assumption)
      · cases h
    · split at h
      · cases h; exact .not (by assumption)
      · cases h
    · cases h
  · unfold convF at h
    split at h
    · split at h
      · split at h
        · split at h
          · cases h; exact .conv (by assumption) (by assumption) (by assumption) (by assumption)
          · cases h
        · cases h
      · cases h
    · split at h
      · split at h
        · split at h
          · cases h; exact .convStr (by assumption) (by assumption) (by assumption) (by assumption)
          · cases h
        · cases h
      · cases h
    · cases h
  · split at h
    · rename_i hf
      obtain ⟨ti, fs, ft, h1, h2, h3, h4⟩ := fieldF_ok hf
      split at h
      · split at h
        · cases h; exact .fieldAddrPtr (by assumption) h1 h2 h3 h4 (by assumption)
        · cases h; exact .fieldAddrElem (by assumption) h1 h2 h3 h4 (by assumption)
        · cases h
      · cases h
    · cases h
  · split at h
    · rename_i hf
      obtain ⟨ti, fs, ft, h1, h2, h3, h4⟩ := fieldF_ok hf
      split at h
      · exact .field (by assumption) h1 h2 h3 h4 h
      · cases h
    · cases h
  · split at h
    · rename_i hix
      split at h
      · rename_i h0
        unfold ixF at h
        split at h
        · split at h
          · rename_i hs
            obtain ⟨ti, et, h1, h2, h3⟩ := sliceTy_ok hs
            split at h
            · split at h
              · cases h; exact .indexList (by assumption) hix h0 h1 h2 h3 (by assumption) (by assumption)
              · cases h
            · cases h
          · cases h
        · split at h
          · rename_i hs
            obtain ⟨ti, et, h1, h2, h3⟩ := sliceTy_ok hs
            split at h
            · split at h
              · split at h
                · split at h
                  · cases h; exact .indexRef (by assumption) hix h0 (by assumption) h1 h2 h3 (by assumption) (by assumption) (by assumption)
                  · cases h
                · cases h
              · cases h
            · cases h
          · cases h
        · split at h
          · rename_i hs
            obtain ⟨ti, et, h1, h2, h3⟩ := arrTy_ok hs
            split at h
            · cases h; exact .indexArr (by assumption) hix h0 (by assumption) h1 h2 h3
            · cases h
          · cases h
        · split at h
          · rename_i hs
            obtain ⟨ti, et, h1, h2, h3⟩ := arrTy_ok hs
            split at h
            · cases h; exact .indexArrElem (by assumption) hix h0 (by assumption) h1 h2 h3
            · cases h
          · cases h
        · cases h
      · cases h
    · cases h
  · split at h
    · rename_i hix
      split at h
      · rename_i h0
        split at h
        · split at h
          · rename_i hs
            obtain ⟨ti, et, h1, h2, h3⟩ := arrTy_ok hs
            split at h
            · exact .indexAgg (by assumption) hix h0 (by assumption) h1 h2 h3 h
            · cases h
          · cases h
        · cases h
      · cases h
    · cases h
  · unfold sliceF at h
    split at h
    · split at h
      · rename_i hs
        obtain ⟨ti, et, h1, h2, h3⟩ := sliceTy_ok hs
        split at h
        · split at h
          · split at h
            · split at h
              · rename_i hall
                cases h
                exact .sliceList (by assumption) (bdF_ok (by assumption)) (bdF_ok (by assumption)) (by assumption) (by assumption) h1 h2 h3 (fun e he => by simpa using List.all_eq_true.1 hall e he)
              · cases h
            · cases h
          · cases h
        · cases h
      · cases h
    · split at h
      · rename_i hs
        obtain ⟨ti, et, h1, h2, h3⟩ := sliceTy_ok hs
        split at h
        · split at h
          · split at h
            · split at h
              · split at h
                · rename_i hany
                  cases h
                  obtain ⟨e, he, hc⟩ := List.any_eq_true.1 hany
                  exact .sliceRef (by assumption) (bdF_ok (by assumption)) (bdF_ok (by assumption)) (by assumption) (by assumption) h1 h2 h3 (by assumption) ⟨e, he, by simpa using hc⟩
                · cases h
              · cases h
            · split at h
              · rename_i hl hh hle _ heq
                cases h
                subst heq
                exact .sliceRef0 (by assumption) (bdF_ok hl) (bdF_ok hh) hle h1 h2 h3
              · cases h
          · cases h
        · cases h
      · cases h
    · split at h
      · rename_i hs
        obtain ⟨ti, et, h1, h2, h3⟩ := sliceTy_ok hs
        split at h
        · cases h; exact .sliceNils (by assumption) (bdF_ok (by assumption)) (bdF_ok (by assumption)) h1 h2 h3
        · cases h
      · cases h
    · cases h
  · split at h
    · rename_i hs
      obtain ⟨ti, et, h1, h2, h3⟩ := sliceTy_ok hs
      split at h
      · split at h
        · rename_i hx; cases h; exact .sliceClone (by rw [hx]; rfl) (fun s => by rw [hx]; simp) (bdF_ok (by assumption)) (bdF_ok (by assumption)) h1 h2 h3
        · rename_i hx; cases h; exact .sliceClone (by rw [hx]; rfl) (fun s => by rw [hx]; simp) (bdF_ok (by assumption)) (bdF_ok (by assumption)) h1 h2 h3
        · rename_i hx; cases h; exact .sliceClone (by rw [hx]; rfl) (fun s => by rw [hx]; simp) (bdF_ok (by assumption)) (bdF_ok (by assumption)) h1 h2 h3
        · cases h
      · cases h
    · cases h
  · split at h
    · exact .extract (by assumption) h
    · cases h
  · cases h; exact .makeFunc
  · split at h
    · split at h
      · split at h
        · rename_i hx; cases h; exact .lenSlice (by rw [hx]; rfl) (by assumption) (by assumption) (fun s => by rw [hx]; simp)
        · rename_i hx; cases h; exact .lenSlice (by rw [hx]; rfl) (by assumption) (by assumption) (fun s => by rw [hx]; simp)
        · rename_i hx; cases h; exact .lenSlice (by rw [hx]; rfl) (by assumption) (by assumption) (fun s => by rw [hx]; simp)
        · cases h
      · split at h
        · cases h; exact .lenStr (by assumption) (by assumption) (by assumption)
        · cases h
      · cases h; exact .lenArr (by assumption) (by assumption)
      · cases h
    · cases h
  · split at h
    · split at h
      · rename_i hk; subst hk; cases h; exact .min2 (by assumption) (by assumption)
      · cases h
    · cases h
  · split at h
    · split at h
      · rename_i hk; subst hk; cases h; exact .max2 (by assumption) (by assumption)
      · cases h
    · cases h
  · split at h
    · split at h
      · split at h
        · split at h
          · rename_i hall
            split at h
            · cases h
              refine .buildS (by assumption) (by assumption) (by assumption) (fun p hp => ?_) (by assumption)
              have := List.all_eq_true.1 hall p hp
              exact Option.isSome_iff_exists.1 this
            · cases h
          · cases h
        · split at h
          · split at h
            · cases h; exact .buildA (by assumption) (by assumption) (by assumption) (by assumption) (by assumption)
            · cases h
          · cases h
        · cases h
      · cases h
    · cases h
  · cases h
end Go.Av
