/- Symbolic runs: single operations. What a run cannot reckon out is answered by hints; what it owes is told as a list of facts. -/
import Derived.Test.YtioookhnoobpgaaAvMaps
import Derived.Test.YtioookhnoobpgaaAvCopy0
import Derived.Test.YtioookhnoobpgaaAvQuick
namespace Go.Av

inductive Hint where
  | el (e : AV)
  | ld (e : AV)
  | no
  | pure (bs : List AV) (r : AV)
  | call (r : AV) (G : List (Nat × Obj)) (n : Nat)
  | go (b : Bool)
  | br (b : Bool)
  | ne (b : Bool)
  | wrap

def allP : List Prop → Prop
  | [] => True
  | p :: r => p ∧ allP r

theorem allP_app {a b : List Prop} : allP (a ++ b) ↔ allP a ∧ allP b := by
  induction a with
  | nil => simp [allP]
  | cons p a ih => simp [allP, ih, and_assoc]

def underP (g : Bool) : List Prop → List Prop
  | [] => []
  | p :: r => (g = true → p) :: underP g r

theorem underP_ok {g : Bool} {l : List Prop} (h : allP (underP g l)) (hg : g = true) : allP l := by
  induction l with
  | nil => trivial
  | cons p l ih => exact ⟨h.1 hg, ih h.2⟩

/-- 'ofConst', by lists alone. -/
def ofConstL (v : Value) : AV :=
  match v with
  | .agg ⟨vs⟩ => match vs.all (fun v => v.oneCell') with
    | true => .agg (vs.map ofCell)
    | false => .sc (.agg ⟨vs⟩)
  | v => ofCell v
theorem ofConstL_eq (v : Value) : ofConstL v = ofConst v := by
  cases v with
  | agg vs =>
    obtain ⟨vs⟩ := vs
    simp only [ofConstL, ofConst]
    have h1 : (Array.all ⟨vs⟩ fun v => v.oneCell') = vs.all fun v => v.oneCell' := by simp
    rw [h1]
    cases vs.all fun v => v.oneCell' <;> rfl
  | _ => rfl

/-- Reading an operand: a value under a condition is taken out, the condition is owed. -/
def rdA (a : AV) : AV × List Prop :=
  match a with
  | .cond g v => (v, [g = true])
  | .junk => (.junk, [])
  | .sc v => (.sc v, [])
  | .nils => (.nils, [])
  | .agg cs => (.agg cs, [])
  | .tup cs => (.tup cs, [])
  | .list o es => (.list o es, [])
  | .ref o f l => (.ref o f l, [])
  | .ptr o i n => (.ptr o i n, [])
  | .elem o e n => (.elem o e n, [])
  | .fn f cs => (.fn f cs, [])
  | .mref o => (.mref o, [])
theorem rdA_ok {a b : AV} {ps : List Prop} (h : rdA a = (b, ps)) (hp : allP ps) : strip a = b := by
  cases a with
  | cond g v =>
    cases h
    simp only [allP, and_true] at hp
    simp [strip, hp]
  | _ => cases h; rfl

def rd (L : List (Nat × AV)) (x : Operand) : AV × List Prop :=
  match x with
  | .tmp t => rdA (fr L t)
  | .const v => (ofConstL v, [])
  | .global g => (.sc (.pointer (some ⟨g, 0, none⟩)), [])
  | .func f => (.fn f [], [])

theorem rd_ok {L : List (Nat × AV)} {x : Operand} {a : AV} {ps : List Prop} (h : rd L x = (a, ps)) (hp : allP ps) : evA (fr L) x = a := by
  unfold rd at h
  split at h
  · exact rdA_ok h hp
  · cases h; exact (ofConstL_eq _).symm
  · cases h; rfl
  · cases h; rfl

def rds (L : List (Nat × AV)) : List Operand → List AV × List Prop
  | [] => ([], [])
  | x :: r => match rd L x, rds L r with
    | (a, p), (l, q) => (a :: l, p ++ q)

theorem rds_ok {L : List (Nat × AV)} : ∀ {xs : List Operand} {as : List AV} {ps : List Prop}, rds L xs = (as, ps) → allP ps → xs.map (evA (fr L)) = as := by
  intro xs
  induction xs with
  | nil => intro as ps h _; simp [rds] at h; simp [← h.1]
  | cons x r ih =>
    intro as ps h hp
    simp only [rds] at h
    cases h
    obtain ⟨h1, h2⟩ := allP_app.1 hp
    simp only [List.map_cons]
    rw [rd_ok (a := (rd L x).1) (ps := (rd L x).2) rfl h1, ih (as := (rds L r).1) (ps := (rds L r).2) rfl h2]

/-! Values with their heads in sight. -/
def forceV {β : Type} (v : Value) (k : Value → Option β) : Option β :=
  match v with
  | .int q z => k (.int q z)
  | .bool b => k (.bool b)
  | .string s => k (.string s)
  | v => k v
theorem forceV_eq {β : Type} (v : Value) (k : Value → Option β) : forceV v k = k v := by cases v <;> rfl

def force0 {β : Type} (a : AV) (k : AV → Option β) : Option β :=
  match a with
  | .junk => k .junk
  | .sc v => forceV v fun v => k (.sc v)
  | .nils => k .nils
  | .agg cs => k (.agg cs)
  | .tup cs => k (.tup cs)
  | .list o es => k (.list o es)
  | .ref o f l => k (.ref o f l)
  | .ptr o i n => k (.ptr o i n)
  | .elem o e n => k (.elem o e n)
  | .fn f cs => k (.fn f cs)
  | .mref o => k (.mref o)
  | .cond b v => k (.cond b v)
theorem force0_eq {β : Type} (a : AV) (k : AV → Option β) : force0 a k = k a := by cases a <;> simp [force0, forceV_eq]

def forceL0 {β : Type} : List AV → (List AV → Option β) → Option β
  | [], k => k []
  | a :: r, k => force0 a fun a => forceL0 r fun r => k (a :: r)
theorem forceL0_eq {β : Type} : ∀ (l : List AV) (k : List AV → Option β), forceL0 l k = k l := by
  intro l
  induction l with
  | nil => intro k; rfl
  | cons a r ih => intro k; simp [forceL0, force0_eq, ih]

def force1 {β : Type} (a : AV) (k : AV → Option β) : Option β :=
  match a with
  | .agg cs => forceL0 cs fun cs => k (.agg cs)
  | .tup cs => forceL0 cs fun cs => k (.tup cs)
  | .fn f cs => forceL0 cs fun cs => k (.fn f cs)
  | a => force0 a k
theorem force1_eq {β : Type} (a : AV) (k : AV → Option β) : force1 a k = k a := by cases a <;> simp [force1, forceL0_eq, force0_eq]

def forceL {β : Type} : List AV → (List AV → Option β) → Option β
  | [], k => k []
  | a :: r, k => force1 a fun a => forceL r fun r => k (a :: r)
theorem forceL_eq {β : Type} : ∀ (l : List AV) (k : List AV → Option β), forceL l k = k l := by
  intro l
  induction l with
  | nil => intro k; rfl
  | cons a r ih => intro k; simp [forceL, force1_eq, ih]

def forceA {β : Type} (a : AV) (k : AV → Option β) : Option β :=
  match a with
  | .agg cs => forceL cs fun cs => k (.agg cs)
  | .tup cs => forceL cs fun cs => k (.tup cs)
  | a => force1 a k
theorem forceA_eq {β : Type} (a : AV) (k : AV → Option β) : forceA a k = k a := by
  cases a <;> simp [forceA, forceL_eq, force1_eq]

/-! The operations that make nothing. -/
abbrev PR := Option (AV × List Hint × List Prop)

def isWrap : List Hint → Bool
  | .wrap :: _ => true
  | _ => false

/-- A number that fits, or the number as it is wrapped. -/
def fitS (k : IntKind) (z : Int) (hs : List Hint) (ps : List Prop) : PR :=
  match hs with
  | .wrap :: hs => some (.sc (.int k (k.wrap z)), hs, ps)
  | hs => some (.sc (.int k z), hs, (k.wrap z = z) :: ps)

theorem fitS_ok {k : IntKind} {z : Int} {hs hs' : List Hint} {ps ps' : List Prop} {a : AV} (h : fitS k z hs ps = some (a, hs', ps')) (hp : allP ps') : a = .sc (.int k (k.wrap z)) ∧ allP ps := by
  unfold fitS at h
  split at h
  · cases h; exact ⟨rfl, hp⟩
  · cases h; exact ⟨by rw [hp.1], hp.2⟩


def binS (T : Ty) (op : BinOp) (t : Nat) (x y : AV) (hs : List Hint) (ps : List Prop) : PR :=
  match op, x, y with
  | .add, .sc (.int k a), .sc (.int k' b) => if k = k' then fitS k (a + b) hs ps else none
  | .sub, .sc (.int k a), .sc (.int k' b) => if k = k' then fitS k (a - b) hs ps else none
  | .mul, .sc (.int k a), .sc (.int k' b) => if k = k' then fitS k (a * b) hs ps else none
  | .quo, .sc (.int k a), .sc (.int k' b) => if k = k' then fitS k (a.tdiv b) hs ((b ≠ 0) :: ps) else none
  | .rem, .sc (.int k a), .sc (.int k' b) => if k = k' then some (.sc (.int k (a.tmod b)), hs, (b ≠ 0) :: ps) else none
  | .shl, .sc (.int k a), .sc (.int _ b) => fitS k (a * 2 ^ (min b.toNat k.bits)) hs ((0 ≤ b) :: ps)
  | .shr, .sc (.int k a), .sc (.int _ b) => some (.sc (.int k (a.fdiv (2 ^ (min b.toNat k.bits)))), hs, (0 ≤ b) :: ps)
  | op, x, y => match binF T op t x y with
    | some a => some (a, hs, ps)
    | none => none

theorem binS_ok {T : Ty} {ev : Operand → AV} {H : Heap} {op : BinOp} {t yt : Nat} {x y : Operand} {u v : AV} {hs hs' : List Hint} {ps ps' : List Prop} {a : AV} (hx : allP ps → ev x = u) (hy : allP ps → ev y = v)
    (h : binS T op t u v hs ps = some (a, hs', ps')) (hp : allP ps') : Pu T ev H (.binOp op t x y yt) a := by
  unfold binS at h
  split at h
  · split at h
    · rename_i hk; subst hk
      obtain ⟨rfl, h2⟩ := fitS_ok h hp; exact .binInt (hx h2) (hy h2) rfl
    · cases h
  · split at h
    · rename_i hk; subst hk
      obtain ⟨rfl, h2⟩ := fitS_ok h hp; exact .binInt (hx h2) (hy h2) rfl
    · cases h
  · split at h
    · rename_i hk; subst hk
      obtain ⟨rfl, h2⟩ := fitS_ok h hp; exact .binInt (hx h2) (hy h2) rfl
    · cases h
  · split at h
    · rename_i hk; subst hk
      obtain ⟨rfl, h2⟩ := fitS_ok h hp; exact .quo (hx h2.2) (hy h2.2) h2.1
    · cases h
  · split at h
    · rename_i hk; subst hk
      cases h; exact .rem (hx hp.2) (hy hp.2) hp.1
    · cases h
  · obtain ⟨rfl, h2⟩ := fitS_ok h hp; exact .shl (hx h2.2) (hy h2.2) h2.1
  · cases h; exact .shr (hx hp.2) (hy hp.2) hp.1
  · split at h
    · rename_i hb
      cases h
      rw [← hx hp, ← hy hp] at hb
      exact binF_ok hb
    · cases h

def convS (T : Ty) (src dst : Nat) (x : AV) (hs : List Hint) (ps : List Prop) : PR :=
  match x with
  | .sc (.int _ n) => match T src with
    | some _ => match T dst with
      | some td => match td.kind with
        | .int k' => fitS k' n hs ps
        | _ => none
      | none => none
    | none => none
  | x => match convF T src dst x with
    | some a => some (a, hs, ps)
    | none => none

def unS (op : UnOp) (x : AV) (hs : List Hint) (ps : List Prop) : PR :=
  match op, x with
  | .neg, .sc (.int k n) => fitS k (0 - n) hs ps
  | .not, .sc (.bool b) => some (.sc (.bool (!b)), hs, ps)
  | _, _ => none

/-- The element at which a pointer points. -/
def derefS (H : Heap) (p : AV) (hs : List Hint) (ps : List Prop) : Option (AV × Nat × List Hint × List Prop) :=
  match p with
  | .elem _ e k => some (e, k, hs, ps)
  | .ptr o i k => match H o with
    | some y => match hs with
      | .ld e :: hs => some (e, k, hs, (y.es[i]? = some e) :: ps)
      | .no :: hs => match y.es[i]? with
        | some e => some (e, k, hs, ps)
        | none => none
      | hs => match y.es[i]? with
        | some e => some (e, k, hs, ps)
        | none => none
    | none => none
  | _ => none

theorem derefS_ok {H : Heap} {p e : AV} {k : Nat} {hs hs' : List Hint} {ps ps' : List Prop} (h : derefS H p hs ps = some (e, k, hs', ps')) (hp : allP ps') : Deref H p e k ∧ allP ps := by
  unfold derefS at h
  split at h
  · cases h; exact ⟨.elem, hp⟩
  · split at h
    · rename_i hH
      split at h
      · cases h; exact ⟨.ptr hH hp.1, hp.2⟩
      · split at h
        · rename_i he; cases h; exact ⟨.ptr hH he, hp⟩
        · cases h
      · split at h
        · rename_i he; cases h; exact ⟨.ptr hH he, hp⟩
        · cases h
    · cases h
  · cases h

def ixS (T : Ty) (H : Heap) (t : Nat) (x : AV) (i : Int) (hs : List Hint) (ps : List Prop) : PR :=
  match x, hs with
  | .list own es, .el e :: hs => match sliceTy T t with
    | some te => if e.cells.length = te.size then some (.elem own e 0, hs, (0 ≤ i) :: (es[i.toNat]? = some e) :: ps) else none
    | none => none
  | .ref o off len, .el e :: hs => match sliceTy T t with
    | some te => match H o with
      | some y => if e.cells.length = te.size then some (.ptr o (off + i.toNat) 0, hs, (0 ≤ i) :: (i < len) :: (y.es[off + i.toNat]? = some e) :: ps) else none
      | none => none
    | none => none
  | .ptr o j q, hs => match arrTy T t with
    | some (n, te) => some (.ptr o j (q + i.toNat * te.size), hs, (0 ≤ i) :: (i < n) :: ps)
    | none => none
  | .elem own e q, hs => match arrTy T t with
    | some (n, te) => some (.elem own e (q + i.toNat * te.size), hs, (0 ≤ i) :: (i < n) :: ps)
    | none => none
  | x, hs => match ixF T H t x i with
    | some a => some (a, hs, (0 ≤ i) :: ps)
    | none => none

/-- A bound of a slice expression. -/
def bdS (L : List (Nat × AV)) (o : Option Operand) (d : Nat) (ps : List Prop) : Option (Nat × List Prop) :=
  match o with
  | none => some (d, ps)
  | some x => match rd L x with
    | (.sc (.int _ z), qs) => some (z.toNat, (0 ≤ z) :: (qs ++ ps))
    | _ => none

theorem bdS_ok {L : List (Nat × AV)} {o : Option Operand} {d n : Nat} {ps ps' : List Prop} (h : bdS L o d ps = some (n, ps')) (hp : allP ps') : Bd (evA (fr L)) o d n ∧ allP ps := by
  unfold bdS at h
  split at h
  · cases h; exact ⟨.dflt, hp⟩
  · split at h
    · rename_i hr
      cases h
      obtain ⟨h1, h2⟩ := hp
      obtain ⟨h3, h4⟩ := allP_app.1 h2
      exact ⟨.given (rd_ok hr h3) h1, h4⟩
    · cases h

def sliceS (T : Ty) (L : List (Nat × AV)) (H : Heap) (t : Nat) (x : AV) (lo hi : Option Operand) (hs : List Hint) (ps : List Prop) : PR :=
  match x with
  | .list own es => match sliceTy T t with
    | some te => match bdS L lo 0 ps with
      | some (l, ps) => match bdS L hi es.length ps with
        | some (h, ps) => some (.list own ((es.drop l).take (h - l)), hs, (l ≤ h) :: (h ≤ es.length) :: (∀ e ∈ es, e.cells.length = te.size) :: ps)
        | none => none
      | none => none
    | none => none
  | .ref o off len => match sliceTy T t with
    | some te => match bdS L lo 0 ps with
      | some (l, ps) => match bdS L hi len ps with
        | some (h, ps) => match hs with
          | .ne false :: hs => some (.list true [], hs, (l = h) :: (l ≤ len) :: ps)
          | hs => match H o with
            | some y => some (.ref o (off + l) (h - l), hs, (l < h) :: (h ≤ len) :: (∃ e ∈ y.es, e.cells.length = te.size) :: ps)
            | none => none
        | none => none
      | none => none
    | none => none
  | .nils => match sliceTy T t with
    | some _ => match bdS L lo 0 ps with
      | some (l, ps) => match bdS L hi 0 ps with
        | some (h, ps) => some (.nils, hs, (l = 0) :: (h = 0) :: ps)
        | none => none
      | none => none
    | none => none
  | _ => none

theorem sliceS_ok {T : Ty} {L : List (Nat × AV)} {H : Heap} {t : Nat} {x : Operand} {u : AV} {lo hi : Option Operand} {hs hs' : List Hint} {ps ps' : List Prop} {a : AV} (hx : allP ps → evA (fr L) x = u)
    (h : sliceS T L H t u lo hi hs ps = some (a, hs', ps')) (hp : allP ps') : Pu T (evA (fr L)) H (.slice t x lo hi none) a := by
  unfold sliceS at h
  split at h
  · split at h
    · rename_i hs
      obtain ⟨ti, et, h1, h2, h3⟩ := sliceTy_ok hs
      split at h
      · rename_i hl
        split at h
        · rename_i hh
          cases h
          obtain ⟨p1, p2, p3, p4⟩ := hp
          obtain ⟨b2, q2⟩ := bdS_ok hh p4
          obtain ⟨b1, q1⟩ := bdS_ok hl q2
          exact .sliceList (hx q1) b1 b2 p1 p2 h1 h2 h3 p3
        · cases h
      · cases h
    · cases h
  · split at h
    · rename_i hs
      obtain ⟨ti, et, h1, h2, h3⟩ := sliceTy_ok hs
      split at h
      · rename_i hl
        split at h
        · rename_i hh
          split at h
          · cases h
            obtain ⟨rfl, p2, p4⟩ := hp
            obtain ⟨b2, q2⟩ := bdS_ok hh p4
            obtain ⟨b1, q1⟩ := bdS_ok hl q2
            exact .sliceRef0 (hx q1) b1 b2 p2 h1 h2 h3
          · split at h
            · rename_i hH
              cases h
              obtain ⟨p1, p2, p3, p4⟩ := hp
              obtain ⟨b2, q2⟩ := bdS_ok hh p4
              obtain ⟨b1, q1⟩ := bdS_ok hl q2
              exact .sliceRef (hx q1) b1 b2 p1 p2 h1 h2 h3 hH p3
            · cases h
        · cases h
      · cases h
    · cases h
  · split at h
    · rename_i hs
      obtain ⟨ti, et, h1, h2, h3⟩ := sliceTy_ok hs
      split at h
      · rename_i hl
        split at h
        · rename_i hh
          cases h
          obtain ⟨rfl, rfl, p4⟩ := hp
          obtain ⟨b2, q2⟩ := bdS_ok hh p4
          obtain ⟨b1, q1⟩ := bdS_ok hl q2
          exact .sliceNils (hx q1) b1 b2 h1 h2 h3
        · cases h
      · cases h
    · cases h
  · cases h

theorem ixS_ok {T : Ty} {ev : Operand → AV} {H : Heap} {t : Nat} {x ix : Operand} {u : AV} {q : IntKind} {i : Int} {hs hs' : List Hint} {ps ps' : List Prop} {a : AV} (hx : allP ps → ev x = u) (hi : allP ps → ev ix = .sc (.int q i))
    (h : ixS T H t u i hs ps = some (a, hs', ps')) (hp : allP ps') : Pu T ev H (.indexAddr t x ix) a := by
  unfold ixS at h
  split at h
  · split at h
    · rename_i hs
      obtain ⟨ti, et, h1, h2, h3⟩ := sliceTy_ok hs
      split at h
      · rename_i hsz
        cases h
        exact .indexList (hx hp.2.2) (hi hp.2.2) hp.1 h1 h2 h3 hp.2.1 hsz
      · cases h
    · cases h
  · split at h
    · rename_i hs
      obtain ⟨ti, et, h1, h2, h3⟩ := sliceTy_ok hs
      split at h
      · rename_i hH
        split at h
        · rename_i hsz
          cases h
          exact .indexRef (hx hp.2.2.2) (hi hp.2.2.2) hp.1 hp.2.1 h1 h2 h3 hH hp.2.2.1 hsz
        · cases h
      · cases h
    · cases h
  · split at h
    · rename_i hs
      obtain ⟨ti, et, h1, h2, h3⟩ := arrTy_ok hs
      cases h
      exact .indexArr (hx hp.2.2) (hi hp.2.2) hp.1 hp.2.1 h1 h2 h3
    · cases h
  · split at h
    · rename_i hs
      obtain ⟨ti, et, h1, h2, h3⟩ := arrTy_ok hs
      cases h
      exact .indexArrElem (hx hp.2.2) (hi hp.2.2) hp.1 hp.2.1 h1 h2 h3
    · cases h
  · split at h
    · rename_i hix
      cases h
      refine puF_ok ?_
      simp only [puF, hi hp.2, hx hp.2, if_pos hp.1]
      exact hix
    · cases h

def lenS (T : Ty) (t : Nat) (x : AV) : Option AV :=
  match T t with
  | some ti => match ti.kind with
    | .slice _ => match x with
      | .list _ es => some (.sc (.int .i64 es.length))
      | .ref _ _ n => some (.sc (.int .i64 n))
      | .nils => some (.sc (.int .i64 (0 : Nat)))
      | _ => none
    | .string => match x with
      | .sc (.string s) => some (.sc (.int .i64 s.size))
      | _ => none
    | .array n _ => some (.sc (.int .i64 n))
    | _ => none
  | none => none

def minS (hi : Bool) (x y : AV) : Option AV :=
  match x, y with
  | .sc (.int k a), .sc (.int k' b) => if k = k' then some (.sc (.int k (bif hi then (if b > a then b else a) else (if b < a then b else a)))) else none
  | _, _ => none

def rdps (L : List (Nat × AV)) : List (Nat × Operand) → List (Nat × AV) × List Prop
  | [] => ([], [])
  | (i, x) :: r => match rd L x, rdps L r with
    | (a, p), (l, q) => ((i, a) :: l, p ++ q)

theorem rdps_ok {L : List (Nat × AV)} : ∀ {xs : List (Nat × Operand)} {as : List (Nat × AV)} {ps : List Prop}, rdps L xs = (as, ps) → allP ps → (xs.map fun p => (p.1, evA (fr L) p.2)) = as := by
  intro xs
  induction xs with
  | nil => intro as ps h _; simp [rdps] at h; simp [← h.1]
  | cons x r ih =>
    intro as ps h hp
    obtain ⟨i, x⟩ := x
    simp only [rdps] at h
    cases h
    obtain ⟨h1, h2⟩ := allP_app.1 hp
    simp only [List.map_cons]
    rw [rd_ok (a := (rd L x).1) (ps := (rd L x).2) rfl h1, ih (as := (rdps L r).1) (ps := (rdps L r).2) rfl h2]

def buildS (T : Ty) (t : Nat) (vs : List (Nat × AV)) : Option AV :=
  match T t with
  | some ti => match ofConstL ti.zero with
    | .agg cs => match ti.kind with
      | .struct fs => if fs.all (fun p => (T p.2).isSome) then (match fillA (fun i => (fs[i]?).map fun p => (p.1, ((T p.2).map (·.size)).getD 0)) cs vs with
        | some r => some (.agg r)
        | none => none) else none
      | .array _ et => match T et with
        | some te => match fillA (fun i => some (i * te.size, te.size)) cs vs with
          | some r => some (.agg r)
          | none => none
        | none => none
      | _ => none
    | _ => none
  | none => none

def pickS (L : List (Nat × AV)) (c a b : Operand) (hs : List Hint) : PR :=
  match rd L c with
  | (.sc (.bool t), pc) => match rd L a, rd L b with
    | (.sc (.bool x), pa), (.sc (.bool y), pb) => some (.sc (.bool (bif t then x else y)), hs, pc ++ (underP t pa ++ underP (!t) pb))
    | (u, pa), (v, pb) => match hs with
      | .go true :: hs => some (u, hs, (t = true) :: (pc ++ pa))
      | .go false :: hs => some (v, hs, (t = false) :: (pc ++ pb))
      | _ => none
  | _ => none

def puS (T : Ty) (L : List (Nat × AV)) (H : Heap) (op : Op) (hs : List Hint) : PR :=
  match op with
  | .move x => match rd L x with
    | (a, ps) => some (a, hs, ps)
  | .assign x => match rd L x with
    | (a, ps) => some (a, hs, ps)
  | .pick c a b => pickS L c a b hs
  | .load t x => match T t with
    | some ti => match rd L x with
      | (p, ps) => match derefS H p hs ps with
        | some (e, k, hs, ps) => match loadE ti e k with
          | some a => some (a, hs, ps)
          | none => none
        | none => none
    | none => none
  | .nilCheck x => match rd L x with
    | (.ptr o i k, ps) => some (.ptr o i k, hs, ps)
    | (.elem own e k, ps) => some (.elem own e k, hs, ps)
    | (.fn f caps, ps) => some (.fn f caps, hs, ps)
    | _ => none
  | .binOp op t x y _ => match rd L x, rd L y with
    | (a, p), (b, q) => binS T op t a b hs (p ++ q)
  | .unOp op _ x => match rd L x with
    | (a, p) => unS op a hs p
  | .convert src dst x => match rd L x with
    | (a, p) => convS T src dst a hs p
  | .fieldAddr s x f => match fieldF T s f with
    | some (off, tf) => if tf.size ≠ 0 then (match rd L x with
      | (.ptr o i k, ps) => some (.ptr o i (k + off), hs, ps)
      | (.elem own e k, ps) => some (.elem own e (k + off), hs, ps)
      | _ => none) else none
    | none => none
  | .field s x f => match fieldF T s f with
    | some (off, tf) => match rd L x with
      | (.agg cs, ps) => match eqT.partA tf cs off with
        | some a => some (a, hs, ps)
        | none => none
      | _ => none
    | none => none
  | .indexAddr t x ix => match rd L ix with
    | (.sc (.int _ i), p) => match rd L x with
      | (a, q) => ixS T H t a i hs (p ++ q)
    | _ => none
  | .index t x ix => match rd L ix with
    | (.sc (.int _ i), p) => match rd L x with
      | (.agg cs, q) => match arrTy T t with
        | some (n, te) => match eqT.partA te cs (i.toNat * te.size) with
          | some a => some (a, hs, (0 ≤ i) :: (i < n) :: (p ++ q))
          | none => none
        | none => none
      | (.sc (.string s), q) => match T t with
        | some ti => match ti.kind with
          | .string => match hs with
            | .el (.sc (.int .u8 b)) :: hs => some (.sc (.int .u8 b), hs, (0 ≤ i) :: (∃ c, s[i.toNat]? = some c ∧ b = c.toNat) :: (p ++ q))
            | hs => match s[i.toNat]? with
              | some b => some (.sc (.int .u8 b.toNat), hs, (0 ≤ i) :: (p ++ q))
              | none => none
          | _ => none
        | none => none
      | _ => none
    | _ => none
  | .slice t x lo hi none => match rd L x with
    | (a, p) => sliceS T L H t a lo hi hs p
  | .slice t x none (some hi) (some mx) => match sliceTy T t with
    | some _ => match rd L x with
      | (a, p) => match bdS L (some hi) 0 p with
        | some (h, p) => match bdS L (some mx) 0 p with
          | some (m, p) => match a with
            | .list _ _ => some (.nils, hs, (h = 0) :: (m = 0) :: p)
            | .ref _ _ _ => some (.nils, hs, (h = 0) :: (m = 0) :: p)
            | .nils => some (.nils, hs, (h = 0) :: (m = 0) :: p)
            | _ => none
          | none => none
        | none => none
    | none => none
  | .extract x i => match rd L x with
    | (.tup cs, p) => match cs[i]? with
      | some a => some (a, hs, p)
      | none => none
    | _ => none
  | .makeFunc (.func f) ⟨[]⟩ caps => match rds L caps.toList with
    | (l, p) => some (.fn f l, hs, p)
  | .call { callee := .builtin .len, args := ⟨[x]⟩, argTypes := ⟨[t]⟩ } => match rd L x with
    | (a, p) => match lenS T t a with
      | some r => some (r, hs, p)
      | none => none
  | .call { callee := .builtin .min, args := ⟨[x, y]⟩, argTypes := _ } => match rd L x, rd L y with
    | (a, p), (b, q) => match minS false a b with
      | some r => some (r, hs, p ++ q)
      | none => none
  | .call { callee := .builtin .max, args := ⟨[x, y]⟩, argTypes := _ } => match rd L x, rd L y with
    | (a, p), (b, q) => match minS true a b with
      | some r => some (r, hs, p ++ q)
      | none => none
  | .build t ps => match rdps L ps.toList with
    | (l, p) => match buildS T t l with
      | some r => some (r, hs, p)
      | none => none
  | _ => none

theorem pickS_ok {T : Ty} {L : List (Nat × AV)} {H : Heap} {c a b : Operand} {hs hs' : List Hint} {ps : List Prop} {r : AV} (h : pickS L c a b hs = some (r, hs', ps)) (hp : allP ps) : Pu T (evA (fr L)) H (.pick c a b) r := by
  unfold pickS at h
  split at h
  · rename_i t pc hc
    split at h
    · rename_i x pa y pb ha hb
      cases h
      obtain ⟨h1, h2⟩ := allP_app.1 hp
      obtain ⟨h3, h4⟩ := allP_app.1 h2
      exact .pickB (rd_ok hc h1) (fun ht => rd_ok ha (underP_ok h3 ht)) (fun ht => rd_ok hb (underP_ok h4 (by rw [ht]; rfl)))
    · rename_i u pa v pb _ ha hb
      split at h
      · cases h
        obtain ⟨h0, h1⟩ := hp
        obtain ⟨h3, h4⟩ := allP_app.1 h1
        exact .pick (rd_ok hc h3) (fun _ => rd_ok ha h4) (fun ht => by rw [h0] at ht; cases ht)
      · cases h
        obtain ⟨h0, h1⟩ := hp
        obtain ⟨h3, h4⟩ := allP_app.1 h1
        exact .pick (rd_ok hc h3) (fun ht => by rw [h0] at ht; cases ht) (fun _ => rd_ok hb h4)
      · cases h
  · cases h

theorem lenS_ok {T : Ty} {ev : Operand → AV} {H : Heap} {t : Nat} {x : Operand} {r : AV} (h : lenS T t (ev x) = some r) : Pu T ev H (.call { callee := .builtin .len, args := ⟨[x]⟩, argTypes := ⟨[t]⟩ }) r := by
  refine puF_ok ?_
  unfold lenS at h
  simp only [puF]
  exact h

theorem minS_ok {T : Ty} {ev : Operand → AV} {H : Heap} {x y : Operand} {ts : Array Nat} {r : AV} (h : minS false (ev x) (ev y) = some r) : Pu T ev H (.call { callee := .builtin .min, args := ⟨[x, y]⟩, argTypes := ts }) r := by
  refine puF_ok ?_
  simp only [puF]
  unfold minS at h
  split at h
  · rename_i h1 h2; rw [h1, h2]; exact h
  · cases h
theorem maxS_ok {T : Ty} {ev : Operand → AV} {H : Heap} {x y : Operand} {ts : Array Nat} {r : AV} (h : minS true (ev x) (ev y) = some r) : Pu T ev H (.call { callee := .builtin .max, args := ⟨[x, y]⟩, argTypes := ts }) r := by
  refine puF_ok ?_
  simp only [puF]
  unfold minS at h
  split at h
  · rename_i h1 h2; rw [h1, h2]; exact h
  · cases h

theorem buildS_ok {T : Ty} {ev : Operand → AV} {H : Heap} {t : Nat} {ps : Array (Nat × Operand)} {r : AV} (h : buildS T t (ps.toList.map fun p => (p.1, ev p.2)) = some r) : Pu T ev H (.build t ps) r := by
  refine puF_ok ?_
  unfold buildS at h
  simp only [puF]
  simp only [ofConstL_eq] at h
  exact h

theorem convS_ok {T : Ty} {ev : Operand → AV} {H : Heap} {src dst : Nat} {x : Operand} {u : AV} {hs hs' : List Hint} {ps ps' : List Prop} {a : AV} (hx : allP ps → ev x = u) (h : convS T src dst u hs ps = some (a, hs', ps')) (hp : allP ps') :
    Pu T ev H (.convert src dst x) a := by
  unfold convS at h
  split at h
  · split at h
    · split at h
      · split at h
        · obtain ⟨rfl, h2⟩ := fitS_ok h hp; exact .conv (hx h2) (by assumption) (by assumption) (by assumption)
        · cases h
      · cases h
    · cases h
  · split at h
    · rename_i hc
      cases h
      refine puF_ok ?_
      simp only [puF, hx hp]
      exact hc
    · cases h

theorem unS_ok {T : Ty} {ev : Operand → AV} {H : Heap} {op : UnOp} {t : Nat} {x : Operand} {u : AV} {hs hs' : List Hint} {ps ps' : List Prop} {a : AV} (hx : allP ps → ev x = u) (h : unS op u hs ps = some (a, hs', ps')) (hp : allP ps') :
    Pu T ev H (.unOp op t x) a := by
  unfold unS at h
  split at h
  · obtain ⟨rfl, h2⟩ := fitS_ok h hp; exact .neg (hx h2)
  · cases h; exact .not (hx hp)
  · cases h

theorem puS_ok {T : Ty} {L : List (Nat × AV)} {H : Heap} {op : Op} {hs hs' : List Hint} {ps : List Prop} {a : AV} (h : puS T L H op hs = some (a, hs', ps)) (hp : allP ps) : Pu T (evA (fr L)) H op a := by
  unfold puS at h
  split at h
  · rename_i x
    rcases hr : rd L x with ⟨a1, p1⟩
    rw [hr] at h
    cases h
    rw [← rd_ok hr hp]; exact .move
  · rename_i x
    rcases hr : rd L x with ⟨a1, p1⟩
    rw [hr] at h
    cases h
    rw [← rd_ok hr hp]; exact .assign
  · exact pickS_ok h hp
  · split at h
    · rename_i ht
      split at h
      rename_i hr
      split at h
      · rename_i hd
        split at h
        · rename_i hl
          cases h
          obtain ⟨h1, h2⟩ := derefS_ok hd hp
          rw [← rd_ok hr h2] at h1
          exact .load ht h1 hl
        · cases h
      · cases h
    · cases h
  · split at h
    · rename_i hr; cases h
      have := rd_ok hr hp
      rw [← this]; exact .nilCheckPtr this
    · rename_i hr; cases h
      have := rd_ok hr hp
      rw [← this]; exact .nilCheckElem this
    · rename_i hr; cases h
      have := rd_ok hr hp
      rw [← this]; exact .nilCheckFn this
    · cases h
  · exact binS_ok (fun hq => rd_ok rfl (allP_app.1 hq).1) (fun hq => rd_ok rfl (allP_app.1 hq).2) h hp
  · exact unS_ok (fun hq => rd_ok rfl hq) h hp
  · exact convS_ok (fun hq => rd_ok rfl hq) h hp
  · split at h
    · rename_i hf
      obtain ⟨ti, fs, ft, g1, g2, g3, g4⟩ := fieldF_ok hf
      split at h
      · rename_i hz
        split at h
        · rename_i hr; cases h; exact .fieldAddrPtr (rd_ok hr hp) g1 g2 g3 g4 hz
        · rename_i hr; cases h; exact .fieldAddrElem (rd_ok hr hp) g1 g2 g3 g4 hz
        · cases h
      · cases h
    · cases h
  · split at h
    · rename_i hf
      obtain ⟨ti, fs, ft, g1, g2, g3, g4⟩ := fieldF_ok hf
      split at h
      · rename_i hr
        split at h
        · rename_i ha; cases h; exact .field (rd_ok hr hp) g1 g2 g3 g4 ha
        · cases h
      · cases h
    · cases h
  · split at h
    · rename_i hr
      exact ixS_ok (fun hq => rd_ok rfl (allP_app.1 hq).2) (fun hq => rd_ok hr (allP_app.1 hq).1) h hp
    · cases h
  · split at h
    · rename_i hi
      split at h
      · rename_i hr
        split at h
        · rename_i ha
          obtain ⟨ti, et, h1, h2, h3⟩ := arrTy_ok ha
          split at h
          · rename_i hpa
            cases h
            obtain ⟨p1, p2, p3⟩ := hp
            obtain ⟨p4, p5⟩ := allP_app.1 p3
            exact .indexAgg (rd_ok hr p5) (rd_ok hi p4) p1 p2 h1 h2 h3 hpa
          · cases h
        · cases h
      · rename_i hr
        split at h
        · rename_i ht
          split at h
          · rename_i hk
            split at h
            · cases h
              obtain ⟨p1, ⟨c, p2, rfl⟩, p3⟩ := hp
              obtain ⟨p4, p5⟩ := allP_app.1 p3
              exact .indexStr (rd_ok hr p5) (rd_ok hi p4) p1 ht hk p2
            · split at h
              · rename_i hb
                cases h
                obtain ⟨p1, p3⟩ := hp
                obtain ⟨p4, p5⟩ := allP_app.1 p3
                exact .indexStr (rd_ok hr p5) (rd_ok hi p4) p1 ht hk hb
              · cases h
          · cases h
        · cases h
      · cases h
    · cases h
  · exact sliceS_ok (fun hq => rd_ok rfl hq) h hp
  · split at h
    · rename_i hs
      obtain ⟨ti, et, h1, h2, h3⟩ := sliceTy_ok hs
      split at h
      rename_i a1 p1 hr
      split at h
      · rename_i hb1
        split at h
        · rename_i hb2
          split at h
          all_goals first
            | (cases h
               obtain ⟨rfl, rfl, p4⟩ := hp
               obtain ⟨b2, q2⟩ := bdS_ok hb2 p4
               obtain ⟨b1, q1⟩ := bdS_ok hb1 q2
               have hx := rd_ok hr q1
               exact .sliceClone (by rw [hx]; rfl) (fun s hs => by rw [hx] at hs; cases hs) b1 b2 h1 h2 h3)
            | cases h
        · cases h
      · cases h
    · cases h
  · split at h
    · rename_i hr
      split at h
      · rename_i hi
        cases h
        exact .extract (rd_ok hr hp) hi
      · cases h
    · cases h
  · split at h
    rename_i hr
    cases h
    have := rds_ok hr hp
    refine puF_ok ?_
    simp only [puF, this]
  · split at h
    rename_i hr
    split at h
    · rename_i hl
      cases h
      rw [← rd_ok hr hp] at hl
      exact lenS_ok hl
    · cases h
  · split at h
    rename_i hx hy
    split at h
    · rename_i hl
      cases h
      obtain ⟨p1, p2⟩ := allP_app.1 hp
      rw [← rd_ok hx p1, ← rd_ok hy p2] at hl
      exact minS_ok hl
    · cases h
  · split at h
    rename_i hx hy
    split at h
    · rename_i hl
      cases h
      obtain ⟨p1, p2⟩ := allP_app.1 hp
      rw [← rd_ok hx p1, ← rd_ok hy p2] at hl
      exact maxS_ok hl
    · cases h
  · split at h
    rename_i hr
    split at h
    · rename_i hl
      cases h
      rw [← rdps_ok hr hp] at hl
      exact buildS_ok hl
    · cases h
  · cases h
end Go.Av
