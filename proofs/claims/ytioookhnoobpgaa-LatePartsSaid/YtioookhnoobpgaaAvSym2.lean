/- Symbolic runs: operations that make memory, stores, calls; lists of operations. -/
import Derived.Test.YtioookhnoobpgaaAvSym1
namespace Go.Av

def srcS (H : Heap) (a : AV) (ps : List Prop) : Option (List AV × List Prop) :=
  match a with
  | .list _ es => some (es, ps)
  | .nils => some ([], ps)
  | .ref o off len => match H o with
    | some x => some ((x.es.drop off).take len, (off + len ≤ x.es.length) :: ps)
    | none => none
  | _ => none

theorem srcS_ok {H : Heap} {a : AV} {xs : List AV} {ps ps' : List Prop} (h : srcS H a ps = some (xs, ps')) (hp : allP ps') : SrcR H a xs ∧ allP ps := by
  unfold srcS at h
  split at h
  · cases h; exact ⟨.list, hp⟩
  · cases h; exact ⟨.nils, hp⟩
  · split at h
    · rename_i hH; cases h; exact ⟨.ref hH hp.1, hp.2⟩
    · cases h
  · cases h

abbrev MR := Option (AV × Eff × List Hint × List Prop)

def appS (H : Heap) (id : Nat) (te : TI) (s : AV) (xs : List AV) (hs : List Hint) (ps : List Prop) : MR :=
  match s with
  | .nils => if te.size ≠ 0 then some (.ref id 0 xs.length, .new { es := xs, esz := te.size }, hs,
      (xs ≠ []) :: (xs.length ≤ maxLen) :: (xs.length * te.bytes ≤ 140737488355328) :: (∀ e ∈ xs, e.cells.length = te.size) :: ps) else none
  | .ref o 0 n => match H o with
    | some y => match y.spent with
      | false => if y.esz = te.size then some (.ref id 0 (n + xs.length), .app o { es := y.es ++ xs, esz := te.size }, hs,
          (y.es.length = n) :: (xs ≠ []) :: (n + xs.length ≤ maxLen) :: ((n + xs.length) * te.bytes ≤ 140737488355328) :: (∀ e ∈ xs, e.cells.length = te.size) :: ps) else none
      | true => none
    | none => none
  | _ => none

def sliceLike : AV → Bool
  | .list .. | .ref .. | .nils => true
  | _ => false
theorem sliceLike_len {a : AV} (h : sliceLike a = true) : (∃ n, lenA a = some n) ∧ ∀ u, a ≠ .sc (.string u) := by
  cases a <;> simp [sliceLike] at h <;> exact ⟨⟨_, rfl⟩, fun u hu => by cases hu⟩

def mkS (T : Ty) (L : List (Nat × AV)) (H : Heap) (id : Nat) (op : Op) (hs : List Hint) : MR :=
  match op with
  | .box _ x => match rd L x with
    | (a, ps) => match a.whole with
      | true => match a.cells with
        | [] => none
        | _ :: _ => some (.ptr id 0 0, .new { es := [a], esz := a.cells.length }, hs, ps)
      | false => none
  | .alloc elem => match T elem with
    | some ti => if ti.size ≠ 0 then forceA (ofConstL ti.zero) fun z => some (.ptr id 0 0, .new { es := [z], esz := ti.size }, hs, []) else none
    | none => none
  | .buildSlice t len ps => match sliceTy T t with
    | some te => if len = 0 then (match ps with
        | ⟨[]⟩ => some (.nils, .none, hs, [])
        | _ => none)
      else if te.size ≠ 0 then (if len * te.size ≤ 2 ^ 24 then (match rdps L ps.toList with
        | (vs, qs) => match setParts te.size (List.replicate len (ofConstL te.zero)) vs with
          | some es => forceL es fun es => some (.ref id 0 len, .new { es := es, esz := te.size }, hs, qs)
          | none => none) else none) else none
    | none => none
  | .makeSlice t l cc => match sliceTy T t with
    | some te => match rd L l, rd L cc with
      | (.sc (.int _ n), p), (.sc (.int _ m), q) => match hs with
        | .ne false :: hs => some (.nils, .none, hs, (n = 0) :: (m = 0) :: (p ++ q))
        | hs => if te.size ≠ 0 then some (.ref id 0 n.toNat, .new { es := List.replicate n.toNat (ofConstL te.zero), esz := te.size }, hs,
            (0 ≤ n) :: (n ≤ m) :: (0 < m) :: (te.bytes * m ≤ 2 ^ 48) :: (m < 2 ^ 62) :: (p ++ q)) else none
      | _, _ => none
    | none => none
  | .call { callee := .builtin .append, args := ⟨[s, x]⟩, argTypes := ⟨[t, t']⟩ } => if t = t' then (match sliceTy T t with
    | some te => match rd L s, rd L x with
      | (a, p), (b, q) => match srcS H b (p ++ q) with
        | some (xs, ps) => match hs with
          | .ne false :: hs => match sliceLike a with
            | true => some (a, .none, hs, (xs = []) :: ps)
            | false => none
          | .ne true :: hs => appS H id te a xs hs ps
          | hs => forceL xs fun xs => match xs with
            | [] => match sliceLike a with
              | true => some (a, .none, hs, ps)
              | false => none
            | e :: r => appS H id te a (e :: r) hs ps
        | none => none
    | none => none) else none
  | _ => none

theorem appS_ok {T : Ty} {ev : Operand → AV} {H : Heap} {id : Nat} {s x : Operand} {t : Nat} {ti te : TI} {et : Nat} {u : AV} {xs : List AV} {hs hs' : List Hint} {ps ps' : List Prop} {a : AV} {e : Eff}
    (ht : T t = some ti) (hk : ti.kind = .slice et) (hte : T et = some te) (hsu : allP ps → ev s = u) (hx : allP ps → SrcR H (ev x) xs) (h : appS H id te u xs hs ps = some (a, e, hs', ps')) (hp : allP ps') :
    Mk T ev H id (.call { callee := .builtin .append, args := #[s, x], argTypes := #[t, t] }) a e ∧ ∀ old x, e = .app old x ∨ e = .new x → x.solo = true ∧ x.spent = false := by
  unfold appS at h
  split at h
  · split at h
    · rename_i hz
      cases h
      obtain ⟨p1, p2, p3, p4, p5⟩ := hp
      refine ⟨.appendNil (hsu p5) (hx p5) p1 ht hk hte p4 hz p2 p3, fun old y hy => by rcases hy with hy | hy <;> cases hy; exact ⟨rfl, rfl⟩⟩
    · cases h
  · split at h
    · rename_i hH
      split at h
      · rename_i hsp
        split at h
        · rename_i hes
          cases h
          obtain ⟨p0, p1, p2, p3, p4, p5⟩ := hp
          refine ⟨.append (hsu p5) hH p0 hsp hes (hx p5) p1 ht hk hte p4 p2 p3, fun old y hy => by rcases hy with hy | hy <;> cases hy; exact ⟨rfl, rfl⟩⟩
        · cases h
      · cases h
    · cases h
  · cases h

theorem mkS_ok {T : Ty} {L : List (Nat × AV)} {H : Heap} {id : Nat} {op : Op} {hs hs' : List Hint} {ps : List Prop} {a : AV} {e : Eff} (h : mkS T L H id op hs = some (a, e, hs', ps)) (hp : allP ps) :
    Mk T (evA (fr L)) H id op a e ∧ ∀ old x, e = .app old x ∨ e = .new x → x.solo = true ∧ x.spent = false := by
  unfold mkS at h
  split at h
  · split at h
    rename_i hr
    split at h
    · rename_i hw
      split at h
      · cases h
      · rename_i hc
        cases h
        have := rd_ok hr hp
        rw [← this]
        exact ⟨.box (by rw [this]; exact hw) (by rw [this, hc]; simp), fun old y hy => by rcases hy with hy | hy <;> cases hy; exact ⟨rfl, rfl⟩⟩
    · cases h
  · split at h
    · rename_i ht
      split at h
      · rename_i hz
        rw [forceA_eq, ofConstL_eq] at h
        cases h
        exact ⟨.alloc ht hz, fun old y hy => by rcases hy with hy | hy <;> cases hy; exact ⟨rfl, rfl⟩⟩
      · cases h
    · cases h
  · split at h
    · rename_i hs
      obtain ⟨ti, et, h1, h2, h3⟩ := sliceTy_ok hs
      split at h
      · rename_i hl
        subst hl
        split at h
        · cases h
          exact ⟨.slice0 h1 h2 h3, fun old y hy => by rcases hy with hy | hy <;> cases hy⟩
        · cases h
      · rename_i hl
        split at h
        · rename_i hz
          split at h
          · rename_i hb
            split at h
            rename_i hr
            split at h
            · rename_i hsp
              rw [forceL_eq] at h
              cases h
              rw [← rdps_ok hr hp, ofConstL_eq] at hsp
              exact ⟨.buildSlice h1 h2 h3 hl hz hb hsp, fun old y hy => by rcases hy with hy | hy <;> cases hy; exact ⟨rfl, rfl⟩⟩
            · cases h
          · cases h
        · cases h
    · cases h
  · split at h
    · rename_i hs
      obtain ⟨ti, et, h1, h2, h3⟩ := sliceTy_ok hs
      split at h
      · rename_i hl hc
        split at h
        · cases h
          obtain ⟨rfl, rfl, p3⟩ := hp
          obtain ⟨q1, q2⟩ := allP_app.1 p3
          exact ⟨.make0 (rd_ok hl q1) (rd_ok hc q2) h1 h2 h3, fun old y hy => by rcases hy with hy | hy <;> cases hy⟩
        · split at h
          · rename_i hz
            cases h
            obtain ⟨p1, p2, p3, p4, p5, p6⟩ := hp
            obtain ⟨q1, q2⟩ := allP_app.1 p6
            rw [ofConstL_eq]
            exact ⟨.make (rd_ok hl q1) (rd_ok hc q2) p1 p2 p3 h1 h2 h3 hz p4 p5, fun old y hy => by rcases hy with hy | hy <;> cases hy; exact ⟨rfl, rfl⟩⟩
          · cases h
      · cases h
    · cases h
  · split at h
    · rename_i htt
      subst htt
      split at h
      · rename_i hs
        obtain ⟨ti, et, h1, h2, h3⟩ := sliceTy_ok hs
        split at h
        rename_i hra hrb
        split at h
        · rename_i hsrc
          split at h
          · split at h
            · rename_i hsl
              cases h
              obtain ⟨rfl, p2⟩ := hp
              obtain ⟨s1, s2⟩ := srcS_ok hsrc p2
              obtain ⟨q1, q2⟩ := allP_app.1 s2
              have e1 := rd_ok hra q1
              have e2 := rd_ok hrb q2
              obtain ⟨⟨n, hn⟩, hu⟩ := sliceLike_len hsl
              rw [← e1] at hn hu ⊢
              rw [← e2] at s1
              exact ⟨.append0 hn hu s1 h1 h2 h3, fun old y hy => by rcases hy with hy | hy <;> cases hy⟩
            · cases h
          · refine appS_ok h1 h2 h3 (fun hq => ?_) (fun hq => ?_) h hp
            · exact rd_ok hra (allP_app.1 (srcS_ok hsrc hq).2).1
            · rw [rd_ok hrb (allP_app.1 (srcS_ok hsrc hq).2).2]; exact (srcS_ok hsrc hq).1
          · rw [forceL_eq] at h
            split at h
            · split at h
              · rename_i hsl
                cases h
                obtain ⟨s1, s2⟩ := srcS_ok hsrc hp
                obtain ⟨q1, q2⟩ := allP_app.1 s2
                have e1 := rd_ok hra q1
                have e2 := rd_ok hrb q2
                obtain ⟨⟨n, hn⟩, hu⟩ := sliceLike_len hsl
                rw [← e1] at hn hu ⊢
                rw [← e2] at s1
                exact ⟨.append0 hn hu s1 h1 h2 h3, fun old y hy => by rcases hy with hy | hy <;> cases hy⟩
              · cases h
            · refine appS_ok h1 h2 h3 (fun hq => ?_) (fun hq => ?_) h hp
              · exact rd_ok hra (allP_app.1 (srcS_ok hsrc hq).2).1
              · rw [rd_ok hrb (allP_app.1 (srcS_ok hsrc hq).2).2]; exact (srcS_ok hsrc hq).1
        · cases h
      · cases h
    · cases h
  · cases h

def delG (o : Nat) : List (Nat × Obj) → List (Nat × Obj)
  | [] => []
  | (d, x) :: l => bif Nat.beq d o then delG o l else (d, x) :: delG o l
theorem delG_hp (o : Nat) : ∀ G : List (Nat × Obj), hp (delG o G) = upd (hp G) o none := by
  intro G
  funext q
  induction G with
  | nil => simp [delG, hp, upd]
  | cons a l ih =>
    obtain ⟨d, x⟩ := a
    simp only [delG]
    cases hb : Nat.beq d o with
    | true =>
      have hd : d = o := Nat.eq_of_beq_eq_true hb
      subst hd
      simp only [cond_true, ih, hp]
      by_cases hq : q = d
      · subst hq; rw [upd_same, upd_same]
      · have : Nat.beq q d = false := by rw [← Bool.not_eq_true, Nat.beq_eq]; exact hq
        rw [upd_other _ _ hq, upd_other _ _ hq]; simp only [this, cond_false]
    | false =>
      have hd : d ≠ o := fun e => by rw [e, Nat.beq_refl] at hb; cases hb
      simp only [cond_false, hp, ih]
      by_cases hq : q = o
      · subst hq
        have : Nat.beq q d = false := by rw [← Bool.not_eq_true, Nat.beq_eq]; exact fun e => hd e.symm
        rw [this, upd_same, cond_false, upd_same]
      · rw [upd_other _ _ hq, upd_other _ _ hq]

theorem hp_cons (o : Nat) (x : Obj) (G : List (Nat × Obj)) : hp ((o, x) :: G) = upd (hp G) o (some x) := rfl
theorem hp_setG (o : Nat) (x : Obj) (G : List (Nat × Obj)) : hp ((o, x) :: delG o G) = upd (hp G) o (some x) := by
  rw [hp_cons, delG_hp]
  funext q
  by_cases hq : q = o
  · subst hq; rw [upd_same, upd_same]
  · rw [upd_other _ _ hq, upd_other _ _ hq, upd_other _ _ hq]

def effS (id : Nat) (G : List (Nat × Obj)) : Eff → List (Nat × Obj)
  | .none => G
  | .new x => (id, x) :: G
  | .app old x => (id, x) :: delG old G
theorem effS_ok (id : Nat) (G : List (Nat × Obj)) (e : Eff) : hp (effS id G e) = e.seq id (hp G) := by
  cases e with
  | none => rfl
  | new x => rfl
  | app old x => simp only [effS, Eff.seq, hp_cons, delG_hp]

/-- Objects of a heap, lent to a pure function. -/
structure PureCall (P : Program) (f : Nat) (H : Heap) (as bs : List AV) (r : AV) : Prop where
  isPure : Pure P f bs r
  lends : ∃ Hr, Cvs false Hr as bs ∧ (∀ o x, Hr o = some x → H o = some x) ∧ (OwnO r ∨ ∀ o, Hr o = none)

structure HCall (P : Program) (f : Nat) (as : List AV) (G : List (Nat × Obj)) (n : Nat) (r : AV) (G' : List (Nat × Obj)) (n' : Nat) : Prop where
  hc : HC P f as (hp G) n (fun r2 H2 n2 => r2 = r ∧ H2 = hp G' ∧ n2 = n')

/-- A store: the object, and what it is behind it. -/
def stO (T : Ty) (L : List (Nat × AV)) (G : List (Nat × Obj)) (t : Nat) (p x : Operand) (hs : List Hint) : Option (Nat × Obj × List Hint × List Prop) :=
  match T t with
  | some ti => match rd L p, rd L x with
    | (.ptr o i k, p1), (v, p2) => match hp G o with
      | some y => match y.solo, v.whole with
        | true, true => match hs with
          | .ld e :: hs => if v.cells.length = ti.size then (if k + ti.size ≤ e.cells.length then (if ti.size ≠ 0 then
              some (o, { y with es := y.es.set i (storeE e k v) }, hs, (y.es[i]? = some e) :: (p1 ++ p2)) else none) else none) else none
          | hs => match y.es[i]? with
            | some e => if v.cells.length = ti.size then (if k + ti.size ≤ e.cells.length then (if ti.size ≠ 0 then
              forceA (storeE e k v) fun w => forceL (y.es.set i w) fun es => some (o, { y with es := es }, hs, p1 ++ p2) else none) else none) else none
            | none => none
        | _, _ => none
      | none => none
    | _, _ => none
  | none => none

theorem stO_ok {T : Ty} {L : List (Nat × AV)} {G : List (Nat × Obj)} {t q : Nat} {z : Obj} {p x : Operand} {hs hs' : List Hint} {ps : List Prop} (h : stO T L G t p x hs = some (q, z, hs', ps)) (hp' : allP ps) :
    ∃ i k y e ti, evA (fr L) p = .ptr q i k ∧ hp G q = some y ∧ y.solo = true ∧ y.es[i]? = some e ∧ T t = some ti ∧ (evA (fr L) x).whole = true ∧ (evA (fr L) x).cells.length = ti.size ∧ k + ti.size ≤ e.cells.length ∧ ti.size ≠ 0 ∧
      z = { y with es := y.es.set i (storeE e k (evA (fr L) x)) } := by
  unfold stO at h
  split at h
  · rename_i ht
    split at h
    · rename_i hrp hrx
      split at h
      · rename_i hH
        split at h
        · rename_i hs1 hw1
          split at h
          · split at h
            · rename_i c1
              split at h
              · rename_i c2
                split at h
                · rename_i c3
                  cases h
                  obtain ⟨q1, q2⟩ := hp'
                  obtain ⟨q3, q4⟩ := allP_app.1 q2
                  have e1 := rd_ok hrp q3
                  have e2 := rd_ok hrx q4
                  rw [← e2] at hw1 c1
                  exact ⟨_, _, _, _, _, e1, hH, hs1, q1, ht, hw1, c1, c2, c3, by rw [e2]⟩
                · cases h
              · cases h
            · cases h
          · split at h
            · rename_i he
              split at h
              · rename_i c1
                split at h
                · rename_i c2
                  split at h
                  · rename_i c3
                    rw [forceA_eq, forceL_eq] at h
                    cases h
                    obtain ⟨q3, q4⟩ := allP_app.1 hp'
                    have e1 := rd_ok hrp q3
                    have e2 := rd_ok hrx q4
                    rw [← e2] at hw1 c1
                    exact ⟨_, _, _, _, _, e1, hH, hs1, he, ht, hw1, c1, c2, c3, by rw [e2]⟩
                  · cases h
                · cases h
              · cases h
            · cases h
        · cases h
      · cases h
    · cases h
  · cases h

def stS (T : Ty) (L : List (Nat × AV)) (G : List (Nat × Obj)) (t : Nat) (p x : Operand) (hs : List Hint) : Option (List (Nat × Obj) × List Hint × List Prop) :=
  match stO T L G t p x hs with
  | some (o, z, hs, ps) => some ((o, z) :: delG o G, hs, ps)
  | none => none

theorem stS_ok {T : Ty} {L : List (Nat × AV)} {G G' : List (Nat × Obj)} {t : Nat} {p x : Operand} {hs hs' : List Hint} {ps : List Prop} (h : stS T L G t p x hs = some (G', hs', ps)) (hp' : allP ps) :
    StR T (evA (fr L)) (hp G) (.store t p x) (hp G') := by
  unfold stS at h
  split at h
  · rename_i ho
    cases h
    obtain ⟨i, k, y, e, ti, h1, h2, h3, h4, h5, h6, h7, h8, h9, rfl⟩ := stO_ok ho hp'
    rw [hp_setG]
    exact .store h1 h2 h3 h4 h5 h6 h7 h8 h9
  · cases h

abbrev OR := Option (AV × List (Nat × Obj) × Nat × List Hint × List Prop)

/-- Operations that turn nothing: the plain ones, and calls of pure functions. -/
def quS (P : Program) (T : Ty) (L : List (Nat × AV)) (G : List (Nat × Obj)) (op : Op) (hs : List Hint) : PR :=
  match op with
  | .call { callee := .value x, args := args, argTypes := _ } => match hs with
    | .pure bs r :: hs => match rd L x with
      | (.fn f caps, p) => match rds L args.toList with
        | (as, q) => some (r, hs, PureCall P f (hp G) (as ++ caps) bs r :: (p ++ q))
      | _ => none
    | _ => none
  | op => puS T L (hp G) op hs

theorem quS_ok {P : Program} {T : Ty} {nt : Nat} {L : List (Nat × AV)} {G : List (Nat × Obj)} {n : Nat} {o : Oper} {hs hs' : List Hint} {ps : List Prop} {a : AV} (hT : TyOk P T)
    (h : quS P T L G o.op hs = some (a, hs', ps)) (hp' : allP ps) : OpR P nt o ⟨fr L, hp G, n⟩ (fun a' H' n2 => a' = a ∧ H' = hp G ∧ n2 = n) := by
  unfold quS at h
  split at h
  · rename_i ho
    split at h
    · split at h
      · rename_i hx
        split at h
        rename_i hargs
        cases h
        obtain ⟨⟨p1, Hr, p2, p3, p4⟩, q⟩ := hp'
        obtain ⟨q1, q2⟩ := allP_app.1 q
        refine OpR.call (s := ⟨fr L, hp G, n⟩) ho (rd_ok hx q1) ?_
        rw [rds_ok hargs q2]
        exact HC.of_pure p1 p2 p3 p4
      · cases h
    · cases h
  · exact OpR.pu hT (s := ⟨fr L, hp G, n⟩) (puS_ok h hp')

def opS (P : Program) (T : Ty) (L : List (Nat × AV)) (G : List (Nat × Obj)) (n : Nat) (op : Op) (hs : List Hint) : OR :=
  match op with
  | .store t p x => match stS T L G t p x hs with
    | some (G, hs, ps) => some (.sc undef, G, n, hs, ps)
    | none => none
  | .call { callee := .value x, args := args, argTypes := ts } => match hs with
    | .call r G' n' :: hs => match rd L x with
      | (.fn f caps, p) => match rds L args.toList with
        | (as, q) => some (r, G', n', hs, HCall P f (as ++ caps) G n r G' n' :: (p ++ q))
      | _ => none
    | hs => match quS P T L G (.call { callee := .value x, args := args, argTypes := ts }) hs with
      | some (a, hs, ps) => some (a, G, n, hs, ps)
      | none => none
  | op => match quS P T L G op hs with
    | some (a, hs, ps) => some (a, G, n, hs, ps)
    | none => match mkS T L (hp G) n op hs with
      | some (a, e, hs, ps) => some (a, effS n G e, n + 1, hs, ps)
      | none => none

theorem opS_ok {P : Program} {T : Ty} {nt : Nat} {L : List (Nat × AV)} {G G' : List (Nat × Obj)} {n n' : Nat} {o : Oper} {hs hs' : List Hint} {ps : List Prop} {a : AV} (hT : TyOk P T)
    (h : opS P T L G n o.op hs = some (a, G', n', hs', ps)) (hp' : allP ps) : OpR P nt o ⟨fr L, hp G, n⟩ (fun a' H' n2 => a' = a ∧ H' = hp G' ∧ n2 = n') := by
  unfold opS at h
  split at h
  · rename_i ho
    split at h
    · rename_i hs
      cases h
      have := stS_ok hs hp'
      exact OpR.st hT (s := ⟨fr L, hp G, n⟩) (by rw [ho]; exact this)
    · cases h
  · rename_i ho
    split at h
    · split at h
      · rename_i hx
        split at h
        rename_i hargs
        cases h
        obtain ⟨p1, q⟩ := hp'
        obtain ⟨q1, q2⟩ := allP_app.1 q
        refine OpR.call (s := ⟨fr L, hp G, n⟩) ho (rd_ok hx q1) ?_
        rw [rds_ok hargs q2]
        exact p1.hc
      · cases h
    · split at h
      · rename_i hq
        cases h
        rw [← ho] at hq
        exact quS_ok hT hq hp'
      · cases h
  · split at h
    · rename_i hpu
      cases h
      exact quS_ok hT hpu hp'
    · split at h
      · rename_i hmk
        cases h
        obtain ⟨h1, h2⟩ := mkS_ok hmk hp'
        rw [effS_ok]
        exact OpR.mk hT (s := ⟨fr L, hp G, n⟩) h1 h2
      · cases h
end Go.Av
