/- An evaluator for closed runs: memory, frames, heaps. -/
import Derived.Test.YtioookhnoobpgaaAvRun
namespace Go.Av

def srcF (H : Heap) : AV → Option (List AV)
  | .list _ es => some es
  | .nils => some []
  | .ref o off len => match H o with
    | some x => if off + len ≤ x.es.length then some ((x.es.drop off).take len) else none
    | none => none
  | _ => none
theorem srcF_ok {H : Heap} {a : AV} {xs : List AV} (h : srcF H a = some xs) : SrcR H a xs := by
  unfold srcF at h
  split at h
  · cases h; exact .list
  · cases h; exact .nils
  · split at h
    · split at h
      · cases h; exact .ref (by assumption) (by assumption)
      · cases h
    · cases h
  · cases h

def mkF (T : Ty) (ev : Operand → AV) (H : Heap) (id : Nat) : Op → Option (AV × Eff)
  | .box _ x => if (ev x).whole = true then (match (ev x).cells with
      | [] => none
      | a :: r => some (.ptr id 0 0, .new { es := [ev x], esz := (a :: r).length })) else none
  | .alloc elem => match T elem with
    | some ti => if ti.size ≠ 0 then some (.ptr id 0 0, .new { es := [ofConst ti.zero], esz := ti.size }) else none
    | none => none
  | .buildSlice t len ps => match sliceTy T t with
    | some te => if len = 0 then (match ps with
        | ⟨[]⟩ => some (.nils, .none)
        | _ => none)
      else if te.size ≠ 0 then (if len * te.size ≤ 2 ^ 24 then (match setParts te.size (List.replicate len (ofConst te.zero)) (ps.toList.map fun p => (p.1, ev p.2)) with
        | some es => some (.ref id 0 len, .new { es := es, esz := te.size })
        | none => none) else none) else none
    | none => none
  | .makeSlice t l cc => match sliceTy T t with
    | some te => match ev l, ev cc with
      | .sc (.int _ n), .sc (.int _ m) => if n = 0 ∧ m = 0 then some (.nils, .none) else
          if 0 ≤ n ∧ n ≤ m ∧ 0 < m ∧ te.size ≠ 0 ∧ te.bytes * m ≤ 2 ^ 48 ∧ m < 2 ^ 62 then some (.ref id 0 n.toNat, .new { es := List.replicate n.toNat (ofConst te.zero), esz := te.size }) else none
      | _, _ => none
    | none => none
  | .call { callee := .builtin .append, args := ⟨[s, x]⟩, argTypes := ⟨[t, t']⟩ } => if t = t' then (match sliceTy T t with
    | some te => match srcF H (ev x) with
      | some [] => match ev s with
        | .list own es => some (.list own es, .none)
        | .ref o off n => some (.ref o off n, .none)
        | .nils => some (.nils, .none)
        | _ => none
      | some (e :: r) => if (e :: r).all (fun e => e.cells.length == te.size) then (match ev s with
        | .nils => if te.size ≠ 0 ∧ (e :: r).length ≤ maxLen ∧ (e :: r).length * te.bytes ≤ 140737488355328 then some (.ref id 0 (e :: r).length, .new { es := e :: r, esz := te.size }) else none
        | .ref o 0 n => match H o with
          | some y => if y.es.length = n ∧ y.spent = false ∧ y.esz = te.size ∧ n + (e :: r).length ≤ maxLen ∧ (n + (e :: r).length) * te.bytes ≤ 140737488355328 then
              some (.ref id 0 (n + (e :: r).length), .app o { es := y.es ++ (e :: r), esz := te.size }) else none
          | none => none
        | _ => none) else none
      | none => none
    | none => none) else none
  | _ => none

theorem mkF_ok {T : Ty} {ev : Operand → AV} {H : Heap} {id : Nat} {op : Op} {a : AV} {e : Eff} (h : mkF T ev H id op = some (a, e)) :
    Mk T ev H id op a e ∧ ∀ old x, e = .app old x ∨ e = .new x → x.solo = true ∧ x.spent = false := by
  unfold mkF at h
  split at h
  · split at h
    · rename_i hw
      split at h
      · cases h
      · rename_i hc
        cases h
        refine ⟨?_, fun old y hy => ?_⟩
        · rw [← hc]; exact .box hw (by rw [hc]; simp)
        · rcases hy with hy | hy <;> cases hy; exact ⟨rfl, rfl⟩
    · cases h
  · split at h
    · split at h
      · cases h
        exact ⟨.alloc (by assumption) (by assumption), fun old y hy => by rcases hy with hy | hy <;> cases hy; exact ⟨rfl, rfl⟩⟩
      · cases h
    · cases h
  · split at h
    · rename_i hs
      obtain ⟨ti, et, h1, h2, h3⟩ := sliceTy_ok hs
      split at h
      · rename_i h0
        subst h0
        split at h
        · cases h; exact ⟨.slice0 h1 h2 h3, fun old y hy => by rcases hy with hy | hy <;> cases hy⟩
        · cases h
      · split at h
        · split at h
          · split at h
            · cases h; exact ⟨.buildSlice h1 h2 h3 (by assumption) (by assumption) (by assumption) (by assumption), fun old y hy => by rcases hy with hy | hy <;> cases hy; exact ⟨rfl, rfl⟩⟩
            · cases h
          · cases h
        · cases h
    · cases h
  · split at h
    · rename_i hs
      obtain ⟨ti, et, h1, h2, h3⟩ := sliceTy_ok hs
      split at h
      · rename_i hl hc
        split at h
        · rename_i h0
          obtain ⟨rfl, rfl⟩ := h0
          cases h; exact ⟨.make0 hl hc h1 h2 h3, fun old y hy => by rcases hy with hy | hy <;> cases hy⟩
        · split at h
          · rename_i hh
            obtain ⟨g1, g2, g3, g4, g5, g6⟩ := hh
            cases h; exact ⟨.make hl hc g1 g2 g3 h1 h2 h3 g4 g5 g6, fun old y hy => by rcases hy with hy | hy <;> cases hy; exact ⟨rfl, rfl⟩⟩
          · cases h
      · cases h
    · cases h
  · split at h
    · rename_i ht
      subst ht
      split at h
      · rename_i hs
        obtain ⟨ti, et, h1, h2, h3⟩ := sliceTy_ok hs
        split at h
        · rename_i hx
          split at h
          · rename_i hv; cases h; rw [← hv]; exact ⟨.append0 (n := _) (by rw [hv]; rfl) (fun u => by rw [hv]; simp) (srcF_ok hx) h1 h2 h3, fun old y hy => by rcases hy with hy | hy <;> cases hy⟩
          · rename_i hv; cases h; rw [← hv]; exact ⟨.append0 (n := _) (by rw [hv]; rfl) (fun u => by rw [hv]; simp) (srcF_ok hx) h1 h2 h3, fun old y hy => by rcases hy with hy | hy <;> cases hy⟩
          · rename_i hv; cases h; rw [← hv]; exact ⟨.append0 (n := _) (by rw [hv]; rfl) (fun u => by rw [hv]; simp) (srcF_ok hx) h1 h2 h3, fun old y hy => by rcases hy with hy | hy <;> cases hy⟩
          · cases h
        · rename_i e r hx
          split at h
          · rename_i hall
            have hsz : ∀ e' ∈ e :: r, e'.cells.length = _ := fun e' he => by simpa using List.all_eq_true.1 hall e' he
            split at h
            · split at h
              · rename_i hv hh
                obtain ⟨g1, g2, g3⟩ := hh
                cases h
                exact ⟨.appendNil hv (srcF_ok hx) (by simp) h1 h2 h3 hsz g1 g2 g3, fun old y hy => by rcases hy with hy | hy <;> cases hy; exact ⟨rfl, rfl⟩⟩
              · cases h
            · split at h
              · split at h
                · rename_i hv _ _ hH hh
                  obtain ⟨g1, g2, g3, g4, g5⟩ := hh
                  cases h
                  exact ⟨.append hv hH g1 g2 g3 (srcF_ok hx) (by simp) h1 h2 h3 hsz g4 g5, fun old y hy => by rcases hy with hy | hy <;> cases hy; exact ⟨rfl, rfl⟩⟩
                · cases h
              · cases h
            · cases h
          · cases h
        · cases h
      · cases h
    · cases h
  · cases h

/-! Frames. -/
def getF : List AV → Nat → AV
  | [], _ => .sc undef
  | a :: _, 0 => a
  | _ :: l, n + 1 => getF l n
def setF : List AV → Nat → AV → List AV
  | [], 0, a => [a]
  | [], n + 1, a => .sc undef :: setF [] n a
  | _ :: l, 0, a => a :: l
  | b :: l, n + 1, a => b :: setF l n a
theorem getF_set (a : AV) : ∀ (d : Nat) (l : List AV) (t : Nat), getF (setF l d a) t = if t = d then a else getF l t := by
  intro d
  induction d with
  | zero => intro l t; cases l <;> cases t <;> simp [setF, getF]
  | succ d ih => intro l t; cases l <;> cases t <;> simp [setF, getF, ih]
theorem getF_upd (l : List AV) (d : Nat) (a : AV) : getF (setF l d a) = upd (getF l) d a := by
  funext t
  rw [getF_set]
  by_cases h : t = d
  · subst h; rw [if_pos rfl, upd_same]
  · rw [if_neg h, upd_other _ _ h]
def setO (l : List AV) : Option Nat → AV → List AV
  | some d, a => setF l d a
  | none, _ => l
theorem getF_updO (l : List AV) (d : Option Nat) (a : AV) : getF (setO l d a) = updO (getF l) d a := by
  cases d with
  | none => rfl
  | some d => exact getF_upd l d a
theorem getF_args (as : List AV) : getF as = argA as := by
  funext t
  unfold argA
  induction as generalizing t with
  | nil => rfl
  | cons a l ih =>
    cases t with
    | zero => rfl
    | succ t => simpa [getF] using ih t

/-! Heaps. -/
def delH (o : Nat) : List (Nat × Obj) → List (Nat × Obj)
  | [] => []
  | (q, x) :: l => bif Nat.beq o q then delH o l else (q, x) :: delH o l
theorem hp_del (o : Nat) (l : List (Nat × Obj)) : hp (delH o l) = upd (hp l) o none := by
  funext q
  induction l with
  | nil =>
    by_cases h : q = o
    · subst h; rw [upd_same]; rfl
    · rw [upd_other _ _ h]; rfl
  | cons p l ih =>
    obtain ⟨d, x⟩ := p
    simp only [delH]
    by_cases hd : o = d
    · subst hd
      rw [show Nat.beq o o = true by simp, cond_true, ih]
      by_cases h : q = o
      · subst h; rw [upd_same, upd_same]
      · rw [upd_other _ _ h, upd_other _ _ h]
        have : Nat.beq q o = false := by rw [← Bool.not_eq_true, Nat.beq_eq]; exact h
        simp only [hp, this, cond_false]
    · have hb : Nat.beq o d = false := by rw [← Bool.not_eq_true, Nat.beq_eq]; exact hd
      rw [hb, cond_false]
      simp only [hp, ih]
      by_cases h : q = o
      · subst h; rw [upd_same, upd_same, hb]; rfl
      · rw [upd_other _ _ h, upd_other _ _ h]
theorem hp_new (o : Nat) (x : Obj) (l : List (Nat × Obj)) : hp ((o, x) :: l) = upd (hp l) o (some x) := by
  funext q
  simp only [hp]
  by_cases h : q = o
  · subst h; rw [upd_same]; simp
  · have : Nat.beq q o = false := by rw [← Bool.not_eq_true, Nat.beq_eq]; exact h
    rw [upd_other _ _ h, this]; rfl
theorem hp_set (o : Nat) (x : Obj) (l : List (Nat × Obj)) : hp ((o, x) :: delH o l) = upd (hp l) o (some x) := by
  rw [hp_new, hp_del]
  funext q
  by_cases h : q = o
  · subst h; rw [upd_same, upd_same]
  · rw [upd_other _ _ h, upd_other _ _ h, upd_other _ _ h]

def effH (id : Nat) (l : List (Nat × Obj)) : Eff → List (Nat × Obj)
  | .none => l
  | .new x => (id, x) :: l
  | .app old x => (id, x) :: delH old l
theorem hp_eff (id : Nat) (l : List (Nat × Obj)) (e : Eff) : hp (effH id l e) = e.seq id (hp l) := by
  cases e with
  | none => rfl
  | new x => exact hp_new id x l
  | app old x =>
    show hp ((id, x) :: delH old l) = upd (upd (hp l) old none) id (some x)
    rw [hp_new, hp_del]

def weffH (id : Nat) (l : List (Nat × Obj)) : WEff → List (Nat × Obj)
  | .none => l
  | .new x => (id, x) :: l
  | .app old x => (id, x) :: delH old l
  | .set o x => (o, x) :: delH o l
theorem hp_weff (id : Nat) (l : List (Nat × Obj)) (e : WEff) : hp (weffH id l e) = e.go id (hp l) := by
  cases e with
  | none => rfl
  | new x => rw [WEff.go_new]; exact hp_new id x l
  | app old x =>
    rw [WEff.go_app]
    show hp ((id, x) :: delH old l) = upd (upd (hp l) old none) id (some x)
    rw [hp_new, hp_del]
  | set o x => rw [WEff.go_set]; exact hp_set o x l

/-! Stores. -/
def stF (T : Ty) (ev : Operand → AV) (H : Heap) (t : Nat) (p x : Operand) : Option (Nat × Obj) :=
  match T t with
  | some ti => match ev p with
    | .ptr o i k => match H o with
      | some y => match y.es[i]? with
        | some e => if y.solo = true ∧ (ev x).whole = true ∧ (ev x).cells.length = ti.size ∧ k + ti.size ≤ e.cells.length ∧ ti.size ≠ 0 then
            some (o, { y with es := y.es.set i (storeE e k (ev x)) }) else none
        | none => none
      | none => none
    | _ => none
  | none => none
theorem stF_ok {T : Ty} {ev : Operand → AV} {H : Heap} {t : Nat} {p x : Operand} {q : Nat} {z : Obj} (h : stF T ev H t p x = some (q, z)) :
    ∃ i k y e ti, ev p = .ptr q i k ∧ H q = some y ∧ y.solo = true ∧ y.es[i]? = some e ∧ T t = some ti ∧ (ev x).whole = true ∧ (ev x).cells.length = ti.size ∧ k + ti.size ≤ e.cells.length ∧ ti.size ≠ 0 ∧
      z = { y with es := y.es.set i (storeE e k (ev x)) } := by
  unfold stF at h
  split at h
  · split at h
    · split at h
      · split at h
        · split at h
          · rename_i hh
            obtain ⟨g1, g2, g3, g4, g5⟩ := hh
            cases h
            exact ⟨_, _, _, _, _, by assumption, by assumption, g1, by assumption, by assumption, g2, g3, g4, g5, rfl⟩
          · cases h
        · cases h
      · cases h
    · cases h
  · cases h

/-! Values as lists. -/
def mapO (f : AV → Option AV) : List AV → Option (List AV)
  | [] => some []
  | a :: l => match f a with
    | some b => match mapO f l with
      | some r => some (b :: r)
      | none => none
    | none => none
theorem mapO_ok {f : AV → Option AV} : ∀ {l r : List AV}, mapO f l = some r → l.length = r.length ∧ ∀ (i : Nat) a b, l[i]? = some a → r[i]? = some b → f a = some b := by
  intro l
  induction l with
  | nil => intro r h; simp [mapO] at h; subst h; exact ⟨rfl, fun i a b ha => by simp at ha⟩
  | cons x l ih =>
    intro r h
    simp only [mapO] at h
    split at h
    · split at h
      · rename_i hx _ _ hr
        cases h
        obtain ⟨h1, h2⟩ := ih hr
        refine ⟨by simp [h1], fun i a b ha hb => ?_⟩
        cases i with
        | zero => simp at ha hb; subst ha hb; exact hx
        | succ i => simp at ha hb; exact h2 i a b ha hb
      · cases h
    · cases h

def elF (f : AV → Option AV) (e : AV) : Option AV :=
  match e with
  | .agg cs => match mapO f cs with
    | some r => some (.agg r)
    | none => none
  | e => match f e with
    | some (.agg _) => none
    | r => r

theorem elF_ok {f : AV → Option AV} {e e' : AV} (h : elF f e = some e') : e.cells.length = e'.cells.length ∧ ∀ (k : Nat) a b, e.cells[k]? = some a → e'.cells[k]? = some b → f a = some b := by
  unfold elF at h
  split at h
  · split at h
    · rename_i hm
      cases h
      exact mapO_ok hm
    · cases h
  · rename_i e0 hne
    split at h
    · cases h
    · rename_i r hna
      have h1 : e.cells = [e] := by cases e <;> first | rfl | exact (hne _ rfl).elim
      have h2 : e'.cells = [e'] := by
        cases e' <;> first | rfl | exact (hna _ h).elim
      rw [h1, h2]
      refine ⟨rfl, fun k a b ha hb => ?_⟩
      cases k with
      | zero => simp at ha hb; subst ha hb; exact h
      | succ k => simp at ha

def cvF (m : Bool) (H : Heap) : Nat → AV → Option AV
  | 0, _ => none
  | n + 1, a => match a with
    | .sc v => some (.sc v)
    | .nils => some (.list m [])
    | .agg cs => match mapO (cvF m H n) cs with
      | some r => some (.agg r)
      | none => none
    | .tup cs => match mapO (cvF m H n) cs with
      | some r => some (.tup r)
      | none => none
    | .list own es => match m with
      | true => some (.list own es)
      | false => match mapO (elF (cvF false H n)) es with
        | some r => some (.list false r)
        | none => none
    | .ref o off len => match H o with
      | some x => if off + len ≤ x.es.length then (match mapO (elF (cvF m H n)) ((x.es.drop off).take len) with
        | some r => some (.list m r)
        | none => none) else none
      | none => none
    | _ => none

theorem cvF_ok {m : Bool} {H : Heap} : ∀ (n : Nat) (a b : AV), cvF m H n a = some b → Cv m H a b := by
  intro n
  induction n with
  | zero => intro a b h; cases h
  | succ n ih =>
    intro a b h
    unfold cvF at h
    split at h
    · cases h; exact .sc
    · cases h; exact .nils
    · split at h
      · rename_i hm
        cases h
        obtain ⟨h1, h2⟩ := mapO_ok hm
        exact .agg h1 fun i a b ha hb => ih a b (h2 i a b ha hb)
      · cases h
    · split at h
      · rename_i hm
        cases h
        obtain ⟨h1, h2⟩ := mapO_ok hm
        exact .tup h1 fun i a b ha hb => ih a b (h2 i a b ha hb)
      · cases h
    · split at h
      · cases h; exact .listS rfl
      · split at h
        · rename_i hm
          cases h
          obtain ⟨h1, h2⟩ := mapO_ok hm
          exact .listD rfl h1 (fun i e e' he he' => (elF_ok (h2 i e e' he he')).1) (fun i e e' k a b he he' ha hb => ih a b ((elF_ok (h2 i e e' he he')).2 k a b ha hb))
        · cases h
    · rename_i o off len
      split at h
      · rename_i x hH
        split at h
        · rename_i hle
          split at h
          · rename_i r hm
            cases h
            obtain ⟨h1, h2⟩ := mapO_ok hm
            have hlen : ∀ (i : Nat) e', r[i]? = some e' → i < len := fun i e' he' => by
              have := (List.getElem?_eq_some_iff.1 he').1
              rw [← h1] at this
              simp at this
              omega
            have hget : ∀ (i : Nat) e, i < len → x.es[off + i]? = some e → ((x.es.drop off).take len)[i]? = some e := fun i e hi he => by
              rw [List.getElem?_take, if_pos hi, List.getElem?_drop]; exact he
            refine .ref hH hle ?_ (fun i e e' he he' => ?_) (fun i e e' k a b he he' ha hb => ?_)
            · rw [← h1]; simp; omega
            · exact (elF_ok (h2 i e e' (hget i e (hlen i e' he') he) he')).1
            · exact ih a b ((elF_ok (h2 i e e' (hget i e (hlen i e' he') he) he')).2 k a b ha hb)
          · cases h
        · cases h
      · cases h
    · cases h

def ownF : Nat → AV → Bool
  | 0, _ => false
  | n + 1, a => match a with
    | .sc _ => true
    | .nils => true
    | .agg cs => cs.all (ownF n)
    | .tup cs => cs.all (ownF n)
    | .list _ [] => true
    | .list own es => own && es.all (fun e => e.cells.all (ownF n))
    | _ => false
theorem ownF_ok : ∀ (n : Nat) (a : AV), ownF n a = true → OwnO a := by
  intro n
  induction n with
  | zero => intro a h; cases h
  | succ n ih =>
    intro a h
    unfold ownF at h
    split at h
    · exact .sc
    · exact .nils
    · exact .agg fun a ha => ih a (List.all_eq_true.1 h a ha)
    · exact .tup fun a ha => ih a (List.all_eq_true.1 h a ha)
    · exact .listNil
    · simp only [Bool.and_eq_true] at h
      obtain ⟨h1, h2⟩ := h
      subst h1
      exact .list fun e he a ha => ih a (List.all_eq_true.1 (List.all_eq_true.1 h2 e he) a ha)
    · cases h
end Go.Av
