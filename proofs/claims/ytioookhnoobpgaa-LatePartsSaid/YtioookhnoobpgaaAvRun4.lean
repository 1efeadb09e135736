/- An evaluator for closed runs: whole functions. -/
import Derived.Test.YtioookhnoobpgaaAvRun3
namespace Go.Av

def codeF (P : Program) (T : Ty) (rec : Rec) (nt k : Nat) : Code → RS → Option (AExit × RS)
  | .skip, s => some (.normal, s)
  | .label _, s => some (.normal, s)
  | .exit id, s => some (.exit id, s)
  | .ret, s => some (.ret, s)
  | .seq a b, s => match codeF P T rec nt k a s with
    | some (.normal, s') => codeF P T rec nt k b s'
    | r => r
  | .cond x a b, s => match evA (getF s.F) x with
    | .sc (.bool true) => codeF P T rec nt k a s
    | .sc (.bool false) => codeF P T rec nt k b s
    | _ => none
  | .block id c, s => match codeF P T rec nt k c s with
    | some (.exit i, s') => bif Nat.beq i id then some (.normal, s') else some (.exit i, s')
    | r => r
  | .loop b, s => loopF (codeF P T rec nt k b) k s
  | .region _ ops false, s => match opsF T rec nt ops ops.toList s with
    | some s' => some (.normal, s')
    | none => none
  | .region _ ops true, s => if P.follows .mixedOrders = true ∧ preLt 0 ops.toList = true then
      (match drawF T rec nt s.n ops (masks ops.toList) ((masks ops.toList).zip (ops.toList.map fun o => heapFree o.op)) 0 ops.toList s.F s.H [] with
      | some (F, H) => some (.normal, ⟨F, H, s.n + ops.toList.length⟩)
      | none => none) else none
  | _, _ => none

theorem codeF_ok {P : Program} {T : Ty} {rec : Rec} {nt k n0 : Nat} (hT : TyOk P T) (hr : RecOk P rec) : ∀ (code : Code) (s : RS) (e : AExit) (r : RS), codeF P T rec nt k code s = some (e, r) →
    SemC P nt n0 code (fun e' s' => e' = e ∧ s' = r.st) s.st := by
  intro code
  induction code with
  | skip => intro s e r h; simp only [codeF] at h; cases h; exact SemC.skip ⟨rfl, rfl⟩
  | label l => intro s e r h; simp only [codeF] at h; cases h; exact SemC.label ⟨rfl, rfl⟩
  | exit id => intro s e r h; simp only [codeF] at h; cases h; exact SemC.exit ⟨rfl, rfl⟩
  | ret => intro s e r h; simp only [codeF] at h; cases h; exact SemC.ret ⟨rfl, rfl⟩
  | seq a b iha ihb =>
    intro s e r h
    simp only [codeF] at h
    refine SemC.seq ?_
    split at h
    · rename_i s' ha
      refine (iha _ _ _ ha).mono ?_
      rintro e' s2 ⟨rfl, rfl⟩
      exact ihb _ _ _ h
    · rename_i hne
      refine (iha _ _ _ h).mono ?_
      rintro e' s2 ⟨rfl, rfl⟩
      cases e' with
      | normal => exact absurd h (hne _)
      | exit id => exact ⟨rfl, rfl⟩
      | ret => exact ⟨rfl, rfl⟩
  | cond x a b iha ihb =>
    intro s e r h
    simp only [codeF] at h
    split at h
    · rename_i hx
      exact SemC.cond (s := s.st) hx (fun _ => iha _ _ _ h) (fun h => by cases h)
    · rename_i hx
      exact SemC.cond (s := s.st) hx (fun h => by cases h) (fun _ => ihb _ _ _ h)
    · cases h
  | block id c ih =>
    intro s e r h
    simp only [codeF] at h
    refine SemC.block ?_
    split at h
    · rename_i i s' hc
      refine (ih _ _ _ hc).mono ?_
      rintro e' s2 ⟨rfl, rfl⟩
      simp only [blockQ]
      cases hb : Nat.beq i id with
      | true => rw [hb, cond_true] at h; cases h; exact ⟨rfl, rfl⟩
      | false => rw [hb, cond_false] at h; cases h; exact ⟨rfl, rfl⟩
    · rename_i hne
      refine (ih _ _ _ h).mono ?_
      rintro e' s2 ⟨rfl, rfl⟩
      cases e' with
      | normal => exact ⟨rfl, rfl⟩
      | exit id => exact absurd h (hne _ _)
      | ret => exact ⟨rfl, rfl⟩
  | loop b ih =>
    intro s e r h
    simp only [codeF] at h
    refine SemC.loop0 (fun m s' => ∃ q : RS, s' = q.st ∧ loopF (codeF P T rec nt k b) m q = some (e, r)) ⟨k, s, rfl, h⟩ ?_
    rintro m _ ⟨q, rfl, hq⟩
    cases m with
    | zero => cases hq
    | succ m =>
      simp only [loopF] at hq
      split at hq
      · rename_i s' hb
        refine (ih _ _ _ hb).mono ?_
        rintro e' s2 ⟨rfl, rfl⟩
        exact ⟨m, ⟨s', rfl, hq⟩, Nat.lt_succ_self m⟩
      · rename_i hne
        refine (ih _ _ _ hq).mono ?_
        rintro e' s2 ⟨rfl, rfl⟩
        cases e' with
        | normal => exact absurd hq (hne _)
        | exit id => exact ⟨rfl, rfl⟩
        | ret => exact ⟨rfl, rfl⟩
  | region id ops draw =>
    intro s e r h
    cases draw with
    | false =>
      simp only [codeF] at h
      split at h
      · rename_i s' hs
        cases h
        refine SemC.region ?_
        intro c0 H0 c act g Qx hQ
        exact opsF_ok hT hr _ _ _ hs c0 H0 c act g Qx fun c' s'' act' g' hq => hQ c' s'' act' g' ⟨rfl, hq⟩
      · cases h
    | true =>
      simp only [codeF] at h
      split at h
      · rename_i hh
        split at h
        · rename_i F H hd
          cases h
          exact SemC.drawn hh.1 hT hh.2 (drawF_ok hr _ _ _ _ _ _ _ hd) ⟨rfl, rfl⟩
        · cases h
      · cases h
  | _ => intro s e r h; simp only [codeF] at h; cases h

def resF (T : Ty) (s : RS) : List ResultVar → Option (List AV)
  | [] => some []
  | .tmp t :: l => match resF T s l with
    | some r => some (strip (getF s.F t) :: r)
    | none => none
  | .cell p t :: l => match T t with
    | some ti => match derefF (hp s.H) (strip (getF s.F p)) with
      | some (e, k) => match loadE ti e k with
        | some a => match resF T s l with
          | some r => some (a :: r)
          | none => none
        | none => none
      | none => none
    | none => none

theorem resF_ok {T : Ty} {s : RS} : ∀ (l : List ResultVar) (r : List AV), resF T s l = some r → ResRs T s.st l r := by
  intro l
  induction l with
  | nil => intro r h; simp [resF] at h; subst h; exact .nil
  | cons v l ih =>
    intro r h
    cases v with
    | tmp t =>
      simp only [resF] at h
      split at h
      · rename_i hr; cases h; exact .cons .tmp (ih _ hr)
      · cases h
    | cell p t =>
      simp only [resF] at h
      split at h
      · split at h
        · split at h
          · split at h
            · rename_i ht _ _ _ hd _ _ hl _ _ hr
              cases h
              exact .cons (.cell ht (derefF_ok hd) hl) (ih _ hr)
            · cases h
          · cases h
        · cases h
      · cases h

/-- The functions: each by its number. -/
abbrev Env := Nat → Option (Func × Code)

def callF (P : Program) (T : Ty) (E : Env) (k : Nat) : Nat → Rec
  | 0 => fun _ _ _ _ => none
  | d + 1 => fun f as H n => match E f with
    | some (fn, code) => if Nat.ble as.length fn.ntmps = true then (match codeF P T (callF P T E k d) fn.ntmps k code ⟨as, H, n⟩ with
      | some (.exit _, _) => none
      | some (_, s) => match resF T s fn.results.toList with
        | some rs => some (packA rs, s.H, s.n)
        | none => none
      | none => none) else none
    | none => none

def EnvOk (P : Program) (E : Env) : Prop := ∀ f fn code, E f = some (fn, code) → FnOk P f fn code

theorem callF_ok {P : Program} {T : Ty} {E : Env} {k : Nat} (hT : TyOk P T) (hE : EnvOk P E) : ∀ d, RecOk P (callF P T E k d) := by
  intro d
  induction d with
  | zero => intro f as H n r H' n' h; cases h
  | succ d ih =>
    intro f as H n r H' n' h
    simp only [callF] at h
    split at h
    · rename_i fn code hf
      split at h
      · rename_i hle
        have body : ∀ (e : AExit) (s : RS), codeF P T (callF P T E k d) fn.ntmps k code ⟨as, H, n⟩ = some (e, s) → (∀ id, e ≠ .exit id) → (match resF T s fn.results.toList with
            | some rs => some (packA rs, s.H, s.n)
            | none => none) = some (r, H', n') → HC P f as (hp H) n (fun r2 H2 n2 => r2 = r ∧ H2 = hp H' ∧ n2 = n') := by
          intro e s hc hne hres
          split at hres
          · rename_i rs hrs
            cases hres
            have hsem := codeF_ok (n0 := n) hT ih _ _ _ _ hc
            have hst : (RS.mk as H n).st = ⟨argA as, hp H, n⟩ := by simp only [RS.st, getF_args]
            rw [hst] at hsem
            refine HC.of_body hT (hE _ _ _ hf) rfl (by simpa using hle) (hsem.mono ?_)
            rintro e' s' ⟨rfl, rfl⟩
            have hq : ∃ rs', ResRs T s.st fn.results.toList rs' ∧ (packA rs' = packA rs ∧ s.st.H = hp s.H ∧ s.st.n = s.n) := ⟨rs, resF_ok _ _ hrs, rfl, rfl, rfl⟩
            cases e' with
            | exit id => exact absurd rfl (hne id)
            | normal => exact hq
            | ret => exact hq
          · cases hres
        split at h
        · cases h
        · rename_i e s hne hc
          exact body e s hc (fun id he => by subst he; exact hne id rfl) h
        · cases h
      · cases h
    · cases h

/-- A closed function, run. -/
theorem run_pure {P : Program} {T : Ty} {E : Env} {k d f : Nat} {as : List AV} {v : Value} (hT : TyOk P T) (hE : EnvOk P E)
    (h : (match callF P T E k d f as [] 0 with | some (.sc u, _, _) => some u | _ => none) = some v) : Pure P f as (.sc v) := by
  split at h
  · rename_i u H' n' hc
    cases h
    exact Pure.of_hc (callF_ok hT hE d _ _ _ _ _ _ _ hc) .sc
  · cases h
end Go.Av
