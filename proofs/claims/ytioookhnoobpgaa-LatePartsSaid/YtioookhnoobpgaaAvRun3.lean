/- An evaluator for closed runs: code and calls. -/
import Derived.Test.YtioookhnoobpgaaAvRun2
namespace Go.Av

structure RS where
  F : List AV
  H : List (Nat × Obj)
  n : Nat

def RS.st (s : RS) : St := ⟨getF s.F, hp s.H, s.n⟩

abbrev Rec := Nat → List AV → List (Nat × Obj) → Nat → Option (AV × List (Nat × Obj) × Nat)

def RecOk (P : Program) (rec : Rec) : Prop :=
  ∀ f as H n r H' n', rec f as H n = some (r, H', n') → HC P f as (hp H) n (fun r2 H2 n2 => r2 = r ∧ H2 = hp H' ∧ n2 = n')

def opF (T : Ty) (rec : Rec) (s : RS) (o : Oper) : Option (AV × List (Nat × Obj) × Nat) :=
  match puF T (evA (getF s.F)) (hp s.H) o.op with
  | some a => some (a, s.H, s.n)
  | none => match mkF T (evA (getF s.F)) (hp s.H) s.n o.op with
    | some (a, e) => some (a, effH s.n s.H e, s.n + 1)
    | none => match o.op with
      | .store t p x => match stF T (evA (getF s.F)) (hp s.H) t p x with
        | some (q, z) => some (.sc undef, (q, z) :: delH q s.H, s.n)
        | none => none
      | .call { callee := .value x, args := args, argTypes := _ } => match evA (getF s.F) x with
        | .fn f caps => rec f (args.toList.map (evA (getF s.F)) ++ caps) s.H s.n
        | _ => none
      | _ => none

theorem opF_ok {P : Program} {T : Ty} {rec : Rec} {nt : Nat} {s : RS} {o : Oper} {a : AV} {H : List (Nat × Obj)} {n : Nat} (hT : TyOk P T) (hr : RecOk P rec) (h : opF T rec s o = some (a, H, n)) :
    OpR P nt o s.st (fun a' H' n' => a' = a ∧ H' = hp H ∧ n' = n) := by
  unfold opF at h
  split at h
  · rename_i hp'
    cases h
    exact OpR.pu hT (s := s.st) (puF_ok hp')
  · split at h
    · rename_i hm
      cases h
      obtain ⟨h1, h2⟩ := mkF_ok hm
      rw [hp_eff]
      exact OpR.mk hT (s := s.st) h1 h2
    · split at h
      · rename_i ho
        split at h
        · rename_i hs
          cases h
          obtain ⟨i, k, y, e, ti, g1, g2, g3, g4, g5, g6, g7, g8, g9, rfl⟩ := stF_ok hs
          rw [hp_set]
          refine OpR.st hT (s := s.st) ?_
          rw [ho]
          exact .store g1 g2 g3 g4 g5 g6 g7 g8 g9
        · cases h
      · rename_i ho
        split at h
        · rename_i hx
          exact OpR.call (s := s.st) ho hx (hr _ _ _ _ _ _ _ h)
        · cases h
      · cases h

/-- Whether a guarded operation is run. -/
def guardF (nt : Nat) (ops : Array Oper) (A : Nat → AV) (o : Oper) : Option Bool :=
  match o.guard with
  | none => some true
  | some (j, want) => match (ops[j]?).bind (·.dst) with
    | some t => if Nat.blt t nt = true then (match strip (A t) with
      | .sc v => some (boolIs want v)
      | _ => none) else none
    | none => none

def opsF (T : Ty) (rec : Rec) (nt : Nat) (ops : Array Oper) : List Oper → RS → Option RS
  | [], s => some s
  | o :: l, s => if dstOk nt o.dst = true then (match guardF nt ops (getF s.F) o with
    | some true => match opF T rec s o with
      | some (a, H, n) => opsF T rec nt ops l ⟨setO s.F o.dst a, H, n⟩
      | none => none
    | some false => opsF T rec nt ops l ⟨setO s.F o.dst (.sc undef), s.H, s.n⟩
    | none => none) else none

theorem opsF_ok {P : Program} {T : Ty} {rec : Rec} {nt n0 : Nat} {ops : Array Oper} (hT : TyOk P T) (hr : RecOk P rec) : ∀ (l : List Oper) (s r : RS), opsF T rec nt ops l s = some r →
    SemL P nt n0 ops l (fun s' => s' = r.st) s.st := by
  intro l
  induction l with
  | nil => intro s r h; simp [opsF] at h; subst h; exact SemL.nil rfl
  | cons o l ih =>
    intro s r h
    simp only [opsF] at h
    split at h
    · rename_i hd
      have hdlt := dstOk_lt hd
      split at h
      · rename_i hg
        split at h
        · rename_i a H n hop
          have hR := opF_ok (nt := nt) hT hr hop
          have hk := ih _ _ h
          have key : SemL P nt n0 ops ({ o with guard := none } :: l) (fun s' => s' = r.st) s.st := by
            refine SemL.step (R := fun a' H' n' => a' = a ∧ H' = hp H ∧ n' = n) rfl hdlt hR ?_
            rintro a' H' n' ⟨rfl, rfl, rfl⟩
            have : (⟨updO s.st.A o.dst a', hp H, n'⟩ : St) = (RS.mk (setO s.F o.dst a') H n').st := by simp only [RS.st, getF_updO]
            show SemL P nt n0 ops l (fun s' => s' = r.st) ⟨updO s.st.A o.dst a', hp H, n'⟩
            rw [this]; exact hk
          unfold guardF at hg
          split at hg
          · rename_i hgn
            have ho : ({ o with guard := none } : Oper) = o := by cases o; simp at hgn; subst hgn; rfl
            rw [ho] at key; exact key
          · rename_i j want hgs
            split at hg
            · rename_i t hj
              split at hg
              · rename_i ht
                split at hg
                · rename_i v hb
                  have hv : v = .bool want := by
                    cases v <;> simp [boolIs] at hg
                    rw [hg]
                  rw [hv] at hb
                  exact stGuard (b := want) hgs hj ht hb hd (fun _ => key) (fun hne => absurd rfl hne)
                · cases hg
              · cases hg
            · cases hg
        · cases h
      · rename_i hg
        unfold guardF at hg
        split at hg
        · cases hg
        · rename_i j want hgs
          split at hg
          · rename_i t hj
            split at hg
            · rename_i ht
              split at hg
              · rename_i v hb
                refine stSkip hgs hj ht hb hd (by simpa using hg) ?_
                have hk := ih _ _ h
                have : (⟨updO s.st.A o.dst (.sc undef), s.st.H, s.st.n⟩ : St) = (RS.mk (setO s.F o.dst (.sc undef)) s.H s.n).st := by simp only [RS.st, getF_updO]
                rw [this]; exact hk
              · cases hg
            · cases hg
          · cases hg
      · cases h
    · cases h

def loopF (b : RS → Option (AExit × RS)) : Nat → RS → Option (AExit × RS)
  | 0, _ => none
  | m + 1, s => match b s with
    | some (.normal, s') => loopF b m s'
    | r => r

open Classical in
theorem SemC.loop0 {P : Program} {nt n0 : Nat} {s : St} {Q : AExit → St → Prop} {body : Code} (J : Nat → St → Prop) (h0 : ∃ m, J m s)
    (hr : ∀ m s, J m s → SemC P nt n0 body (fun e s' => match e with | .normal => ∃ m', J m' s' ∧ m' < m | e => Q e s') s) : SemC P nt n0 (.loop body) Q s := by
  intro c0 H0 c act g
  let I' : Nat → Act → World → Prop := fun m act w => ∃ c s, c.w = w ∧ Good nt c0 H0 n0 c s act ∧ J m s
  let I : Act → World → Prop := fun act w => ∃ m, I' m act w
  let μ : Act → World → Nat := fun act w => if h : ∃ m, I' m act w then Classical.choose (least h) else 0
  obtain ⟨m, hJ⟩ := h0
  refine wp_loop I μ ⟨m, c, s, rfl, g, hJ⟩ ?_
  intro a w hI
  have hm : μ a w = Classical.choose (least hI) := dif_pos hI
  obtain ⟨c1, s2, rfl, g1, hJ1⟩ := (Classical.choose_spec (least hI)).1
  refine Code.wp_mono ?_ (hr _ _ hJ1 c0 H0 c1 a g1)
  rintro e a' w' ⟨c2, s3, ae, rfl, g2, rfl, hq⟩
  cases ae with
  | normal =>
    obtain ⟨m', hJ4, hlt⟩ := hq
    have hI4 : I' m' a' c2.w := ⟨c2, s3, rfl, g2, hJ4⟩
    refine ⟨⟨m', hI4⟩, ?_⟩
    have : μ a' c2.w = Classical.choose (least (⟨m', hI4⟩ : ∃ m, I' m a' c2.w)) := dif_pos (⟨m', hI4⟩ : ∃ m, I' m a' c2.w)
    rw [this, hm]
    exact Nat.lt_of_le_of_lt ((Classical.choose_spec (least (⟨m', hI4⟩ : ∃ m, I' m a' c2.w))).2 m' hI4) hlt
  | exit id => exact ⟨c2, s3, .exit id, rfl, g2, rfl, hq⟩
  | ret => exact ⟨c2, s3, .ret, rfl, g2, rfl, hq⟩

/-! A region whose order is drawn. -/
def dopF (T : Ty) (rec : Rec) (A : Nat → AV) (V : Heap) (id : Nat) (o : Oper) : Option (AV × WEff) :=
  match puF T (evA A) V o.op with
  | some a => some (a, .none)
  | none => match mkF T (evA A) V id o.op with
    | some (a, .none) => some (a, .none)
    | some (a, .new x) => some (a, .new x)
    | some (a, .app old x) => some (a, .app old x)
    | none => match o.op with
      | .store t p x => match o.dst with
        | none => match stF T (evA A) V t p x with
          | some (q, z) => some (.sc undef, .set q z)
          | none => none
        | some _ => none
      | .call { callee := .value x, args := args, argTypes := _ } => match evA A x with
        | .fn f [] => match mapO (cvF false V 100) (args.toList.map (evA A)) with
          | some bs => match rec f bs [] 0 with
            | some (r, H', _) => match cvF true (hp H') 100 r with
              | some r' => if ownF 100 r' = true then some (r', .none) else none
              | none => none
            | none => none
          | none => none
        | _ => none
      | _ => none

theorem Pure.of_hc {P : Program} {f : Nat} {bs : List AV} {r r' : AV} {H' : Heap} {n' : Nat} (h : HC P f bs (fun _ => none) 0 (fun r2 H2 n2 => r2 = r ∧ H2 = H' ∧ n2 = n')) (hc : Cv true H' r r') : Pure P f bs r' := by
  refine ⟨h.1, fun w S vs hS hv => ?_⟩
  let c : Ctx := ⟨w, pl0, S, fun _ => False, w.heap.size⟩
  have hI : Inv c (fun _ => none) (· < 0) :=
    ⟨fun o x h => (by cases h), fun o o' x x' h => (by cases h), fun o x h => (by cases h), fun b hb => hb.elim (hS b) False.elim, Nat.le_refl _, fun b hb => hb.elim, fun o x h => (by cases h)⟩
  have hvs : VRels c false bs vs := ⟨hv.len, fun i a v ha hvv => (hv.rel i a v ha hvv).shallow⟩
  have hok : ∀ a ∈ bs, a.Ok (· < 0) := by
    intro a ha
    obtain ⟨i, hi⟩ := List.getElem?_of_mem ha
    have : i < vs.size := by rw [← hv.len]; exact (List.getElem?_eq_some_iff.1 hi).1
    exact (hv.rel i a _ hi (Array.getElem?_eq_getElem this)).okDeep
  refine (h.2 c vs hI (fun o x h => by cases h) hvs hok).mono ?_
  rintro e w' ⟨v, r2, H2, n2, c', ⟨rfl, rfl, rfl⟩, rfl, rfl, hle, hsa, hso, hfr, hown, hI', hs, hn, hvr, hokr⟩
  refine ⟨v, rfl, ?_, ⟨hfr.os, hfr.tape, hfr.output, hfr.size, fun k hk => hfr.block k hk (fun o x hx => (by cases hx))⟩⟩
  have hB : c'.B = w.heap.size := hle.B
  refine cv_ok hI' (c' := ⟨c'.w, pl0, S, fun b => w.heap.size ≤ b ∧ b < c'.w.heap.size, w.heap.size⟩) rfl (fun b hb => ?_) (fun _ b hb => ?_) (fun o x hx => ?_) hc hvr
  · rcases hb with hb | hb
    · exact .inl ⟨rfl, by rw [hsa] at hb; exact hb⟩
    · exact .inr ⟨by rw [← hB]; exact hI'.own b hb, hI'.lt b (.inr hb)⟩
  · exact ⟨by rw [← hB]; exact hI'.own b hb, hI'.lt b (.inr hb)⟩
  · obtain ⟨_, ⟨⟨cur, hcb, _⟩, _⟩, _⟩ := hI'.obj o x hx
    exact .inr ⟨by rw [← hB]; exact hI'.low o x hx, (Array.getElem?_eq_some_iff.1 hcb).1⟩

theorem dopF_ok {P : Program} {T : Ty} {rec : Rec} {A : Nat → AV} {V : Heap} {id : Nat} {o : Oper} {a : AV} {e : WEff} (hr : RecOk P rec) (h : dopF T rec A V id o = some (a, e)) : DOp P T A V id o a e := by
  unfold dopF at h
  split at h
  · cases h; exact .pu (puF_ok (by assumption))
  · split at h
    · rename_i hm; cases h; exact .zero (mkF_ok hm).1
    · rename_i hm; cases h
      obtain ⟨h1, h2⟩ := mkF_ok hm
      have := h2 0 _ (.inr rfl)
      exact .new h1 this.1 this.2
    · rename_i hm; cases h
      obtain ⟨h1, h2⟩ := mkF_ok hm
      have := h2 _ _ (.inl rfl)
      exact .app h1 this.1 this.2
    · split at h
      · rename_i ho
        split at h
        · rename_i hd
          split at h
          · rename_i hs
            cases h
            obtain ⟨i, k, y, e, ti, g1, g2, g3, g4, g5, g6, g7, g8, g9, rfl⟩ := stF_ok hs
            exact .store ho hd g1 g2 g4 g5 g6 g7 g8 g9
          · cases h
        · cases h
      · rename_i ho
        split at h
        · rename_i hx
          split at h
          · rename_i hm
            split at h
            · rename_i hrec
              split at h
              · rename_i hc
                split at h
                · rename_i hown
                  cases h
                  obtain ⟨m1, m2⟩ := mapO_ok hm
                  exact .pure ho hx ⟨m1, fun i a b ha hb => cvF_ok _ _ _ (m2 i a b ha hb)⟩ (Pure.of_hc (hr _ _ _ _ _ _ _ hrec) (cvF_ok _ _ _ hc)) (fun _ _ h => h) (.inl (ownF_ok _ _ hown))
                · cases h
              · cases h
            · cases h
          · cases h
        · cases h
      · cases h

def drawF (T : Ty) (rec : Rec) (nt base : Nat) (ops : Array Oper) (ms : List Nat) (hs : List (Nat × Bool)) : Nat → List Oper → List AV → List (Nat × Obj) → List WEff → Option (List AV × List (Nat × Obj))
  | _, [], F, H, _ => some (F, H)
  | i, o :: l, F, H, es =>
    if dstOkD nt (badGo i (ms.getD i 0) 0 ops.toList ms) o.dst = true then
      (match guardF nt ops (frD (badGo i (ms.getD i 0) 0 ops.toList ms) (getF F)) o with
      | some true => match dopF T rec (frD (badGo i (ms.getD i 0) 0 ops.toList ms) (getF F)) (hpD base (ms.getD i 0) (heapFree o.op) es (hp H)) (base + i) o with
        | some (a, e) => if writeOk base (ms.getD i 0) (e.objs (base + i)) 0 (hs.take i) [] es = true then
            drawF T rec nt base ops ms hs (i + 1) l (setO F o.dst a) (weffH (base + i) H e) (es ++ [e]) else none
        | none => none
      | some false => drawF T rec nt base ops ms hs (i + 1) l (setO F o.dst (.sc undef)) H (es ++ [.none])
      | none => none) else none

theorem drawF_ok {P : Program} {T : Ty} {rec : Rec} {nt base : Nat} {ops : Array Oper} {ms : List Nat} (hr : RecOk P rec) : ∀ (l : List Oper) (i : Nat) (F : List AV) (H : List (Nat × Obj)) (es : List WEff) (F' : List AV) (H' : List (Nat × Obj)),
    drawF T rec nt base ops ms (ms.zip (ops.toList.map fun o => heapFree o.op)) i l F H es = some (F', H') → DRun P T nt base ops ms i l (getF F) (hp H) es (getF F') (hp H') := by
  intro l
  induction l with
  | nil => intro i F H es F' H' h; simp [drawF] at h; obtain ⟨rfl, rfl⟩ := h; exact .nil
  | cons o l ih =>
    intro i F H es F' H' h
    simp only [drawF] at h
    split at h
    · rename_i hd
      split at h
      · rename_i hg
        split at h
        · rename_i a e hop
          split at h
          · rename_i hw
            have hk := ih _ _ _ _ _ _ h
            rw [getF_updO, hp_weff] at hk
            have hop' := dopF_ok hr hop
            unfold guardF at hg
            split at hg
            · rename_i hgn; exact .op hgn hd hop' hw hk
            · rename_i j want hgs
              split at hg
              · rename_i t hj
                split at hg
                · rename_i ht
                  split at hg
                  · rename_i v hb
                    have hv : v = .bool want := by
                      cases v <;> simp [boolIs] at hg
                      rw [hg]
                    rw [hv] at hb
                    exact .run hgs hd hj ht hb hop' hw hk
                  · cases hg
                · cases hg
              · cases hg
          · cases h
        · cases h
      · rename_i hg
        have hk := ih _ _ _ _ _ _ h
        rw [getF_updO] at hk
        unfold guardF at hg
        split at hg
        · cases hg
        · rename_i j want hgs
          split at hg
          · rename_i t hj
            split at hg
            · rename_i ht
              split at hg
              · rename_i v hb
                exact .skip hgs hd hj ht hb (by simpa using hg) hk
              · cases hg
            · cases hg
          · cases hg
      · cases h
    · cases h
end Go.Av
