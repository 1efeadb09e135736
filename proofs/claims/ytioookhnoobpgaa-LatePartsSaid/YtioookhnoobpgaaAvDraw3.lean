/- Regions whose order is drawn: the run in the order of the text stands for all. -/
import Derived.Test.YtioookhnoobpgaaAvDraw2
namespace Go.Av

/-- The operations before which nothing of the heap is looked at. -/
def heapFree : Op → Bool
  | .move _ | .assign _ | .pick .. | .binOp .. | .unOp .. | .convert .. | .fieldAddr .. | .field .. | .extract .. | .nilCheck _ | .index .. => true
  | _ => false

/-- The slots that an operation must not look at: written by operations that stand in no order to it. -/
def badGo (i mi : Nat) : Nat → List Oper → List Nat → List Nat
  | k, o :: r, m :: ms =>
    let rest := badGo i mi (k + 1) r ms
    match o.dst with
    | none => rest
    | some d => bif Nat.beq k i then rest else bif Nat.blt k i then (bif Nat.testBit mi k then rest else d :: rest) else (bif Nat.testBit m i then rest else d :: rest)
  | _, _, _ => []

def memB (t : Nat) : List Nat → Bool
  | [] => false
  | a :: r => Nat.beq t a || memB t r

theorem memB_iff {t : Nat} {l : List Nat} : memB t l = true ↔ t ∈ l := by
  induction l with
  | nil => simp [memB]
  | cons a r ih => simp only [memB, Bool.or_eq_true, Nat.beq_eq, ih, List.mem_cons]

theorem bad_mem {i mi : Nat} : ∀ (l : List Oper) (ms : List Nat) (k0 k : Nat) (o : Oper) (m d : Nat), l[k]? = some o → ms[k]? = some m → o.dst = some d → k0 + k ≠ i →
    (k0 + k < i → Nat.testBit mi (k0 + k) = false) → (i < k0 + k → Nat.testBit m i = false) → d ∈ badGo i mi k0 l ms := by
  intro l
  induction l with
  | nil => intro ms k0 k o m d ho; simp at ho
  | cons a l ih =>
    intro ms k0 k o m d ho hm hd hne h1 h2
    cases ms with
    | nil => simp at hm
    | cons b ms =>
      cases k with
      | zero =>
        simp at ho hm
        subst ho hm
        simp only [badGo, hd]
        have hb : Nat.beq k0 i = false := by rw [← Bool.not_eq_true, Nat.beq_eq]; simpa using hne
        rw [hb, cond_false]
        by_cases hlt : k0 < i
        · have : Nat.blt k0 i = true := by simpa using hlt
          have h1' : Nat.testBit mi k0 = false := h1 (by simpa using hlt)
          rw [this, cond_true, h1']
          exact List.mem_cons_self ..
        · have : Nat.blt k0 i = false := by rw [← Bool.not_eq_true]; simpa using hlt
          rw [this, cond_false, h2 (by simp at hne; omega)]
          exact List.mem_cons_self ..
      | succ k =>
        simp at ho hm
        have := ih ms (k0 + 1) k o m d ho hm hd (by omega) (fun h => by have := h1 (by omega); rwa [show k0 + 1 + k = k0 + (k + 1) by omega]) (fun h => h2 (by omega))
        simp only [badGo]
        cases a.dst with
        | none => exact this
        | some d' =>
          simp only []
          cases Nat.beq k0 i <;> simp only [cond_true, cond_false] <;> first
            | exact this
            | (cases Nat.blt k0 i <;> simp only [cond_true, cond_false]
               · cases Nat.testBit b i <;> simp only [cond_true, cond_false]
                 · exact List.mem_cons_of_mem _ this
                 · exact this
               · cases Nat.testBit mi k0 <;> simp only [cond_true, cond_false]
                 · exact List.mem_cons_of_mem _ this
                 · exact this)

def frD (bad : List Nat) (A : Nat → AV) : Nat → AV := fun t => bif memB t bad then .junk else A t

/-- The objects that operation i must not look at. 'es' are the effects of the operations before it. -/
def hiddenGo (base mi o : Nat) : Nat → List WEff → Bool
  | k, e :: es => (memB o (e.objs (base + k)) && !Nat.testBit mi k) || hiddenGo base mi o (k + 1) es
  | _, [] => false

def hidden (base mi : Nat) (hf : Bool) (es : List WEff) (o : Nat) : Bool :=
  hf || (Nat.ble base o && !Nat.testBit mi (o - base)) || hiddenGo base mi o 0 es

def hpD (base mi : Nat) (hf : Bool) (es : List WEff) (H : Heap) : Heap := fun o => bif hidden base mi hf es o then none else H o

/-- What operation k writes, those that stand in no order to it neither see nor write. 'done': the operations before, in turn. -/
def writeOk (base mk : Nat) (os : List Nat) : Nat → List (Nat × Bool) → List WEff → List WEff → Bool
  | i, (mi, hf) :: ms, pre, e :: es =>
    (Nat.testBit mk i || os.all (fun o => hidden base mi hf pre o && !memB o (e.objs (base + i)))) && writeOk base mk os (i + 1) ms (pre ++ [e]) es
  | _, _, _, _ => true

theorem hiddenGo_false {base mi o : Nat} : ∀ (es : List WEff) (k0 k : Nat) (e : WEff), es[k]? = some e → hiddenGo base mi o k0 es = false → o ∈ e.objs (base + (k0 + k)) → Nat.testBit mi (k0 + k) = true := by
  intro es
  induction es with
  | nil => intro k0 k e he; simp at he
  | cons a es ih =>
    intro k0 k e he h ho
    simp only [hiddenGo, Bool.or_eq_false_iff] at h
    cases k with
    | zero =>
      simp at he; subst he
      have hm : memB o (a.objs (base + k0)) = true := memB_iff.2 (by simpa using ho)
      have := h.1
      rw [hm, Bool.true_and] at this
      simpa using this
    | succ k =>
      simp at he
      have := ih (k0 + 1) k e he h.2 (by rwa [show k0 + 1 + k = k0 + (k + 1) by omega])
      rwa [show k0 + (k + 1) = k0 + 1 + k by omega]

theorem writeOk_spec {base mk : Nat} {os : List Nat} : ∀ (es : List WEff) (i0 : Nat) (ms : List (Nat × Bool)) (pre : List WEff), writeOk base mk os i0 ms pre es = true → ms.length = es.length →
    ∀ (i : Nat) (e : WEff) (m : Nat × Bool), es[i]? = some e → ms[i]? = some m → Nat.testBit mk (i0 + i) = true ∨ ∀ o ∈ os, hidden base m.1 m.2 (pre ++ es.take i) o = true ∧ o ∉ e.objs (base + (i0 + i)) := by
  intro es
  induction es with
  | nil => intro i0 ms pre h hl i e m he; simp at he
  | cons a es ih =>
    intro i0 ms pre h hl i e m he hm
    cases ms with
    | nil => simp at hl
    | cons b ms =>
      obtain ⟨mi, hf⟩ := b
      simp only [writeOk, Bool.and_eq_true] at h
      cases i with
      | zero =>
        simp at he hm
        subst he hm
        rcases Bool.or_eq_true_iff.1 h.1 with h1 | h1
        · exact .inl h1
        · right
          intro o ho
          have := List.all_eq_true.1 h1 o ho
          simp only [Bool.and_eq_true, Bool.not_eq_true', ← Bool.not_eq_true, memB_iff] at this
          refine ⟨by simpa using this.1, by simpa using this.2⟩
      | succ i =>
        simp at he hm
        have := ih (i0 + 1) ms (pre ++ [a]) h.2 (by simpa using hl) i e m he hm
        rw [show i0 + (i + 1) = i0 + 1 + i by omega]
        simpa using this

def dstOkD (nt : Nat) (bad : List Nat) : Option Nat → Bool
  | some d => Nat.blt d nt && !memB d bad
  | none => true

def boolIs (want : Bool) : Value → Bool
  | .bool b => b == want
  | _ => false

/-- The run in the order of the text. -/
inductive DRun (P : Program) (T : Ty) (nt base : Nat) (ops : Array Oper) (ms : List Nat) : Nat → List Oper → (Nat → AV) → Heap → List WEff → (Nat → AV) → Heap → Prop
  | nil {i A H es} : DRun P T nt base ops ms i [] A H es A H
  | op {i o l A H es a e A' H'} (hg : o.guard = none) (hd : dstOkD nt (badGo i (ms.getD i 0) 0 ops.toList ms) o.dst = true)
      (h : DOp P T (frD (badGo i (ms.getD i 0) 0 ops.toList ms) A) (hpD base (ms.getD i 0) (heapFree o.op) es H) (base + i) o a e)
      (hw : writeOk base (ms.getD i 0) (e.objs (base + i)) 0 ((ms.zip (ops.toList.map fun o => heapFree o.op)).take i) [] es = true)
      (k : DRun P T nt base ops ms (i + 1) l (updO A o.dst a) (e.go (base + i) H) (es ++ [e]) A' H') : DRun P T nt base ops ms i (o :: l) A H es A' H'
  | run {i o l A H es a e A' H' j t want} (hg : o.guard = some (j, want)) (hd : dstOkD nt (badGo i (ms.getD i 0) 0 ops.toList ms) o.dst = true) (hj : (ops[j]?).bind (·.dst) = some t) (ht : Nat.blt t nt = true)
      (hb : strip (frD (badGo i (ms.getD i 0) 0 ops.toList ms) A t) = .sc (.bool want))
      (h : DOp P T (frD (badGo i (ms.getD i 0) 0 ops.toList ms) A) (hpD base (ms.getD i 0) (heapFree o.op) es H) (base + i) o a e)
      (hw : writeOk base (ms.getD i 0) (e.objs (base + i)) 0 ((ms.zip (ops.toList.map fun o => heapFree o.op)).take i) [] es = true)
      (k : DRun P T nt base ops ms (i + 1) l (updO A o.dst a) (e.go (base + i) H) (es ++ [e]) A' H') : DRun P T nt base ops ms i (o :: l) A H es A' H'
  | skip {i o l A H es A' H' j t want v} (hg : o.guard = some (j, want)) (hd : dstOkD nt (badGo i (ms.getD i 0) 0 ops.toList ms) o.dst = true) (hj : (ops[j]?).bind (·.dst) = some t) (ht : Nat.blt t nt = true)
      (hb : strip (frD (badGo i (ms.getD i 0) 0 ops.toList ms) A t) = .sc v) (hbw : boolIs want v = false)
      (k : DRun P T nt base ops ms (i + 1) l (updO A o.dst (.sc undef)) H (es ++ [.none]) A' H') : DRun P T nt base ops ms i (o :: l) A H es A' H'

/-- What an operation comes to at its place in the text. -/
inductive DOne (P : Program) (T : Ty) (nt base : Nat) (ops : Array Oper) (ms : List Nat) (i : Nat) (o : Oper) (A : Nat → AV) (H : Heap) (es : List WEff) : AV → WEff → Prop
  | run {a e} (hg : o.guard = none ∨ ∃ j t want, o.guard = some (j, want) ∧ (ops[j]?).bind (·.dst) = some t ∧ t < nt ∧ strip (frD (badGo i (ms.getD i 0) 0 ops.toList ms) A t) = .sc (.bool want))
      (h : DOp P T (frD (badGo i (ms.getD i 0) 0 ops.toList ms) A) (hpD base (ms.getD i 0) (heapFree o.op) es H) (base + i) o a e) : DOne P T nt base ops ms i o A H es a e
  | skip {j t want v} (hg : o.guard = some (j, want)) (hj : (ops[j]?).bind (·.dst) = some t) (ht : t < nt)
      (hb : strip (frD (badGo i (ms.getD i 0) 0 ops.toList ms) A t) = .sc v) (hbw : boolIs want v = false) : DOne P T nt base ops ms i o A H es (.sc undef) .none

def stepA (l : List Oper) (rs : List (AV × WEff)) (k : Nat) (A : Nat → AV) : Nat → AV :=
  match l[k]?, rs[k]? with
  | some o, some r => updO A o.dst r.1
  | _, _ => A

def stepH (base : Nat) (rs : List (AV × WEff)) (k : Nat) (H : Heap) : Heap :=
  match rs[k]? with
  | some r => r.2.go (base + k) H
  | none => H

/-- All the results, each at its place. -/
structure DAll (P : Program) (T : Ty) (nt base : Nat) (ops : Array Oper) (ms : List Nat) (A : Nat → AV) (H : Heap) (rs : List (AV × WEff)) : Prop where
  len : rs.length = ops.toList.length
  one : ∀ (i : Nat) o r, ops.toList[i]? = some o → rs[i]? = some r → dstOkD nt (badGo i (ms.getD i 0) 0 ops.toList ms) o.dst = true ∧
    DOne P T nt base ops ms i o (foldS (stepA ops.toList rs) (fun _ => true) i A) (foldS (stepH base rs) (fun _ => true) i H) ((rs.take i).map (·.2)) r.1 r.2 ∧
    writeOk base (ms.getD i 0) (r.2.objs (base + i)) 0 ((ms.zip (ops.toList.map fun o => heapFree o.op)).take i) [] ((rs.take i).map (·.2)) = true

theorem writeOk_nil {base mk i : Nat} : ∀ (es : List WEff) (k : Nat) (ms : List (Nat × Bool)) (pre : List WEff), writeOk base mk [] k ms pre es = true := by
  intro es
  induction es with
  | nil => intro k ms pre; cases ms <;> simp [writeOk]
  | cons a es ih => intro k ms pre; cases ms <;> simp [writeOk, ih]

theorem foldS_pre {V : Type} {f g : Nat → V → V} {S : Nat → Bool} : ∀ (n : Nat) (v : V), (∀ k, k < n → ∀ u, f k u = g k u) → foldS f S n v = foldS g S n v
  | 0, _, _ => rfl
  | n + 1, v, h => by simp only [foldS, foldS_pre n v (fun k hk => h k (by omega)), h n (by omega)]

theorem DRun.all {P : Program} {T : Ty} {nt base : Nat} {ops : Array Oper} {ms : List Nat} {i : Nat} {l : List Oper} {A : Nat → AV} {H : Heap} {es : List WEff} {A' : Nat → AV} {H' : Heap}
    (h : DRun P T nt base ops ms i l A H es A' H') : ∀ (A0 : Nat → AV) (H0 : Heap) (rs : List (AV × WEff)), i ≤ ops.toList.length → rs.length = i → es = rs.map (·.2) → ops.toList.drop i = l → A = foldS (stepA ops.toList rs) (fun _ => true) i A0 → H = foldS (stepH base rs) (fun _ => true) i H0 →
      (∀ (k : Nat) o r, ops.toList[k]? = some o → rs[k]? = some r → dstOkD nt (badGo k (ms.getD k 0) 0 ops.toList ms) o.dst = true ∧
        DOne P T nt base ops ms k o (foldS (stepA ops.toList rs) (fun _ => true) k A0) (foldS (stepH base rs) (fun _ => true) k H0) ((rs.take k).map (·.2)) r.1 r.2 ∧
        writeOk base (ms.getD k 0) (r.2.objs (base + k)) 0 ((ms.zip (ops.toList.map fun o => heapFree o.op)).take k) [] ((rs.take k).map (·.2)) = true) →
      ∃ rs', DAll P T nt base ops ms A0 H0 rs' ∧ A' = foldS (stepA ops.toList rs') (fun _ => true) ops.toList.length A0 ∧ H' = foldS (stepH base rs') (fun _ => true) ops.toList.length H0 := by
  have ext : ∀ (i : Nat) (o : Oper) (l : List Oper) (A : Nat → AV) (H : Heap) (a : AV) (e : WEff) (A0 : Nat → AV) (H0 : Heap) (rs : List (AV × WEff)), rs.length = i → ops.toList.drop i = o :: l →
      A = foldS (stepA ops.toList rs) (fun _ => true) i A0 → H = foldS (stepH base rs) (fun _ => true) i H0 →
      dstOkD nt (badGo i (ms.getD i 0) 0 ops.toList ms) o.dst = true → DOne P T nt base ops ms i o A H (rs.map (·.2)) a e → writeOk base (ms.getD i 0) (e.objs (base + i)) 0 ((ms.zip (ops.toList.map fun o => heapFree o.op)).take i) [] (rs.map (·.2)) = true →
      (∀ (k : Nat) o r, ops.toList[k]? = some o → rs[k]? = some r → dstOkD nt (badGo k (ms.getD k 0) 0 ops.toList ms) o.dst = true ∧
        DOne P T nt base ops ms k o (foldS (stepA ops.toList rs) (fun _ => true) k A0) (foldS (stepH base rs) (fun _ => true) k H0) ((rs.take k).map (·.2)) r.1 r.2 ∧
        writeOk base (ms.getD k 0) (r.2.objs (base + k)) 0 ((ms.zip (ops.toList.map fun o => heapFree o.op)).take k) [] ((rs.take k).map (·.2)) = true) →
      i + 1 ≤ ops.toList.length ∧ (rs ++ [(a, e)]).length = i + 1 ∧ ops.toList.drop (i + 1) = l ∧ updO A o.dst a = foldS (stepA ops.toList (rs ++ [(a, e)])) (fun _ => true) (i + 1) A0 ∧ e.go (base + i) H = foldS (stepH base (rs ++ [(a, e)])) (fun _ => true) (i + 1) H0 ∧
      (∀ (k : Nat) o r, ops.toList[k]? = some o → (rs ++ [(a, e)])[k]? = some r → dstOkD nt (badGo k (ms.getD k 0) 0 ops.toList ms) o.dst = true ∧
        DOne P T nt base ops ms k o (foldS (stepA ops.toList (rs ++ [(a, e)])) (fun _ => true) k A0) (foldS (stepH base (rs ++ [(a, e)])) (fun _ => true) k H0) (((rs ++ [(a, e)]).take k).map (·.2)) r.1 r.2 ∧
        writeOk base (ms.getD k 0) (r.2.objs (base + k)) 0 ((ms.zip (ops.toList.map fun o => heapFree o.op)).take k) [] (((rs ++ [(a, e)]).take k).map (·.2)) = true) := by
    intro i o l A H a e A0 H0 rs hlen hdrop hA hH hd hone hw hall
    have hoi : ops.toList[i]? = some o := by
      have := List.getElem?_drop (xs := ops.toList) (i := i) (j := 0)
      rw [hdrop] at this; simpa using this.symm
    have hget : ∀ k, k < i → (rs ++ [(a, e)])[k]? = rs[k]? := fun k hk => List.getElem?_append_left (by omega)
    have hA1 : ∀ k, k ≤ i → foldS (stepA ops.toList (rs ++ [(a, e)])) (fun _ => true) k A0 = foldS (stepA ops.toList rs) (fun _ => true) k A0 := by
      intro k hk
      refine foldS_pre k A0 fun q hq u => ?_
      simp only [stepA, hget q (by omega)]
    have hH1 : ∀ k, k ≤ i → foldS (stepH base (rs ++ [(a, e)])) (fun _ => true) k H0 = foldS (stepH base rs) (fun _ => true) k H0 := by
      intro k hk
      refine foldS_pre k H0 fun q hq u => ?_
      simp only [stepH, hget q (by omega)]
    have hlast : (rs ++ [(a, e)])[i]? = some (a, e) := by rw [← hlen]; simp
    refine ⟨(List.getElem?_eq_some_iff.1 hoi).1, by simp [hlen], ?_, ?_, ?_, ?_⟩
    · have := congrArg List.tail hdrop
      rw [List.tail_drop] at this
      simpa using this
    · show _ = bif true then stepA ops.toList (rs ++ [(a, e)]) i (foldS _ _ i A0) else _
      rw [hA1 i (Nat.le_refl _), ← hA, cond_true]
      simp only [stepA, hoi, hlast]
    · show _ = bif true then stepH base (rs ++ [(a, e)]) i (foldS _ _ i H0) else _
      rw [hH1 i (Nat.le_refl _), ← hH, cond_true]
      simp only [stepH, hlast]
    · intro k o' r ho' hr
      by_cases hk : k < i
      · rw [hget k hk] at hr
        have := hall k o' r ho' hr
        rw [hA1 k (by omega), hH1 k (by omega), List.take_append_of_le_length (by omega)]
        exact this
      · have hke : k = i := by
          have := (List.getElem?_eq_some_iff.1 hr).1
          simp at this; omega
        subst hke
        rw [hlast] at hr
        cases hr
        rw [hoi] at ho'
        cases ho'
        have ht : (rs ++ [(a, e)]).take k = rs := by rw [← hlen]; simp
        rw [hA1 k (Nat.le_refl _), hH1 k (Nat.le_refl _), ← hA, ← hH, ht]
        exact ⟨hd, hone, hw⟩
  induction h with
  | @nil i A H es =>
    intro A0 H0 rs hile hlen hes hdrop hA hH hall
    have hle : ops.toList.length ≤ i := List.drop_eq_nil_iff.1 hdrop
    have hi : i = ops.toList.length := by omega
    subst hi
    exact ⟨rs, ⟨hlen, hall⟩, hA, hH⟩
  | @op i o l A H es a e A' H' hg hd h hw k ih =>
    intro A0 H0 rs hile hlen hes hdrop hA hH hall
    subst hes
    obtain ⟨h0, h1, h2, h3, h4, h5⟩ := ext i o l A H a e A0 H0 rs hlen hdrop hA hH hd (.run (.inl hg) h) hw hall
    exact ih A0 H0 _ h0 h1 (by simp) h2 h3 h4 h5
  | @run i o l A H es a e A' H' j t want hg hd hj ht hb h hw k ih =>
    intro A0 H0 rs hile hlen hes hdrop hA hH hall
    subst hes
    obtain ⟨h0, h1, h2, h3, h4, h5⟩ := ext i o l A H a e A0 H0 rs hlen hdrop hA hH hd (.run (.inr ⟨j, t, want, hg, hj, by simpa using ht, hb⟩) h) hw hall
    exact ih A0 H0 _ h0 h1 (by simp) h2 h3 h4 h5
  | @skip i o l A H es A' H' j t want v hg hd hj ht hb hbw k ih =>
    intro A0 H0 rs hile hlen hes hdrop hA hH hall
    subst hes
    obtain ⟨h0, h1, h2, h3, h4, h5⟩ := ext i o l A H (.sc undef) .none A0 H0 rs hlen hdrop hA hH hd (.skip hg hj (by simpa using ht) hb hbw) (writeOk_nil (i := 0) _ _ _ _) hall
    exact ih A0 H0 _ h0 h1 (by simp) h2 h3 h4 h5
end Go.Av
