/- Regions whose order is drawn: the rule. -/
import Derived.Test.YtioookhnoobpgaaAvDraw3
namespace Go.Av

theorem foldS_lt {V : Type} {f : Nat → V → V} {i : Nat} : ∀ (n : Nat) (v : V), i ≤ n → foldS f (fun k => Nat.blt k i) n v = foldS f (fun _ => true) i v := by
  intro n
  induction n with
  | zero => intro v h; have : i = 0 := by omega
            subst this; rfl
  | succ n ih =>
    intro v h
    by_cases hi : i = n + 1
    · subst hi
      refine foldS_congr _ v fun k hk => .inr ?_
      simpa using hk
    · have : Nat.blt n i = false := by rw [← Bool.not_eq_true]; simp; omega
      simp only [foldS, this, cond_false]
      exact ih v (by omega)

def gA (l : List Oper) (rs : List (AV × WEff)) (t : Nat) (k : Nat) (v : AV) : AV :=
  match l[k]?, rs[k]? with
  | some o, some r => if o.dst = some t then r.1 else v
  | _, _ => v

def gH (base : Nat) (rs : List (AV × WEff)) (o : Nat) (k : Nat) (u : Option Obj) : Option Obj :=
  match rs[k]? with
  | some r => (r.2.at (base + k) o).getD u
  | none => u

theorem stepA_at (l : List Oper) (rs : List (AV × WEff)) (S : Nat → Bool) (A0 : Nat → AV) (t : Nat) : ∀ n, foldS (stepA l rs) S n A0 t = foldS (gA l rs t) S n (A0 t) := by
  intro n
  induction n with
  | zero => rfl
  | succ n ih =>
    simp only [foldS]
    cases S n with
    | false => simpa using ih
    | true =>
      simp only [cond_true]
      rw [← ih]
      unfold stepA gA
      cases l[n]? with
      | none => rfl
      | some o =>
        cases rs[n]? with
        | none => rfl
        | some r =>
          simp only []
          cases hd : o.dst with
          | none => simp [updO]
          | some d =>
            simp only [updO, Option.some.injEq]
            by_cases h : t = d
            · subst h; rw [upd_same, if_pos rfl]
            · rw [upd_other _ _ h, if_neg (fun e => h e.symm)]

theorem stepH_at (base : Nat) (rs : List (AV × WEff)) (S : Nat → Bool) (H0 : Heap) (o : Nat) : ∀ n, foldS (stepH base rs) S n H0 o = foldS (gH base rs o) S n (H0 o) := by
  intro n
  induction n with
  | zero => rfl
  | succ n ih =>
    simp only [foldS]
    cases S n with
    | false => simpa using ih
    | true =>
      simp only [cond_true]
      rw [← ih]
      unfold stepH gH
      cases rs[n]? with
      | none => rfl
      | some r => rfl

def preLt : Nat → List Oper → Bool
  | i, o :: l => (preOf o).all (fun j => Nat.blt j i) && preLt (i + 1) l
  | _, [] => true

theorem preLt_spec : ∀ (l : List Oper) (i0 : Nat), preLt i0 l = true → ∀ (i : Nat) o, l[i]? = some o → ∀ j ∈ preOf o, j < i0 + i := by
  intro l
  induction l with
  | nil => intro i0 h i o ho; simp at ho
  | cons a l ih =>
    intro i0 h i o ho j hj
    simp only [preLt, Bool.and_eq_true] at h
    cases i with
    | zero =>
      simp at ho; subst ho
      simpa using List.all_eq_true.1 h.1 j hj
    | succ i =>
      have := ih (i0 + 1) h.2 i o (by simpa using ho) j hj
      omega

section
variable {P : Program} {T : Ty} {nt n0 base : Nat} {ops : Array Oper} {A0 : Nat → AV} {H0 : Heap} {rs : List (AV × WEff)}

/-- A set of operations that may have been run. -/
structure Down (l : List Oper) (S : Nat → Bool) : Prop where
  lt : ∀ k, S k = true → k < l.length
  pre : ∀ (k : Nat), S k = true → ∀ q, ((masks l).getD k 0).testBit q = true → S q = true

theorem view_A (hall : DAll P T nt base ops (masks ops.toList) A0 H0 rs) {S : Nat → Bool} (hS : Down ops.toList S) {i : Nat} (hi : i < ops.toList.length) (hn : S i = false)
    (hr : ∀ q, ((masks ops.toList).getD i 0).testBit q = true → S q = true) {t : Nat} (ht : memB t (badGo i ((masks ops.toList).getD i 0) 0 ops.toList (masks ops.toList)) = false) :
    foldS (stepA ops.toList rs) (fun _ => true) i A0 t = foldS (stepA ops.toList rs) S ops.toList.length A0 t := by
  rw [stepA_at, stepA_at, ← foldS_lt ops.toList.length _ (by omega)]
  refine foldS_congr _ _ fun k hk => ?_
  have ho := List.getElem?_eq_getElem hk
  have hml : k < (masks ops.toList).length := by rw [(masks_ok _).len]; exact hk
  by_cases hd : (ops.toList[k]).dst = some t
  · right
    have hnot : t ∉ badGo i ((masks ops.toList).getD i 0) 0 ops.toList (masks ops.toList) := fun h => by rw [memB_iff.2 h] at ht; cases ht
    have hmk : (masks ops.toList)[k]? = some ((masks ops.toList).getD k 0) := by simp [List.getD, hml]
    by_cases hki : k = i
    · subst hki; rw [hn]; exact (show Nat.blt k k = false by rw [← Bool.not_eq_true, Nat.blt_eq]; omega)
    · by_cases hlt : k < i
      · have hb : Nat.blt k i = true := by simpa using hlt
        rw [hb]
        cases hq : Nat.testBit ((masks ops.toList).getD i 0) k with
        | true => exact (hr k hq).symm
        | false =>
          exact absurd (bad_mem (i := i) (mi := (masks ops.toList).getD i 0) _ _ 0 k _ _ t ho hmk hd (by omega) (fun _ => by simpa using hq) (fun h => by omega)) hnot
      · have hb : Nat.blt k i = false := by rw [← Bool.not_eq_true]; simpa using hlt
        rw [hb]
        cases hq : Nat.testBit ((masks ops.toList).getD k 0) i with
        | true =>
          cases hs : S k with
          | false => rfl
          | true => have := hS.pre k hs i hq; rw [hn] at this; cases this
        | false =>
          exact absurd (bad_mem (i := i) (mi := (masks ops.toList).getD i 0) _ _ 0 k _ _ t ho hmk hd (by omega) (fun h => by omega) (fun _ => hq)) hnot
  · left
    intro u
    unfold gA
    rw [ho]
    cases rs[k]? with
    | none => rfl
    | some r => simp only [if_neg hd]

/-- What operation k writes, an operation before it in the text either precedes it or neither sees nor writes. -/
theorem write_spec (hall : DAll P T nt base ops (masks ops.toList) A0 H0 rs) {k i o : Nat} {r ri : AV × WEff} (hr : rs[k]? = some r) (hri : rs[i]? = some ri) (hik : i < k) (ho : o ∈ r.2.objs (base + k)) :
    Nat.testBit ((masks ops.toList).getD k 0) i = true ∨
      (hidden base ((masks ops.toList).getD i 0) ((ops.toList[i]?).elim false fun o => heapFree o.op) ((rs.take i).map (·.2)) o = true ∧ o ∉ ri.2.objs (base + i)) := by
  have hk : k < rs.length := (List.getElem?_eq_some_iff.1 hr).1
  have hkl : k < ops.toList.length := by rw [← hall.len]; exact hk
  obtain ⟨_, _, hw⟩ := hall.one k _ r (List.getElem?_eq_getElem hkl) hr
  have hml : (masks ops.toList).length = ops.toList.length := (masks_ok _).len
  have hil : i < ops.toList.length := by omega
  have := writeOk_spec _ 0 _ [] hw (by simp [hml, hall.len]) i ri.2 ((masks ops.toList).getD i 0, heapFree (ops.toList[i]).op) ?_ ?_
  · simp only [Nat.zero_add, List.nil_append] at this
    refine this.imp id fun h => ?_
    have := h o ho
    rw [← List.map_take, List.take_take, Nat.min_eq_left (by omega)] at this
    rw [List.getElem?_eq_getElem hil]
    exact this
  · rw [List.getElem?_map, List.getElem?_take, if_pos hik, hri]; rfl
  · rw [List.getElem?_take, if_pos hik, List.getElem?_zip_eq_some]
    refine ⟨?_, ?_⟩
    · have : i < (masks ops.toList).length := by omega
      simp only [List.getD, List.getElem?_eq_getElem this, Option.getD_some]
    · rw [List.getElem?_map, List.getElem?_eq_getElem hil]; rfl

theorem view_H (hall : DAll P T nt base ops (masks ops.toList) A0 H0 rs) {S : Nat → Bool} (hS : Down ops.toList S) {i : Nat} (hi : i < ops.toList.length) (hn : S i = false)
    (hr : ∀ q, ((masks ops.toList).getD i 0).testBit q = true → S q = true) {o : Nat}
    (ht : hidden base ((masks ops.toList).getD i 0) (heapFree (ops.toList[i]).op) ((rs.take i).map (·.2)) o = false) :
    foldS (stepH base rs) (fun _ => true) i H0 o = foldS (stepH base rs) S ops.toList.length H0 o := by
  rw [stepH_at, stepH_at, ← foldS_lt ops.toList.length _ (by omega)]
  refine foldS_congr _ _ fun k hk => ?_
  have hkr : k < rs.length := by rw [hall.len]; exact hk
  have hir : i < rs.length := by rw [hall.len]; exact hi
  have hrk := List.getElem?_eq_getElem hkr
  by_cases hd : o ∈ (rs[k]).2.objs (base + k)
  · right
    by_cases hki : k = i
    · subst hki; rw [hn]; exact (show Nat.blt k k = false by rw [← Bool.not_eq_true, Nat.blt_eq]; omega)
    · by_cases hlt : k < i
      · have hb : Nat.blt k i = true := by simpa using hlt
        rw [hb]
        simp only [hidden, Bool.or_eq_false_iff] at ht
        have := hiddenGo_false _ 0 k (rs[k]).2 (by rw [List.getElem?_map, List.getElem?_take, if_pos hlt, hrk]; rfl) ht.2 (by simpa using hd)
        exact (hr k (by simpa using this)).symm
      · have hb : Nat.blt k i = false := by rw [← Bool.not_eq_true]; simpa using hlt
        rw [hb]
        rcases write_spec hall hrk (List.getElem?_eq_getElem hir) (by omega) hd with h | h
        · cases hs : S k with
          | false => rfl
          | true => have := hS.pre k hs i h; rw [hn] at this; cases this
        · rw [List.getElem?_eq_getElem hi] at h
          have h1 : hidden base ((masks ops.toList).getD i 0) (heapFree (ops.toList[i]).op) ((rs.take i).map (·.2)) o = true := h.1
          rw [ht] at h1; cases h1
  · left
    intro u
    unfold gH
    rw [hrk]
    simp only [WEff.at_objs hd, Option.getD_none]

theorem insert_A (hall : DAll P T nt base ops (masks ops.toList) A0 H0 rs) {S : Nat → Bool} (hS : Down ops.toList S) {i : Nat} (hi : i < ops.toList.length) (hn : S i = false)
    {r : AV × WEff} (hri : rs[i]? = some r) (hdst : dstOkD nt (badGo i ((masks ops.toList).getD i 0) 0 ops.toList (masks ops.toList)) (ops.toList[i]).dst = true) :
    foldS (stepA ops.toList rs) (fun k => S k || Nat.beq k i) ops.toList.length A0 = updO (foldS (stepA ops.toList rs) S ops.toList.length A0) (ops.toList[i]).dst r.1 := by
  funext t
  rw [stepA_at]
  have hoi := List.getElem?_eq_getElem hi
  by_cases hd : (ops.toList[i]).dst = some t
  · rw [foldS_insert hn _ _ hi]
    · rw [hd]
      simp only [updO, upd_same]
      unfold gA
      rw [hoi, hri]
      simp only [if_pos hd]
    · intro k hk hs
      by_cases hki : k < i
      · exact .inr hki
      · left
        intro u
        have hne : k ≠ i := fun h => by subst h; rw [hn] at hs; cases hs
        have hok := List.getElem?_eq_getElem hk
        have hml : k < (masks ops.toList).length := by rw [(masks_ok _).len]; exact hk
        have hmk : (masks ops.toList)[k]? = some ((masks ops.toList).getD k 0) := by simp [List.getD, hml]
        have hdk : (ops.toList[k]).dst ≠ some t := by
          intro hdk
          rw [hd] at hdst
          simp only [dstOkD, Bool.and_eq_true, Bool.not_eq_true'] at hdst
          have hnot : t ∉ badGo i ((masks ops.toList).getD i 0) 0 ops.toList (masks ops.toList) := fun h => by rw [memB_iff.2 h] at hdst; cases hdst.2
          cases hq : Nat.testBit ((masks ops.toList).getD k 0) i with
          | true => have := hS.pre k hs i hq; rw [hn] at this; cases this
          | false => exact hnot (bad_mem (i := i) (mi := (masks ops.toList).getD i 0) _ _ 0 k _ _ t hok hmk hdk (by omega) (fun h => by omega) (fun _ => hq))
        unfold gA
        rw [hok]
        cases rs[k]? with
        | none => rfl
        | some r => simp only [if_neg hdk]
  · have : updO (foldS (stepA ops.toList rs) S ops.toList.length A0) (ops.toList[i]).dst r.1 t = foldS (stepA ops.toList rs) S ops.toList.length A0 t := by
      cases h : (ops.toList[i]).dst with
      | none => rfl
      | some d => simp only [updO]; exact upd_other _ _ (fun e => hd (by rw [h, e]))
    rw [this, stepA_at]
    refine foldS_congr _ _ fun k hk => ?_
    by_cases hki : k = i
    · subst hki
      left
      intro u
      unfold gA
      rw [hoi, hri]
      simp only [if_neg hd]
    · right
      have : Nat.beq k i = false := by rw [← Bool.not_eq_true, Nat.beq_eq]; exact hki
      simp [this]

theorem insert_H (hall : DAll P T nt base ops (masks ops.toList) A0 H0 rs) {S : Nat → Bool} (hS : Down ops.toList S) {i : Nat} (hi : i < ops.toList.length) (hn : S i = false)
    {r : AV × WEff} (hri : rs[i]? = some r) :
    foldS (stepH base rs) (fun k => S k || Nat.beq k i) ops.toList.length H0 = r.2.go (base + i) (foldS (stepH base rs) S ops.toList.length H0) := by
  funext o
  rw [stepH_at]
  by_cases hd : o ∈ r.2.objs (base + i)
  · rw [foldS_insert hn _ _ hi]
    · unfold gH
      rw [hri]
      simp only [WEff.go]
      rw [stepH_at]
      rfl
    · intro k hk hs
      by_cases hki : k < i
      · exact .inr hki
      · left
        intro u
        have hne : k ≠ i := fun h => by subst h; rw [hn] at hs; cases hs
        have hkr : k < rs.length := by rw [hall.len]; exact hk
        have hrk := List.getElem?_eq_getElem hkr
        have hdk : o ∉ (rs[k]).2.objs (base + k) := by
          intro hdk
          rcases write_spec hall hrk hri (by omega) hdk with h | h
          · have := hS.pre k hs i h; rw [hn] at this; cases this
          · exact h.2 hd
        unfold gH
        rw [hrk]
        simp only [WEff.at_objs hdk, Option.getD_none]
  · have : r.2.go (base + i) (foldS (stepH base rs) S ops.toList.length H0) o = foldS (stepH base rs) S ops.toList.length H0 o := by
      simp only [WEff.go, WEff.at_objs hd, Option.getD_none]
    rw [this, stepH_at]
    refine foldS_congr _ _ fun k hk => ?_
    by_cases hki : k = i
    · subst hki
      left
      intro u
      unfold gH
      rw [hri]
      simp only [WEff.at_objs hd, Option.getD_none]
    · right
      have : Nat.beq k i = false := by rw [← Bool.not_eq_true, Nat.beq_eq]; exact hki
      simp [this]

theorem yieldedM {c0 c : Ctx} {H0 H : Heap} {A : Nat → AV} {M : Nat → Prop} {act : Act} (g : GoodM nt c0 H0 n0 c A H M act) {j t : Nat} {b : Bool} (hj : (ops[j]?).bind (·.dst) = some t) (ht : t < nt)
    (hb : strip (A t) = .sc (.bool b)) : yielded ops act.tmps j = some b := by
  have h1 := g.ev (.tmp t)
  simp only [evA, hb] at h1
  have h2 := h1.sc_inv
  simp only [Act.eval] at h2
  have hlt : t < act.tmps.size := by rw [g.size]; exact ht
  unfold yielded
  rw [hj]
  simp only [Option.bind_some, Array.getElem?_eq_getElem hlt]
  have : act.tmps[t] = .bool b := by simpa [hlt] using h2
  rw [this]

/-- The state when the operations of S have been run. -/
def AtS (base : Nat) (S : Nat → Bool) (q : Nat) : Prop := q < base ∨ ∃ k, S k = true ∧ q = base + k

theorem ready_mem {md : Region.Mode} {listed : Array Bool} {i : Nat} : i ∈ Region.ready md ops listed ↔
    i < ops.size ∧ listed.getD i true = false ∧ ((ops[i]?).map (·.after.all fun e => !Region.binds md e || listed.getD e.on false)).getD false = true := by
  simp [Region.ready]

theorem notWanted {c0 c : Ctx} {H0 H : Heap} {A : Nat → AV} {M : Nat → Prop} {act : Act} (g : GoodM nt c0 H0 n0 c A H M act) {o : Oper} {j t : Nat} {want : Bool} {v : Value} (hg : o.guard = some (j, want)) (hj : (ops[j]?).bind (·.dst) = some t) (ht : t < nt)
    (hb : strip (A t) = .sc v) (hv : boolIs want v = false) : Region.wanted o (yielded ops act.tmps) = false := by
  have h1 := g.ev (.tmp t)
  simp only [evA, hb] at h1
  have h2 := h1.sc_inv
  simp only [Act.eval] at h2
  have hlt : t < act.tmps.size := by rw [g.size]; exact ht
  have h3 : act.tmps[t] = v := by simpa [hlt] using h2
  unfold Region.wanted yielded
  rw [hg]
  simp only [hj, Option.bind_some, Array.getElem?_eq_getElem hlt, h3]
  cases v <;> first | rfl | (simp only [boolIs] at hv; simpa using hv)

theorem notWantedS {c0 c : Ctx} {H0 : Heap} {s : St} {act : Act} (g : Good nt c0 H0 n0 c s act) {o : Oper} {j t : Nat} {want : Bool} {v : Value} (hg : o.guard = some (j, want)) (hj : (ops[j]?).bind (·.dst) = some t) (ht : t < nt)
    (hb : strip (s.A t) = .sc v) (hv : boolIs want v = false) : Region.wanted o (yielded ops act.tmps) = false :=
  notWanted (M := (· < s.n)) ⟨g.inv, g.solo, g.frame, g.ok, g.size, g.defers, g.reach, fun q hq => Nat.lt_of_lt_of_le hq g.le0⟩ hg hj ht hb hv

/-- A guarded operation that is not run. -/
theorem stSkip {s : St} {l : List Oper} {o : Oper} {K : St → Prop} {j t : Nat} {want : Bool} {v : Value} (hg : o.guard = some (j, want)) (hj : (ops[j]?).bind (·.dst) = some t) (ht : Nat.blt t nt = true) (hb : strip (s.A t) = .sc v) (hd : dstOk nt o.dst = true)
    (hv : boolIs want v = false) (hn : SemL P nt n0 ops l K ⟨updO s.A o.dst (.sc undef), s.H, s.n⟩) : SemL P nt n0 ops (o :: l) K s := by
  intro c0 H0 c act g Qx hQ
  have hw := notWantedS g hg hj (by simpa using ht) hb hv
  have := hn c0 H0 c _ (g.next (dstOk_lt hd) (.refl c) rfl (fun b hb => .inl hb) (.refl c s.H) (fun q x hx => .inr ⟨q, x, hx, rfl⟩) g.inv g.solo (Nat.le_refl _) (v := undef) .sc .sc) Qx hQ
  unfold wpList
  rw [if_neg (by rw [hw]; simp)]
  exact this

theorem wanted_none {o : Oper} {ys : Nat → Option Bool} (h : o.guard = none) : Region.wanted o ys = true := by simp [Region.wanted, h]
theorem wanted_some {o : Oper} {ys : Nat → Option Bool} {j : Nat} {want b : Bool} (h : o.guard = some (j, want)) (hy : ys j = some b) : Region.wanted o ys = (b == want) := by
  simp [Region.wanted, h, hy]

theorem drawn_go (hT : TyOk P T) (hpre : preLt 0 ops.toList = true) (hall : DAll P T nt base ops (masks ops.toList) A0 H0 rs) {Q : AExit → St → Prop}
    (hQ : Q .normal ⟨foldS (stepA ops.toList rs) (fun _ => true) ops.toList.length A0, foldS (stepH base rs) (fun _ => true) ops.toList.length H0, base + ops.toList.length⟩)
    {c0 : Ctx} {HH : Heap} (hb0 : n0 ≤ base) :
    ∀ (fuel : Nat) (listed : Array Bool) (L : List Nat) (c : Ctx) (act : Act), listed.size = ops.size → L.length ≤ fuel → (∀ k, k < ops.size → listed.getD k false = false → k ∈ L) →
      (∀ (i : Nat) o, ops.toList[i]? = some o → listed.getD i false = true → ∀ j ∈ preOf o, listed.getD j false = true) →
      GoodM nt c0 HH n0 c (foldS (stepA ops.toList rs) (fun k => listed.getD k false) ops.toList.length A0) (foldS (stepH base rs) (fun k => listed.getD k false) ops.toList.length H0)
        (AtS base (fun k => listed.getD k false)) act →
      wpAny P .any ops (CQ nt c0 HH n0 Q) fuel listed act c.w := by
  have hlen : ops.toList.length = ops.size := Array.length_toList
  have fin : ∀ (listed : Array Bool) (c : Ctx) (act : Act), listed.size = ops.size → (∀ (i : Nat) o, ops.toList[i]? = some o → listed.getD i false = true → ∀ j ∈ preOf o, listed.getD j false = true) →
      GoodM nt c0 HH n0 c (foldS (stepA ops.toList rs) (fun k => listed.getD k false) ops.toList.length A0) (foldS (stepH base rs) (fun k => listed.getD k false) ops.toList.length H0)
        (AtS base (fun k => listed.getD k false)) act → Region.ready .any ops listed = [] → CQ nt c0 HH n0 Q .normal act c.w := by
    intro listed c act hsz hdown g hr
    have hfull : ∀ k, k < ops.size → listed.getD k false = true := by
      intro k
      induction k using Nat.strongRecOn with
      | _ k ih =>
        intro hk
        cases hl : listed.getD k false with
        | true => rfl
        | false =>
          have hkl : k < listed.size := by omega
          have hmem : k ∈ Region.ready .any ops listed := by
            rw [ready_mem]
            refine ⟨hk, ?_, ?_⟩
            · simp only [Array.getD_eq_getD_getElem?, Array.getElem?_eq_getElem hkl, Option.getD_some] at hl ⊢
              exact hl
            · rw [Array.getElem?_eq_getElem hk]
              simp only [Option.map_some, Option.getD_some]
              rw [Array.all_eq_true_iff_forall_mem]
              intro e he
              cases hbd : Region.binds .any e with
              | false => rfl
              | true =>
                have hpk : ops.toList[k]? = some ops[k] := by simp [hk]
                have hin : e.on ∈ preOf ops[k] := List.mem_map.2 ⟨e, List.mem_filter.2 ⟨by simpa using he, hbd⟩, rfl⟩
                have hlt := preLt_spec _ 0 hpre k _ hpk e.on hin
                rw [ih e.on (by omega) (by omega)]
                rfl
          rw [hr] at hmem; cases hmem
    have hcongr : ∀ k, k < ops.toList.length → listed.getD k false = true := fun k hk => hfull k (by omega)
    refine ⟨c, ⟨_, _, _⟩, .normal, rfl, ?_, rfl, hQ⟩
    have hA : foldS (stepA ops.toList rs) (fun k => listed.getD k false) ops.toList.length A0 = foldS (stepA ops.toList rs) (fun _ => true) ops.toList.length A0 :=
      foldS_congr _ _ fun k hk => .inr (hcongr k hk)
    have hH : foldS (stepH base rs) (fun k => listed.getD k false) ops.toList.length H0 = foldS (stepH base rs) (fun _ => true) ops.toList.length H0 :=
      foldS_congr _ _ fun k hk => .inr (hcongr k hk)
    rw [hA, hH] at g
    have hM : ∀ q, AtS base (fun k => listed.getD k false) q → q < base + ops.toList.length := by
      rintro q (h | ⟨k, hk, rfl⟩)
      · omega
      · have : k < listed.size := by
          cases Nat.lt_or_ge k listed.size with
          | inl h => exact h
          | inr h => simp [Array.getD_eq_getD_getElem?, Array.getElem?_eq_none h] at hk
        omega
    exact ⟨g.inv.more hM, g.solo, g.frame, fun t => (g.ok t).mono hM, g.size, g.defers, g.reach, by show n0 ≤ base + _; omega⟩
  intro fuel
  induction fuel with
  | zero =>
    intro listed L c act hsz hL hin hdown g
    have hnil : L = [] := List.length_eq_zero_iff.1 (by omega)
    subst hnil
    have hr : Region.ready .any ops listed = [] := by
      rw [List.eq_nil_iff_forall_not_mem]
      intro i hi
      rw [ready_mem] at hi
      obtain ⟨h1, h2, _⟩ := hi
      have := hin i h1 (by
        have hil : i < listed.size := by omega
        simp only [Array.getD_eq_getD_getElem?, Array.getElem?_eq_getElem hil, Option.getD_some] at h2 ⊢
        exact h2)
      cases this
    exact ⟨hr, fin listed c act hsz hdown g hr⟩
  | succ fuel ih =>
    intro listed L c act hsz hL hin hdown g
    refine ⟨fin listed c act hsz hdown g, fun i hi => ?_⟩
    rw [ready_mem] at hi
    obtain ⟨h1, h2, h3⟩ := hi
    have hil : i < listed.size := by omega
    have hli : listed.getD i false = false := by
      simp only [Array.getD_eq_getD_getElem?, Array.getElem?_eq_getElem hil, Option.getD_some] at h2 ⊢
      exact h2
    have hi' : i < ops.toList.length := by omega
    have hoi : ops.toList[i]? = some ops.toList[i] := List.getElem?_eq_getElem hi'
    have hoa : ops[i]? = some ops.toList[i] := by rw [← Array.getElem?_toList]; exact hoi
    have hprei : ∀ j ∈ preOf ops.toList[i], listed.getD j false = true := by
      intro j hj
      obtain ⟨e, he, rfl⟩ := List.mem_map.1 hj
      obtain ⟨he1, he2⟩ := List.mem_filter.1 he
      rw [hoa] at h3
      simp only [Option.map_some, Option.getD_some] at h3
      rw [Array.all_eq_true_iff_forall_mem] at h3
      have := h3 e (by simpa using he1)
      rw [he2] at this
      simpa using this
    have hpl : ∀ (i : Nat) o, ops.toList[i]? = some o → ∀ j ∈ preOf o, j < i := fun i o ho j hj => by
      have := preLt_spec _ 0 hpre i o ho j hj; omega
    have hcm := closed_masks (S := fun k => listed.getD k false) hpl hdown
    have hS : Down ops.toList (fun k => listed.getD k false) := by
      refine ⟨fun k hk => ?_, fun k hk q hq => ?_⟩
      · cases Nat.lt_or_ge k listed.size with
        | inl h => omega
        | inr h => simp [Array.getD_eq_getD_getElem?, Array.getElem?_eq_none h] at hk
      · have hkl : k < ops.toList.length := by
          cases Nat.lt_or_ge k listed.size with
          | inl h => omega
          | inr h => simp [Array.getD_eq_getD_getElem?, Array.getElem?_eq_none h] at hk
        exact (hcm k _ (List.getElem?_eq_getElem hkl) (hdown k _ (List.getElem?_eq_getElem hkl) hk) q hq).1
    have hri : ∀ q, ((masks ops.toList).getD i 0).testBit q = true → listed.getD q false = true := fun q hq => (hcm i _ hoi hprei q hq).1
    have hirs : i < rs.length := by rw [hall.len]; exact hi'
    obtain ⟨hdst, hone, _⟩ := hall.one i _ _ hoi (List.getElem?_eq_getElem hirs)
    have hdlt : ∀ d, (ops.toList[i]).dst = some d → d < nt := by
      intro d hd
      rw [hd] at hdst
      simp only [dstOkD, Bool.and_eq_true] at hdst
      simpa using hdst.1
    have hA : ∀ t, frD (badGo i ((masks ops.toList).getD i 0) 0 ops.toList (masks ops.toList)) (foldS (stepA ops.toList rs) (fun _ => true) i A0) t = foldS (stepA ops.toList rs) (fun k => listed.getD k false) ops.toList.length A0 t ∨
        frD (badGo i ((masks ops.toList).getD i 0) 0 ops.toList (masks ops.toList)) (foldS (stepA ops.toList rs) (fun _ => true) i A0) t = .junk := by
      intro t
      unfold frD
      cases ht : memB t (badGo i ((masks ops.toList).getD i 0) 0 ops.toList (masks ops.toList)) with
      | true => exact .inr rfl
      | false => exact .inl (view_A hall hS hi' hli hri ht)
    have hV : ∀ o x, hpD base ((masks ops.toList).getD i 0) (heapFree (ops.toList[i]).op) ((rs.take i).map (·.2)) (foldS (stepH base rs) (fun _ => true) i H0) o = some x →
        foldS (stepH base rs) (fun k => listed.getD k false) ops.toList.length H0 o = some x := by
      intro o x hx
      unfold hpD at hx
      cases ht : hidden base ((masks ops.toList).getD i 0) (heapFree (ops.toList[i]).op) ((rs.take i).map (·.2)) o with
      | true => rw [ht] at hx; cases hx
      | false =>
        rw [ht, cond_false] at hx
        rw [← view_H hall hS hi' hli hri ht]
        exact hx
    have hid : ¬ AtS base (fun k => listed.getD k false) (base + i) := by
      rintro (h | ⟨k, hk, h⟩)
      · omega
      · have : k = i := by omega
        subst this
        have hk' : listed.getD k false = true := hk
        rw [hli] at hk'; cases hk'
    have hMb : ∀ q, AtS base (fun k => listed.getD k false) q → q < base + ops.toList.length := by
      rintro q (h | ⟨k, hk, rfl⟩)
      · omega
      · have := hS.lt k hk; omega
    have hset : ∀ k, (listed.setIfInBounds i true).getD k false = (listed.getD k false || Nat.beq k i) := by
      intro k
      simp only [Array.getD_eq_getD_getElem?]
      by_cases hk : k = i
      · subst hk
        rw [Array.getElem?_setIfInBounds_self, if_pos hil]
        simp
      · rw [Array.getElem?_setIfInBounds_ne (fun e => hk e.symm)]
        have : Nat.beq k i = false := by rw [← Bool.not_eq_true, Nat.beq_eq]; exact hk
        rw [this, Bool.or_false]
    have hfn : (fun k => (listed.setIfInBounds i true).getD k false) = (fun k => listed.getD k false || Nat.beq k i) := funext hset
    -- what follows when the operation has left its value
    have after : ∀ (c' : Ctx) (v : Value) (e : WEff), e = (rs[i]).2 →
        GoodM nt c0 HH n0 c' (updO (foldS (stepA ops.toList rs) (fun k => listed.getD k false) ops.toList.length A0) (ops.toList[i]).dst (rs[i]).1)
          (e.go (base + i) (foldS (stepH base rs) (fun k => listed.getD k false) ops.toList.length H0)) (fun q => AtS base (fun k => listed.getD k false) q ∨ q = base + i) (act.put (ops.toList[i]).dst v) →
        wpAny P .any ops (CQ nt c0 HH n0 Q) fuel (listed.setIfInBounds i true) (act.put (ops.toList[i]).dst v) c'.w := by
      rintro c' v _ rfl g'
      have hiL : i ∈ L := hin i h1 hli
      refine ih _ (L.erase i) c' _ (by simpa using hsz) (by rw [List.length_erase_of_mem hiL]; omega) ?_ ?_ ?_
      · intro k hk hlk
        rw [hset] at hlk
        have h4 := Bool.or_eq_false_iff.1 hlk
        have hne : k ≠ i := fun h => by subst h; simp at h4
        exact (List.mem_erase_of_ne hne).2 (hin k hk h4.1)
      · intro k o ho hk j hj
        rw [hset] at hk ⊢
        rcases Bool.or_eq_true_iff.1 hk with hk | hk
        · rw [hdown k o ho hk j hj]; rfl
        · have : k = i := by simpa using hk
          subst this
          rw [hoi] at ho; cases ho
          rw [hprei j hj]; rfl
      · rw [hfn, insert_A hall hS hi' hli (List.getElem?_eq_getElem hirs) hdst, insert_H hall hS hi' hli (List.getElem?_eq_getElem hirs)]
        have hMM : (AtS base fun k => listed.getD k false || Nat.beq k i) = (fun q => AtS base (fun k => listed.getD k false) q ∨ q = base + i) := by
          funext q
          apply propext
          constructor
          · rintro (h | ⟨k, hk, rfl⟩)
            · exact .inl (.inl h)
            · rcases Bool.or_eq_true_iff.1 hk with hk | hk
              · exact .inl (.inr ⟨k, hk, rfl⟩)
              · have : k = i := by simpa using hk
                exact .inr (by rw [this])
          · rintro ((h | ⟨k, hk, rfl⟩) | rfl)
            · exact .inl h
            · exact .inr ⟨k, by simp [hk], rfl⟩
            · exact .inr ⟨i, by simp, rfl⟩
        rw [hMM]
        exact g'
    unfold wpOp
    rw [hoa]
    simp only []
    have gj := g.junk hA
    generalize hre : (rs[i]).2 = ef at hone after
    generalize hra : (rs[i]).1 = av at hone after
    cases hone with
    | @run a e hg h =>
      have hw : Region.wanted (ops.toList[i]) (yielded ops act.tmps) = true := by
        rcases hg with hg | ⟨j, t, want, hg, hj, ht, hb⟩
        · exact wanted_none hg
        · rw [wanted_some hg (yieldedM gj hj ht hb)]; simp
      rw [if_pos hw]
      left
      refine DOp.step hT g hMb hA hV hid h hdlt _ _ fun c' v g' => ?_
      exact after c' v _ rfl g'
    | @skip j t want v hg hj ht hb hbw =>
      have hw : Region.wanted (ops.toList[i]) (yielded ops act.tmps) = false := notWanted gj hg hj ht hb hbw
      rw [if_neg (by rw [hw]; simp)]
      refine after c undef _ rfl ?_
      rw [WEff.go_none]
      exact g.next hdlt (.refl c) rfl (fun b hb => .inl hb) (.refl c _) (fun q x hx => .inr ⟨q, x, hx, rfl⟩) (g.inv.more fun q h => .inl h) g.solo (fun q => .inl) .sc .sc

theorem Good.drew {c0 c : Ctx} {s : St} {act : Act} {HH : Heap} (g : Good nt c0 HH n0 c s act) : Good nt c0 HH n0 { c with w := { c.w with drawn := c.w.drawn + 1 } } s act := by
  have hle : c.Le (fun _ => True) { c with w := { c.w with drawn := c.w.drawn + 1 } } := ⟨fun _ _ => rfl, fun _ h => h, fun _ h => h, fun _ _ => rfl, rfl⟩
  have all : ∀ {a : AV} {M : Nat → Prop}, a.Ok M → a.Ok (fun _ => True) := fun h => h.mono fun _ _ => trivial
  have r := g.reach
  refine ⟨⟨fun o x hx => ?_, g.inv.sep, g.inv.stab, g.inv.lt, g.inv.base, g.inv.own, g.inv.low⟩, g.solo, fun t => (g.frame t).mono hle (.inr (all (g.ok t))), g.ok, g.size, g.defers, ⟨r.rho, r.os, r.tape, r.output, r.size, r.block, r.stable, r.sa, r.so1, r.so2, r.B, r.own⟩, g.le0⟩
  obtain ⟨h1, ⟨⟨cur, hb, hs, hc⟩, h3, h4, h5⟩, h6⟩ := g.inv.obj o x hx
  refine ⟨h1, ⟨⟨cur, hb, hs, fun i e he => ?_⟩, h3, h4, h5⟩, h6⟩
  obtain ⟨g1, g2⟩ := hc i e he
  exact ⟨g1, fun k a ha => by obtain ⟨v, hv, hr, h7⟩ := g2 k a ha; exact ⟨v, hv, hr.mono hle (.inr (all (h6 e (List.mem_of_getElem? he) a (List.mem_of_getElem? ha)))), h7⟩⟩

/-- A region whose order is drawn. -/
theorem SemC.drawn {s : St} {id : Nat} {Q : AExit → St → Prop} {A' : Nat → AV} {H' : Heap} (hm : P.follows .mixedOrders = true) (hT : TyOk P T) (hpre : preLt 0 ops.toList = true)
    (hrun : DRun P T nt s.n ops (masks ops.toList) 0 ops.toList s.A s.H [] A' H') (hQ : Q .normal ⟨A', H', s.n + ops.toList.length⟩) : SemC P nt n0 (.region id ops true) Q s := by
  obtain ⟨rs, hall, hA, hH⟩ := hrun.all s.A s.H [] (Nat.zero_le _) rfl rfl rfl rfl rfl (fun k o r _ hr => by simp at hr)
  subst hA hH
  intro c0 HH c act g0
  have g := g0.drew
  refine wp_region_any hm ?_
  have hz : ∀ k, (Array.replicate ops.size false).getD k false = false := by
    intro k
    simp only [Array.getD_eq_getD_getElem?, Array.getElem?_replicate]
    split <;> rfl
  have hfn : (fun k => (Array.replicate ops.size false).getD k false) = (fun _ => false) := funext hz
  refine drawn_go hT hpre hall hQ g.le0 ops.size _ (List.range ops.size) { c with w := { c.w with drawn := c.w.drawn + 1 } } act (by simp) (by simp) (fun k hk _ => List.mem_range.2 hk) (fun i o _ h => by rw [hz] at h; cases h) ?_
  rw [hfn, foldS_none, foldS_none]
  have hM : ∀ q, q < s.n → AtS s.n (fun _ => false) q := fun q h => .inl h
  exact ⟨g.inv.more hM, g.solo, g.frame, fun t => (g.ok t).mono hM, g.size, g.defers, g.reach, fun q hq => hM q (Nat.lt_of_lt_of_le hq g.le0)⟩
end
end Go.Av
