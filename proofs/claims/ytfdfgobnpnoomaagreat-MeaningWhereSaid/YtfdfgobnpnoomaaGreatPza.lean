/- Parts of the proof, laid together. -/
import Derived.Test.YtfdfgobnpnoomaaGreatDFunZ
set_option linter.all false

namespace Go.D
theorem X18 {z : Int} (h1 : -9223372036854775808 <= z) (h2 : z <= 9223372036854775807) : IntKind.i64.wrap z = z := Go.IntWalk.i64_in z ⟨h1, h2⟩
theorem X3y {n : Nat} (h : n <= 140737488355328) : X5e n = some () := by unfold X5e; rw [if_pos h]
theorem X5f {n b : Nat} (h : n * b <= 140737488355328) : X2i n b = some () := by unfold X2i; rw [if_pos h]
theorem X6c {α : Type} (l : List α) (k : Nat) : X2o l (k : Int) = l[k]? := by simp [X2o]
def ltE (a b : Xb) : Prop := a.Span.End < b.Span.End \/ a.Span.End = b.Span.End /\ (a.Span.Start < b.Span.Start \/ a.Span.Start = b.Span.Start /\ a.Key < b.Key)
instance (a b : Xb) : Decidable (ltE a b) := by unfold ltE; infer_instance
def X5n (a b : Xb) : Prop := a.Key = b.Key /\ a.Span = b.Span
instance (a b : Xb) : Decidable (X5n a b) := by unfold X5n; infer_instance
theorem Xia {a b : X13} (h1 : a.Start = b.Start) (h2 : a.End = b.End) : a = b := by cases a; cases b; simp_all
theorem Xj8 {a b c : Xb} (h : ltE a b) (k : ltE b c) : ltE a c := by unfold ltE at *; omega
theorem Xgo (a : Xb) : ¬ ltE a a := by unfold ltE; omega
theorem Xv9 {a b : Xb} (h : ltE a b) : ¬ ltE b a := by unfold ltE at *; omega
theorem Xj9 {a b : Xb} : ltE a b \/ X5n a b \/ ltE b a := by
 by_cases h : X5n a b
 ·exact .inr (.inl h)
 ·have : ¬ (a.Key = b.Key /\ a.Span.Start = b.Span.Start /\ a.Span.End = b.Span.End) := fun ⟨h1, h2, h3⟩ => h ⟨h1, Xia h2 h3⟩
  unfold ltE; omega
theorem sameK_ltE {a b c : Xb} (h : X5n a b) : ltE c a ↔ ltE c b := by unfold X5n at h; unfold ltE; rw [h.1, h.2]
theorem Xbk {a b c : Xb} (h : X5n a b) : ltE a c ↔ ltE b c := by unfold X5n at h; unfold ltE; rw [h.1, h.2]
theorem Xar {a b : Xb} (h : X5n a b) : ¬ ltE a b := by unfold X5n at h; unfold ltE; rw [h.1, h.2]; omega
def cmpI (a b : Int) : Int := if a < b then -1 else if a > b then 1 else 0
theorem X035 (a b : Int) : X36 a b = some (cmpI a b) := by
 simp only [X36, X63, bne_self_eq_false, Yo, cond_false, cmpI]
 by_cases h1 : a < b
 ·simp [h1]
 ·by_cases h2 : a > b
  ·simp [h1, h2]
  ·simp [h1, h2]
def Xx1 (a b : Xb) : Int := if ltE a b then -1 else if ltE b a then 1 else 0
theorem Xb1 (a b : Xb) : X6t a b = some (Xx1 a b) := by
 simp only [X6t, X035, Yo, Xed, X69, List.length_cons, List.length_nil]
 rw [X3y (by omega)]
 simp only [Yo, Xx1, ltE, cmpI]
 by_cases h1 : a.Span.End < b.Span.End
 ·simp [h1]
 ·by_cases h2 : a.Span.End > b.Span.End
  ·have : ¬ a.Span.End = b.Span.End := by omega
   simp [h1, h2, this]
  ·have he : a.Span.End = b.Span.End := by omega
   by_cases h3 : a.Span.Start < b.Span.Start
   ·simp [he, h3]
   ·by_cases h4 : a.Span.Start > b.Span.Start
    ·have : ¬ a.Span.Start = b.Span.Start := by omega
     simp [he, h3, h4, this]
    ·have hs : a.Span.Start = b.Span.Start := by omega
     by_cases h5 : a.Key < b.Key
     ·simp [he, hs, h5]
     ·by_cases h6 : a.Key > b.Key
      ·simp [he, hs, h5, h6]
      ·simp [he, hs, h5, h6]
theorem Xpg {a b : Xb} : Xx1 a b < 0 ↔ ltE a b := by
 unfold Xx1
 by_cases h : ltE a b
 ·simp [h]
 ·by_cases h2 : ltE b a <;> simp [h, h2]
theorem X00a {a b : Xb} : Xx1 a b = 0 ↔ X5n a b := by
 unfold Xx1
 by_cases h : ltE a b
 ·simp [h]; exact fun hs => Xar hs h
 ·by_cases h2 : ltE b a
  ·simp [h, h2]; exact fun hs => h ((Xbk hs).2 ((sameK_ltE hs).1 h2))
  ·simp [h, h2]
   rcases Xj9 (a := a) (b := b) with h3 | h3 | h3
   ·exact absurd h3 h
   ·exact h3
   ·exact absurd h3 h2
theorem X009 {a b : Xb} : 0 <= Xx1 a b ↔ ¬ ltE a b := by rw [<- Xpg]; omega
def okA (a : X1j) : Prop := (a.Count = 0 /\ a = ⟨0, 0, 0, 0⟩) \/ (a.Count = 1 /\ a.Sum = a.Min /\ a.Sum = a.Max) \/ (1 < a.Count /\ a.Count <= 1073741824 /\ a.Min <= a.Max)
theorem X0l {a : X1j} (h : okA a) : X3p a = some 0 := by
 rcases h with ⟨h1, h2⟩ | ⟨h1, h2, h3⟩ | ⟨h1, h2, h3⟩
 ·subst h2; rfl
 ·have h3' : a.Min = a.Max := by omega
  simp [X3p, h1, h2, h3']
 ·have e0 : (a.Count == 0) = false := by simp; omega
  have e1 : (a.Count == 1) = false := by simp; omega
  simp [X3p, e0, e1, h1, h2, h3]
def X48 (a b : X1j) : X1j :=
 if a.Count = 0 then b else if b.Count = 0 then a else ⟨a.Count + b.Count, IntKind.i64.wrap (a.Sum + b.Sum), if b.Min < a.Min then b.Min else a.Min, if b.Max > a.Max then b.Max else a.Max⟩
theorem Xbo {a : X1j} (h : okA a) : 0 <= a.Count /\ a.Count <= 1073741824 := by
 rcases h with ⟨h1, _⟩ | ⟨h1, _⟩ | ⟨h1, h2, _⟩ <;> omega
theorem X1g {a b : X1j} (ha : okA a) (hb : okA b) (hc : a.Count + b.Count <= 1073741824) : X2s a b = some (X48 a b, 0) := by
 have h1 := Xbo ha
 have h2 := Xbo hb
 simp only [X2s, X0l ha, X0l hb, Yo, bne_self_eq_false, cond_false, X48]
 rw [X18 (by omega) (by omega)]
 have e0 : decide (a.Count + b.Count > 1073741824) = false := by simp; omega
 rw [e0, cond_false]
 by_cases h3 : a.Count = 0
 ·have e1 : (a.Count == 0) = true := by simp [h3]
  rw [e1, cond_true, if_pos h3]
 ·have e1 : (a.Count == 0) = false := by simp [h3]
  rw [e1, cond_false, if_neg h3]
  by_cases h4 : b.Count = 0
  ·have e2 : (b.Count == 0) = true := by simp [h4]
   rw [e2, cond_true, if_pos h4]
  ·have e2 : (b.Count == 0) = false := by simp [h4]
   rw [e2, cond_false, if_neg h4]
theorem Xuz {a : X1j} (h : okA a) : a.Min <= a.Max := by
 rcases h with ⟨_, h2⟩ | ⟨_, h2, h3⟩ | ⟨_, _, h3⟩
 ·subst h2; decide
 ·omega
 ·exact h3
theorem Xxn {a b : X1j} (ha : okA a) (hb : okA b) (hc : a.Count + b.Count <= 1073741824) : okA (X48 a b) := by
 unfold X48
 have h1 := Xbo ha
 have h2 := Xbo hb
 by_cases h3 : a.Count = 0
 ·rw [if_pos h3]; exact hb
 ·rw [if_neg h3]
  by_cases h4 : b.Count = 0
  ·rw [if_pos h4]; exact ha
  ·rw [if_neg h4]
   have m1 := Xuz ha
   have m2 := Xuz hb
   refine .inr (.inr ⟨?_, hc, ?_⟩)
   ·show 1 < a.Count + b.Count; omega
   ·show (if b.Min < a.Min then b.Min else a.Min) <= (if b.Max > a.Max then b.Max else a.Max)
    split <;> split <;> omega
def okE (x : Xb) : Prop := -1100585369600 <= x.Span.Start /\ x.Span.Start < x.Span.End /\ x.Span.End <= 1100585369600 /\ okA x.Values.e0 /\ okA x.Values.e1 /\ 0 < x.Values.e0.Count + x.Values.e1.Count
theorem X6h {x : Xb} (h : okE x) : X9q x = some true := by
 obtain ⟨h1, h2, h3, h4, h5, h6⟩ := h
 have c1 := Xbo h4
 have c2 := Xbo h5
 have e1 : ¬ x.Span.Start < -1100585369600 := by omega
 have e2 : ¬ x.Span.End <= x.Span.Start := by omega
 have e3 : ¬ x.Span.End > 1100585369600 := by omega
 simp only [X9q, X0l h4, X0l h5, Yo]
 rw [X18 (by omega) (by omega)]
 have e3 : ¬ 1100585369600 < x.Span.End := by omega
 simp [e1, e2, e3, h6]
theorem X85 (l : List Xb) (hs : l.Pairwise ltE) (ho : ∀ x ∈ l, okE x) (hn : l.length <= 1000000) : ∀ (xs : List Xb) (k : Nat), l.drop k = xs -> X4d l xs k = some .x0 := by
 intro xs
 induction xs with
 | nil => intro k _; rfl
 | cons x xs ih =>
  intro k hk
  have hlt : k < l.length := by
   rcases Nat.lt_or_ge k l.length with h | h
   ·exact h
   ·rw [List.drop_eq_nil_of_le h] at hk; cases hk
  have hx : l[k]? = some x := by have := congrArg List.head? hk; simpa [List.head?_drop] using this
  have hmem : x ∈ l := Yg hx
  have hnext : l.drop (k + 1) = xs := by rw [<- List.tail_drop, hk]; rfl
  rw [X4d]
  simp only [X6h (ho x hmem), Yo, Bool.not_true, cond_false, cond_true]
  by_cases h0 : k = 0
  ·subst h0
   simp only [Int.ofNat_zero, Int.cast_ofNat_Int, gt_iff_lt, Int.lt_irrefl, decide_false, cond_false, Yo]
   exact ih 1 hnext
  ·have hpos : decide ((k : Int) > 0) = true := by simp; omega
   rw [hpos, cond_true]
   have hw : IntKind.i64.wrap ((k : Int) - 1) = ((k - 1 : Nat) : Int) := by rw [X18 (by omega) (by omega)]; omega
   rw [hw, X6c]
   have hp : l[k - 1]? = some l[k - 1] := Ye (by omega)
   rw [hp]
   have hlt2 : ltE l[k - 1] x := by
    have h3 := List.pairwise_iff_getElem.1 hs (k - 1) k (by omega) hlt (by omega)
    have : l[k] = x := by rw [Ye hlt] at hx; exact Option.some.inj hx
    rwa [this] at h3
   have hord : ¬ (0 <= Xx1 l[k - 1] x) := by rw [X009]; exact fun h => h hlt2
   simp only [Yo, Xb1, ge_iff_le, hord, decide_false, cond_false]
   exact ih (k + 1) hnext
theorem X2n {l : List Xb} (hs : l.Pairwise ltE) (ho : ∀ x ∈ l, okE x) (hn : l.length <= 4000) : X9r l = some 0 := by
 unfold X9r
 have : ¬ ((l.length : Int) > 4000) := by omega
 simp only [this, decide_false, cond_false]
 rw [X3y (by omega), X85 l hs ho (by omega) l 0 rfl]
 rfl
theorem X02l {i j : Nat} (h : i + j <= 1000000) : IntKind.i64.wrap (Int.fdiv (IntKind.u64.wrap (IntKind.i64.wrap ((i : Int) + (j : Int)))) (2 ^ (min (Int.toNat 1) IntKind.u64.bits))) = (((i + j) / 2 : Nat) : Int) := by
 have h1 : IntKind.i64.wrap ((i : Int) + (j : Int)) = (i : Int) + j := X18 (by omega) (by omega)
 rw [h1]
 have h2 : IntKind.u64.wrap ((i : Int) + j) = (i : Int) + j := Go.IntWalk.u64_in _ ⟨by omega, by omega⟩
 rw [h2]
 have h3 : (min (Int.toNat 1) IntKind.u64.bits) = 1 := by decide
 rw [h3]
 have h4 : Int.fdiv ((i : Int) + j) (2 ^ 1) = (((i + j) / 2 : Nat) : Int) := by
  rw [Int.fdiv_eq_ediv_of_nonneg _ (by decide)]
  omega
 rw [h4, X18 (by omega) (by omega)]
theorem X059 (l : List Xb) (x : Xb) (c : Nat) (n : Int) (hn : l.length <= 400000) (hc : ∀ (k : Nat) y, l[k]? = some y -> (ltE y x ↔ k < c)) : ∀ (f i j : Nat), i <= c -> c <= j -> j <= l.length -> j - i < f ->
  X07 l x n f i j = some (.x0 c) := by
 intro f
 induction f with
 | zero => intro i j _ _ _ h; omega
 | succ f ih =>
  intro i j h1 h2 h3 h4
  rw [X07]
  by_cases hij : i < j
  ·have hd : decide ((i : Int) < (j : Int)) = true := by simp; exact hij
   rw [hd, cond_true, X02l (by omega), X6c]
   have hm : (i + j) / 2 < l.length := by omega
   rw [Ye hm]
   simp only [Yo, Xb1]
   have hcc := hc ((i + j) / 2) _ (Ye hm)
   by_cases hl : ltE l[(i + j) / 2] x
   ·have : Xx1 l[(i + j) / 2] x < 0 := Xpg.2 hl
    simp only [this, decide_true, cond_true]
    rw [X18 (by omega) (by omega)]
    have := hcc.1 hl
    have h5 := ih ((i + j) / 2 + 1) j (by omega) h2 h3 (by omega)
    simpa using h5
   ·have : ¬ Xx1 l[(i + j) / 2] x < 0 := fun h => hl (Xpg.1 h)
    simp only [this, decide_false, cond_false]
    have : ¬ (i + j) / 2 < c := fun h => hl (hcc.2 h)
    exact ih i ((i + j) / 2) h1 (by omega) (by omega) (by omega)
  ·have hd : decide ((i : Int) < (j : Int)) = false := by simp; omega
   rw [hd, cond_false]
   have : i = c := by omega
   rw [this]
def cnt (l : List Xb) (x : Xb) : Nat := (l.takeWhile fun y => decide (ltE y x)).length
theorem Xwi (l : List Xb) (x : Xb) : cnt l x <= l.length := by unfold cnt; exact (List.takeWhile_sublist _).length_le
theorem X01i {l : List Xb} {x : Xb} (hs : l.Pairwise ltE) : ∀ (k : Nat) y, l[k]? = some y -> (ltE y x ↔ k < cnt l x) := by
 induction l with
 | nil => intro k y h; simp at h
 | cons z l ih =>
  intro k y h
  rw [List.pairwise_cons] at hs
  unfold cnt
  by_cases hz : ltE z x
  ·rw [List.takeWhile_cons_of_pos (by simpa using hz)]
   cases k with
   | zero => simp at h; subst h; simp [hz]
   | succ k =>
    simp at h
    have := ih hs.2 k y h
    unfold cnt at this
    rw [this]; simp
  ·rw [List.takeWhile_cons_of_neg (by simpa using hz)]
   simp only [List.length_nil, Nat.not_lt_zero, iff_false]
   cases k with
   | zero => simp at h; subst h; exact hz
   | succ k =>
    simp at h
    exact fun hy => hz (Xj8 (hs.1 y (Yg h)) hy)
theorem X036 {l : List Xb} {x : Xb} (hs : l.Pairwise ltE) (hn : l.length <= 50000) :
  Xr l x = some ((cnt l x : Int), match l[cnt l x]? with | some y => decide (X5n y x) | none => false) := by
 unfold Xr
 have h0 := X059 l x (cnt l x) (l.length : Int) (by omega) (X01i hs) FU 0 l.length (by omega) (Xwi l x) (Nat.le_refl _) (by unfold FU; omega)
 rw [show ((0 : Nat) : Int) = 0 from rfl] at h0
 rw [h0]
 simp only [Yo]
 by_cases hlt : cnt l x < l.length
 ·have hd : decide ((cnt l x : Int) < (l.length : Int)) = true := by simp; exact hlt
  rw [hd, X6c, Ye hlt]
  simp only [cond_true, Yo, Xb1]
  congr 2
  rw [Bool.eq_iff_iff]
  simp [X00a]
 ·have hd : decide ((cnt l x : Int) < (l.length : Int)) = false := by simp; omega
  rw [hd, List.getElem?_eq_none (by omega)]
  rfl
end Go.D


namespace Go.D
def Xll (y x : Xb) : Xb := ⟨y.Key, y.Span, ⟨X48 y.Values.e0 x.Values.e0, X48 y.Values.e1 x.Values.e1⟩⟩
def Xma : List Xb -> Xb -> List Xb
 | [], x => [x]
 | y :: l, x => if ltE y x then y :: Xma l x else if X5n y x then Xll y x :: l else x :: y :: l
theorem Xuw {l : List Xb} {x : Xb} (hs : l.Pairwise ltE) :
  Xma l x = (match l[cnt l x]? with
   | none => l ++ [x]
   | some y => if X5n y x then l.set (cnt l x) (Xll y x) else l.take (cnt l x) ++ x :: l.drop (cnt l x)) := by
 induction l with
 | nil => rfl
 | cons z l ih =>
  rw [List.pairwise_cons] at hs
  unfold Xma
  by_cases hz : ltE z x
  ·have hc : cnt (z :: l) x = cnt l x + 1 := by unfold cnt; rw [List.takeWhile_cons_of_pos (by simpa using hz)]; rfl
   rw [if_pos hz, hc, ih hs.2]
   simp only [List.getElem?_cons_succ]
   cases h : l[cnt l x]? with
   | none => rfl
   | some y =>
    simp only
    split
    ·rfl
    ·rfl
  ·have hc : cnt (z :: l) x = 0 := by unfold cnt; rw [List.takeWhile_cons_of_neg (by simpa using hz)]; rfl
   rw [if_neg hz, hc]
   simp only [List.getElem?_cons_zero]
   split <;> rfl
def putF (l : List Xb) (x : Xb) : Option (List Xb × Int) :=
 (Xr l x).bind fun v1393 => bif (!v1393.2) then (bif (v1393.1 == (List.length l : Int)) then (((X7f l v1393.1 (List.length l : Int)).bind fun m1405 => bif (List.isEmpty m1405) then ((X2i (List.length (l ++ [x])) 88).bind fun u1408 => some ()) else ((X2i (List.length (l ++ [x])) 88).bind fun u1410 => some ()) : Option (Unit)).bind fun _ => some ((l ++ [x]), 0)) else ((Xt2 l v1393.1 x 88).bind fun m1413 => some (m1413, 0))) else ((X2o l v1393.1).bind fun e1415 => ((X2s e1415.Values.e0 x.Values.e0).bind fun v1430 => bif (v1430.2 != (0 : Int)) then (some (l, v1430.2)) else ((X2s (((Xb.mk e1415.Key e1415.Span (V2.mk v1430.1 e1415.Values.e1)).Values).e1) x.Values.e1).bind fun v1435 => bif (v1435.2 != (0 : Int)) then (some ((List.set l (Int.toNat v1393.1) (Xb.mk e1415.Key e1415.Span (V2.mk v1430.1 e1415.Values.e1))), v1435.2)) else (some ((List.set (List.set l (Int.toNat v1393.1) (Xb.mk e1415.Key e1415.Span (V2.mk v1430.1 e1415.Values.e1))) (Int.toNat v1393.1) (Xb.mk ((Xb.mk e1415.Key e1415.Span (V2.mk v1430.1 e1415.Values.e1)).Key) ((Xb.mk e1415.Key e1415.Span (V2.mk v1430.1 e1415.Values.e1)).Span) (V2.mk (((Xb.mk e1415.Key e1415.Span (V2.mk v1430.1 e1415.Values.e1)).Values).e0) v1435.1))), 0))) : Option ((List Xb) × Int)).bind fun w1427 => some (w1427.1, w1427.2))
theorem X005 {l : List Xb} {x : Xb} (hs : l.Pairwise ltE) (hn : l.length <= 10000) (hx : okA x.Values.e0 /\ okA x.Values.e1)
  (ho : ∀ y ∈ l, X5n y x -> okA y.Values.e0 /\ okA y.Values.e1 /\ y.Values.e0.Count + x.Values.e0.Count <= 1073741824 /\ y.Values.e1.Count + x.Values.e1.Count <= 1073741824) : putF l x = some (Xma l x, 0) := by
 unfold putF
 rw [X036 hs (by omega), Xuw hs]
 have hle := Xwi l x
 cases h : l[cnt l x]? with
 | none =>
  have hc : cnt l x = l.length := by
   have := List.getElem?_eq_none_iff.1 h; omega
  have hsl : X7f l (l.length : Int) (l.length : Int) = some [] := by simp [X7f]
  simp only [Yo, Bool.not_false, cond_true, hc, beq_self_eq_true, hsl]
  rw [X5f (by simp; omega)]
  rfl
 | some y =>
  have hlt : cnt l x < l.length := (Ys.1 h).1
  simp only [Yo]
  by_cases hk : X5n y x
  ·obtain ⟨a1, a2, a3, a4⟩ := ho y (Yg h) hk
   simp only [hk, decide_true, Bool.not_true, cond_false, X6c, h, Yo, X1g a1 hx.1 a3, X1g a2 hx.2 a4, bne_self_eq_false, if_true, Int.toNat_natCast, List.set_set]
   rfl
  ·have hne : ((cnt l x : Int) == (l.length : Int)) = false := by simp; omega
   have hi : Xt2 l (cnt l x : Int) x 88 = some (l.take (cnt l x) ++ x :: l.drop (cnt l x)) := by
    unfold Xt2; rw [if_pos ⟨by omega, by simpa using hlt, by omega⟩]; simp
   simp only [hk, decide_false, Bool.not_false, cond_true, hne, cond_false, hi, Yo, if_false]
theorem Xm8 {l : List Xb} {x : Xb} (hs : l.Pairwise ltE) (e : Xb) :
  e ∈ Xma l x ↔ (e ∈ l /\ ¬ X5n e x) \/ (∃ y ∈ l, X5n y x /\ e = Xll y x) \/ ((∀ y ∈ l, ¬ X5n y x) /\ e = x) := by
 induction l with
 | nil => simp [Xma]
 | cons z l ih =>
  rw [List.pairwise_cons] at hs
  unfold Xma
  by_cases hz : ltE z x
  ·have hnz : ¬ X5n z x := fun h => Xar h hz
   rw [if_pos hz, List.mem_cons, ih hs.2]
   constructor
   ·rintro (rfl | ⟨h1, h2⟩ | ⟨y, h1, h2, h3⟩ | ⟨h1, h2⟩)
    ·exact .inl ⟨List.mem_cons_self, hnz⟩
    ·exact .inl ⟨List.mem_cons_of_mem _ h1, h2⟩
    ·exact .inr (.inl ⟨y, List.mem_cons_of_mem _ h1, h2, h3⟩)
    ·exact .inr (.inr ⟨fun y hy => (List.mem_cons.1 hy).elim (fun h => h ▸ hnz) (h1 y), h2⟩)
   ·rintro (⟨h1, h2⟩ | ⟨y, h1, h2, h3⟩ | ⟨h1, h2⟩)
    ·rcases List.mem_cons.1 h1 with h1 | h1
     ·exact .inl h1
     ·exact .inr (.inl ⟨h1, h2⟩)
    ·rcases List.mem_cons.1 h1 with h1 | h1
     ·subst h1; exact absurd h2 hnz
     ·exact .inr (.inr (.inl ⟨y, h1, h2, h3⟩))
    ·exact .inr (.inr (.inr ⟨fun y hy => h1 y (List.mem_cons_of_mem _ hy), h2⟩))
  ·rw [if_neg hz]
   have hno : ∀ y ∈ l, ¬ (X5n z x /\ X5n y x) := fun y hy ⟨h1, h2⟩ => by
    have := hs.1 y hy
    exact Xar (a := y) (b := y) ⟨rfl, rfl⟩ (by rw [Xbk (c := y) h1] at this; rw [<- Xbk h2] at this; exact this)
   by_cases hk : X5n z x
   ·rw [if_pos hk, List.mem_cons]
    constructor
    ·rintro (rfl | h1)
     ·exact .inr (.inl ⟨z, List.mem_cons_self, hk, rfl⟩)
     ·exact .inl ⟨List.mem_cons_of_mem _ h1, fun h => hno e h1 ⟨hk, h⟩⟩
    ·rintro (⟨h1, h2⟩ | ⟨y, h1, h2, h3⟩ | ⟨h1, h2⟩)
     ·rcases List.mem_cons.1 h1 with h1 | h1
      ·subst h1; exact absurd hk h2
      ·exact .inr h1
     ·rcases List.mem_cons.1 h1 with h1 | h1
      ·subst h1; exact .inl h3
      ·exact absurd ⟨hk, h2⟩ (hno y h1)
     ·exact absurd hk (h1 z List.mem_cons_self)
   ·rw [if_neg hk]
    have hxz : ltE x z := by
     rcases Xj9 (a := z) (b := x) with h | h | h
     ·exact absurd h hz
     ·exact absurd h hk
     ·exact h
    have hn : ∀ y ∈ l, ¬ X5n y x := fun y hy h => by
     have h1 := Xj8 hxz (hs.1 y hy)
     exact Xar (a := y) (b := y) ⟨rfl, rfl⟩ (by rw [<- Xbk h] at h1; exact h1)
    rw [List.mem_cons]
    constructor
    ·rintro (rfl | h1)
     ·exact .inr (.inr ⟨fun y hy => (List.mem_cons.1 hy).elim (fun h => h ▸ hk) (hn y), rfl⟩)
     ·exact .inl ⟨h1, fun h => (List.mem_cons.1 h1).elim (fun h2 => hk (h2 ▸ h)) (fun h2 => hn e h2 h)⟩
    ·rintro (⟨h1, h2⟩ | ⟨y, h1, h2, h3⟩ | ⟨h1, h2⟩)
     ·exact .inr h1
     ·rcases List.mem_cons.1 h1 with h1 | h1
      ·subst h1; exact absurd h2 hk
      ·exact absurd h2 (hn y h1)
     ·exact .inl h2
theorem Xj5 (y x : Xb) : X5n (Xll y x) y := ⟨rfl, rfl⟩
theorem Xj3 {l : List Xb} {x : Xb} (hs : l.Pairwise ltE) : (Xma l x).Pairwise ltE := by
 induction l with
 | nil => exact List.pairwise_singleton _ _
 | cons z l ih =>
  have hs0 := hs
  rw [List.pairwise_cons] at hs
  unfold Xma
  by_cases hz : ltE z x
  ·rw [if_pos hz, List.pairwise_cons]
   refine ⟨fun e he => ?_, ih hs.2⟩
   rcases (Xm8 hs.2 e).1 he with ⟨h1, _⟩ | ⟨y, h1, h2, rfl⟩ | ⟨_, rfl⟩
   ·exact hs.1 e h1
   ·rw [sameK_ltE (Xj5 y x)]; exact hs.1 y h1
   ·exact hz
  ·rw [if_neg hz]
   by_cases hk : X5n z x
   ·rw [if_pos hk, List.pairwise_cons]
    exact ⟨fun e he => by rw [Xbk (Xj5 z x)]; exact hs.1 e he, hs.2⟩
   ·rw [if_neg hk, List.pairwise_cons]
    have hxz : ltE x z := by
     rcases Xj9 (a := z) (b := x) with h | h | h
     ·exact absurd h hz
     ·exact absurd h hk
     ·exact h
    exact ⟨fun e he => (List.mem_cons.1 he).elim (fun h => h ▸ hxz) (fun h => Xj8 hxz (hs.1 e h)), hs0⟩
theorem Xm9 (l : List Xb) (x : Xb) : (Xma l x).length <= l.length + 1 := by
 induction l with
 | nil => simp [Xma]
 | cons z l ih =>
  unfold Xma
  split
  ·simp; exact ih
  ·split <;> simp
end Go.D


namespace Go.D
theorem Xu7 (z : Int) : IntKind.i64.wrap z = (z + 9223372036854775808) % 18446744073709551616 - 9223372036854775808 := by
 have h : IntKind.i64.wrap z = if z % 18446744073709551616 >= 9223372036854775808 then z % 18446744073709551616 - 18446744073709551616 else z % 18446744073709551616 := by
  unfold IntKind.wrap
  simp [IntKind.bits, IntKind.signed]
 rw [h]
 split <;> omega
theorem X024 (a b : Int) : IntKind.i64.wrap (IntKind.i64.wrap a + b) = IntKind.i64.wrap (a + b) := by simp only [Xu7]; omega
theorem X023 (a b : Int) : IntKind.i64.wrap (a + IntKind.i64.wrap b) = IntKind.i64.wrap (a + b) := by simp only [Xu7]; omega
def Xd3 : X1j := ⟨0, 0, 0, 0⟩
def ofA (v : Int) : X1j := ⟨1, v, v, v⟩
theorem Xo7 (v : Int) : okA (ofA v) := .inr (.inl ⟨rfl, rfl, rfl⟩)
theorem Xlt : okA Xd3 := .inl ⟨rfl, rfl⟩
theorem Xp2 {a b : X1j} (h1 : a.Count = b.Count) (h2 : a.Sum = b.Sum) (h3 : a.Min = b.Min) (h4 : a.Max = b.Max) : a = b := by cases a; cases b; simp_all
theorem Xmi (a : X1j) : X48 Xd3 a = a := by unfold X48; rw [if_pos (show Xd3.Count = 0 from rfl)]
theorem Xig {a : X1j} (h : okA a) : X48 a Xd3 = a := by
 unfold X48
 by_cases h0 : a.Count = 0
 ·rw [if_pos h0]
  rcases h with ⟨_, h⟩ | ⟨h, _⟩ | ⟨h, _⟩
  ·exact h.symm
  ·omega
  ·omega
 ·rw [if_neg h0, if_pos (show Xd3.Count = 0 from rfl)]
theorem Xsx {a b : X1j} (ha : okA a) (hb : okA b) : X48 a b = X48 b a := by
 by_cases h1 : a.Count = 0
 ·have : a = Xd3 := by
   rcases ha with ⟨_, h⟩ | ⟨h, _⟩ | ⟨h, _⟩
   ·exact h
   ·omega
   ·omega
  rw [this, Xmi, Xig hb]
 ·by_cases h2 : b.Count = 0
  ·have : b = Xd3 := by
    rcases hb with ⟨_, h⟩ | ⟨h, _⟩ | ⟨h, _⟩
    ·exact h
    ·omega
    ·omega
   rw [this, Xmi, Xig ha]
  ·unfold X48
   rw [if_neg h1, if_neg h2, if_neg h2, if_neg h1]
   apply Xp2
   ·show a.Count + b.Count = b.Count + a.Count; omega
   ·show IntKind.i64.wrap (a.Sum + b.Sum) = IntKind.i64.wrap (b.Sum + a.Sum); rw [Int.add_comm]
   ·show (if b.Min < a.Min then b.Min else a.Min) = (if a.Min < b.Min then a.Min else b.Min); split <;> split <;> omega
   ·show (if b.Max > a.Max then b.Max else a.Max) = (if a.Max > b.Max then a.Max else b.Max); split <;> split <;> omega
theorem Xf4 {a b c : X1j} (ha : 0 <= a.Count) (hb : 0 <= b.Count) (hc : 0 <= c.Count) : X48 (X48 a b) c = X48 a (X48 b c) := by
 by_cases h1 : a.Count = 0
 ·have e : ∀ x, X48 a x = x := fun x => by unfold X48; rw [if_pos h1]
  rw [e, e]
 ·by_cases h2 : b.Count = 0
  ·have e1 : X48 a b = a := by unfold X48; rw [if_neg h1, if_pos h2]
   have e2 : X48 b c = c := by unfold X48; rw [if_pos h2]
   rw [e1, e2]
  ·by_cases h3 : c.Count = 0
   ·have e : ∀ x : X1j, x.Count ≠ 0 -> X48 x c = x := fun x hx => by unfold X48; rw [if_neg hx, if_pos h3]
    have hab : (X48 a b).Count ≠ 0 := by unfold X48; rw [if_neg h1, if_neg h2]; show a.Count + b.Count ≠ 0; omega
    rw [e _ hab, e _ h2]
   ·have e : ∀ x y : X1j, x.Count ≠ 0 -> y.Count ≠ 0 -> X48 x y = ⟨x.Count + y.Count, IntKind.i64.wrap (x.Sum + y.Sum), if y.Min < x.Min then y.Min else x.Min, if y.Max > x.Max then y.Max else x.Max⟩ := fun x y hx hy => by unfold X48; rw [if_neg hx, if_neg hy]
    rw [e a b h1 h2, e b c h2 h3, e _ c (by show a.Count + b.Count ≠ 0; omega) h3, e a _ h1 (by show b.Count + c.Count ≠ 0; omega)]
    apply Xp2
    ·show a.Count + b.Count + c.Count = a.Count + (b.Count + c.Count); omega
    ·show IntKind.i64.wrap (IntKind.i64.wrap (a.Sum + b.Sum) + c.Sum) = IntKind.i64.wrap (a.Sum + IntKind.i64.wrap (b.Sum + c.Sum)); rw [X024, X023, Int.add_assoc]
    ·dsimp only; repeat' split <;> first | rfl | omega
    ·dsimp only; repeat' split <;> first | rfl | omega
def Xef (l : List Int) : X1j := l.foldl (fun a v => X48 a (ofA v)) Xd3
theorem Xdx (l : List Int) (v : Int) : Xef (l ++ [v]) = X48 (Xef l) (ofA v) := by unfold Xef; rw [List.foldl_append]; rfl
theorem Xng : Xef [] = Xd3 := rfl
theorem Xee (v : Int) : Xef [v] = ofA v := Xmi _
theorem X43 : ∀ (l : List Int), (Xef l).Count = l.length := by
 have key : ∀ (l : List Int) (a : X1j), 0 <= a.Count -> (l.foldl (fun a v => X48 a (ofA v)) a).Count = a.Count + l.length := by
  intro l
  induction l with
  | nil => intro a _; simp
  | cons v l ih =>
   intro a ha
   have h1 : (X48 a (ofA v)).Count = a.Count + 1 := by
    unfold X48
    by_cases h : a.Count = 0
    ·rw [if_pos h, h]; rfl
    ·rw [if_neg h, if_neg (by show ¬ (1 : Int) = 0; omega)]; rfl
   rw [List.foldl_cons, ih _ (by omega), h1]; simp; omega
 intro l
 rw [Xef, key l Xd3 (Int.le_refl _)]
 show (0 : Int) + _ = _; omega
theorem Xk6 : ∀ {l : List Int}, l.length <= 1073741824 -> okA (Xef l) := by
 have key : ∀ (n : Nat) (l : List Int), l.length = n -> n <= 1073741824 -> okA (Xef l) := by
  intro n
  induction n with
  | zero => intro l hl _; rw [List.eq_nil_of_length_eq_zero hl]; exact Xlt
  | succ n ih =>
   intro l hl hn
   have hne : l ≠ [] := fun h => by rw [h] at hl; cases hl
   have hd : l.dropLast.length = n := by rw [List.length_dropLast]; omega
   rw [<- List.dropLast_concat_getLast hne, Xdx]
   refine Xxn (ih _ hd (by omega)) (Xo7 _) ?_
   rw [X43, hd]
   show (n : Int) + 1 <= _; omega
 intro l h
 exact key l.length l rfl h
theorem X6y : ∀ (b a : List Int), Xef (a ++ b) = X48 (Xef a) (Xef b) := by
 have key : ∀ (n : Nat) (b a : List Int), b.length = n -> Xef (a ++ b) = X48 (Xef a) (Xef b) := by
  intro n
  induction n with
  | zero =>
   intro b a hb
   rw [List.eq_nil_of_length_eq_zero hb, List.append_nil, Xng]
   by_cases h0 : (Xef a).Count = 0
   ·have : a = [] := List.eq_nil_of_length_eq_zero (by rw [X43] at h0; omega)
    rw [this]; rfl
   ·unfold X48; rw [if_neg h0, if_pos (show Xd3.Count = 0 from rfl)]
  | succ n ih =>
   intro b a hb
   have hne : b ≠ [] := fun h => by rw [h] at hb; cases hb
   have hd : b.dropLast.length = n := by rw [List.length_dropLast]; omega
   rw [<- List.dropLast_concat_getLast hne, <- List.append_assoc, Xdx, Xdx, ih _ _ hd]
   exact Xf4 (by rw [X43]; omega) (by rw [X43]; omega) (by show (0 : Int) <= 1; decide)
 intro b a
 exact key b.length b a rfl
theorem Xp3 {a b : List Int} (h : a.Perm b) : a.length <= 1073741824 -> Xef a = Xef b := by
 induction h with
 | nil => intro _; rfl
 | @cons x l1 l2 h ih =>
  intro hl
  have := ih (by simp at hl; omega)
  rw [show x :: l1 = [x] ++ l1 from rfl, show x :: l2 = [x] ++ l2 from rfl, X6y, X6y, this]
 | swap x y l =>
  intro hl
  rw [show y :: x :: l = [y] ++ ([x] ++ l) from rfl, show x :: y :: l = [x] ++ ([y] ++ l) from rfl, X6y, X6y, X6y, X6y, Xee, Xee]
  rw [<- Xf4 (by show (0 : Int) <= 1; decide) (by show (0 : Int) <= 1; decide) (by rw [X43]; omega), Xsx (Xo7 y) (Xo7 x), Xf4 (by show (0 : Int) <= 1; decide) (by show (0 : Int) <= 1; decide) (by rw [X43]; omega)]
 | trans h1 _ ih1 ih2 => intro hl; rw [ih1 hl, ih2 (by rw [<- h1.length_eq]; exact hl)]
abbrev Pu := Xj × Int
def inS (s : X13) (t : Int) : Prop := s.Start <= t /\ t < s.End
instance (s : X13) (t : Int) : Decidable (inS s t) := by unfold inS; infer_instance
def vals (L : List Pu) (k : Int) (s : X13) (side : Int) : List Int := (L.filter fun p => decide (p.1.Key = k /\ inS s p.1.Time /\ p.2 = side)).map fun p => p.1.Value
def X9p (L : List Pu) (k t : Int) : Prop := ∃ p ∈ L, p.1.Key = k /\ p.1.Time = t
def Xol (size every t : Int) (s : X13) : Prop := s.Start % every = 0 /\ s.End = s.Start + size /\ inS s t
def cov (size : Int) (T : Int -> Prop) (x : Int) : Prop := ∃ t, T t /\ 2 * t < x /\ x < 2 * (t + size)
def Xix (size : Int) (T : Int -> Prop) (s : X13) : Prop := s.Start < s.End /\ (∀ x, 2 * s.Start < x -> x < 2 * s.End -> cov size T x) /\ ¬ cov size T (2 * s.Start) /\ ¬ cov size T (2 * s.End)
def Xeu (w : X0x) : Int := if w.Kind = 1 then w.Size else w.Every
def Xfc (w : X0x) (T : Int -> Prop) (s : X13) : Prop := if w.Kind = 3 then Xix w.Size T s else ∃ t, T t /\ Xol w.Size (Xeu w) t s
def Xg2 (L : List Pu) (k : Int) (s : X13) : V2 X1j := ⟨Xef (vals L k s 0), Xef (vals L k s 1)⟩
def Xtv (w : X0x) (L : List Pu) (e : Xb) : Prop := Xfc w (X9p L e.Key) e.Span /\ e.Values = Xg2 L e.Key e.Span
structure X95 (w : X0x) (L : List Pu) (es : List Xb) : Prop where
 sorted : es.Pairwise ltE
 mem : ∀ e, e ∈ es ↔ Xtv w L e
 cover : w.Kind = 3 -> ∀ k t, X9p L k t -> ∃ e ∈ es, e.Key = k /\ e.Span.Start <= t /\ t + w.Size <= e.Span.End
theorem Xs6 : ∀ {a b : List Xb}, a.Pairwise ltE -> b.Pairwise ltE -> (∀ e, e ∈ a ↔ e ∈ b) -> a = b := by
 intro a
 induction a with
 | nil =>
  intro b _ _ h
  cases b with
  | nil => rfl
  | cons y b => exact absurd ((h y).2 List.mem_cons_self) (by simp)
 | cons x a ih =>
  intro b ha hb h
  cases b with
  | nil => exact absurd ((h x).1 List.mem_cons_self) (by simp)
  | cons y b =>
   rw [List.pairwise_cons] at ha hb
   have hxy : x = y := by
    rcases List.mem_cons.1 ((h x).1 List.mem_cons_self) with h1 | h1
    ·exact h1
    ·rcases List.mem_cons.1 ((h y).2 List.mem_cons_self) with h2 | h2
     ·exact h2.symm
     ·exact absurd (hb.1 x h1) (Xv9 (ha.1 y h2))
   subst hxy
   rw [ih ha.2 hb.2]
   intro e
   constructor
   ·intro he
    rcases List.mem_cons.1 ((h e).1 (List.mem_cons_of_mem _ he)) with h1 | h1
    ·subst h1; exact absurd (ha.1 e he) (Xgo e)
    ·exact h1
   ·intro he
    rcases List.mem_cons.1 ((h e).2 (List.mem_cons_of_mem _ he)) with h1 | h1
    ·subst h1; exact absurd (hb.1 e he) (Xgo e)
    ·exact h1
theorem X95.unique {w : X0x} {L : List Pu} {a b : List Xb} (ha : X95 w L a) (hb : X95 w L b) : a = b := Xs6 ha.sorted hb.sorted fun e => by rw [ha.mem, hb.mem]
theorem Xlz (L : List Pu) (k : Int) (s : X13) (side : Int) : (vals L k s side).length <= L.length := by unfold vals; rw [List.length_map]; exact List.length_filter_le _ _
end Go.D


namespace Go.D
theorem Xow (x y : X00) : X7p x y = decide (x = y) := by
 obtain ⟨a, b, c, d, e⟩ := x
 obtain ⟨f, g, h, i, j⟩ := y
 rw [Bool.eq_iff_iff]
 simp [X7p, and_assoc]
theorem Xm3 {α : Type} {l : List α} {k : Nat} (h : k <= l.length) : X7f l 0 (k : Int) = some (l.take k) := by
 unfold X7f; rw [if_pos ⟨by omega, by omega, by simpa using h⟩]; simp
theorem Xgb {α : Type} {l : List α} {k : Nat} (h : k <= l.length) : X7f l (k : Int) (l.length : Int) = some (l.drop k) := by
 unfold X7f; rw [if_pos ⟨by omega, by omega, by simp⟩]
 simp only [Int.toNat_natCast]
 rw [List.take_of_length_le (by rw [List.length_drop]; exact Nat.le_refl _)]
def okN (x : X00) (a b : Int) : Prop := 1 <= x.Kind /\ x.Kind <= 19 /\ 0 <= x.N /\ (x.N = 0 \/ x.Kind = 1) /\ 0 <= x.At /\ x.At <= 400 /\ x.A = a /\ x.B = b
instance (x : X00) (a b : Int) : Decidable (okN x a b) := by unfold okN; infer_instance
theorem Xm4 (x : X00) (a b : Int) : X6w x a b = some (decide (okN x a b)) := by
 unfold X6w okN
 congr 1
 rw [Bool.eq_iff_iff]
 by_cases h1 : 1 <= x.Kind <;> by_cases h2 : x.Kind <= 19 <;> by_cases h3 : 0 <= x.N <;> by_cases h4 : x.N = 0 <;> by_cases h5 : 0 <= x.At <;> by_cases h6 : x.At <= 400 <;> simp [h1, h2, h3, h4, h5, h6, and_assoc]
def nst (sd : List (Nat × Nat)) (x : X00) : Option (Nat × Nat) :=
 if x.Kind <= 4 then (if okN x 0 0 then some (1, 1) else none)
 else match sd.getLast? with
  | none => none
  | some (s2, d2) =>
   if x.Kind <= 6 then (if okN x ((sd.length : Int) - 1) 0 then some (1 + s2, 1 + d2) else none)
   else if sd.length - 1 < s2 then none
   else match sd[sd.length - 1 - s2]? with
    | none => none
    | some (s1, d1) => if okN x ((sd.length : Int) - 1 - s2) ((sd.length : Int) - 1) then some (1 + s2 + s1, max (1 + d2) (1 + d1)) else none
def Xlf : List X00 -> List (Nat × Nat) -> Option (List (Nat × Nat))
 | [], sd => some sd
 | x :: xs, sd => match nst sd x with
  | some q => Xlf xs (sd ++ [q])
  | none => none
def X90 (j : Nat) (q : Nat × Nat) : Xo := ⟨(j : Int), (q.1 : Int), (q.2 : Int)⟩
inductive Xbf (sd : List (Nat × Nat)) : Nat -> List Xo -> Prop
 | nil : Xbf sd 0 []
 | snoc {j : Nat} {q : Nat × Nat} {st : List Xo} (hq : sd[j]? = some q) (h1 : 1 <= q.1) (h2 : q.1 <= j + 1) (h3 : q.2 <= q.1) (h : Xbf sd (j + 1 - q.1) st) : Xbf sd (j + 1) (st ++ [X90 j q])
theorem Xbf.more {sd sd' : List (Nat × Nat)} {k : Nat} {st : List Xo} (h : Xbf sd k st) (hs : ∀ j, j < k -> sd'[j]? = sd[j]?) : Xbf sd' k st := by
 induction h with
 | nil => exact .nil
 | @snoc j q st hq h1 h2 h3 _ ih => exact .snoc (by rw [hs j (by omega)]; exact hq) h1 h2 h3 (ih fun i hi => hs i (by omega))
theorem Xbf.app {sd e : List (Nat × Nat)} {k : Nat} {st : List Xo} (h : Xbf sd k st) (hk : k <= sd.length) : Xbf (sd ++ e) k st := h.more fun j hj => List.getElem?_append_left (by omega)
theorem Xbf.len {sd : List (Nat × Nat)} {k : Nat} {st : List Xo} (h : Xbf sd k st) : st.length <= k := by
 induction h with
 | nil => simp
 | snoc hq h1 h2 h3 _ ih => simp; omega
theorem Xk2 {k : Nat} (h : 1 <= k) (hk : k <= 1000000) : IntKind.i64.wrap ((k : Int) - 1) = ((k - 1 : Nat) : Int) := by rw [X18 (by omega) (by omega)]; omega
theorem Xxl {x : X00} (h0 : 0 <= x.Kind) : Xa7 x.Kind = some (if 1 <= x.Kind /\ x.Kind <= 19 then ((if x.Kind <= 4 then 0 else if x.Kind <= 6 then 1 else 2), 0) else (0, 2)) := by
 unfold Xa7
 by_cases h1 : 1 <= x.Kind
 ·by_cases h4 : x.Kind <= 4
  ·simp [h1, h4, show x.Kind <= 19 by omega]
  ·by_cases h6 : x.Kind <= 6
   ·have : (bif x.Kind == 5 then true else x.Kind == 6) = true := by
     rcases (by omega : x.Kind = 5 \/ x.Kind = 6) with h | h <;> simp [h]
    simp [h1, h4, h6, this, show x.Kind <= 19 by omega]
   ·have e5 : (bif x.Kind == 5 then true else x.Kind == 6) = false := by
     have a : (x.Kind == 5) = false := by simp; omega
     have b : (x.Kind == 6) = false := by simp; omega
     rw [a, b]; rfl
    by_cases h19 : x.Kind <= 19
    ·simp [h1, h4, h6, e5, h19, show (7 : Int) <= x.Kind by omega]
    ·simp [h1, h4, h6, e5, h19]
 ·have e : x.Kind = 0 := by omega
  simp [e]
theorem Xux {x : X00} {a b : Int} (h1 : 1 <= x.Kind) (h2 : x.Kind <= 19) :
    ((bif (x.Kind == (1 : Int)) then (some (X00.mk x.Kind (if 0 > x.N then 0 else x.N) a b (if 400 < (if 0 > x.At then 0 else x.At) then 400 else (if 0 > x.At then 0 else x.At)))) else (some (X00.mk x.Kind 0 a b (if 400 < (if 0 > x.At then 0 else x.At) then 400 else (if 0 > x.At then 0 else x.At)))) : Option (X00)).bind fun o => some (X7p o x)) = some (decide (okN x a b)) := by
  obtain ⟨K, N, A, B, At⟩ := x
  have hat : ((if 400 < (if 0 > At then 0 else At) then 400 else (if 0 > At then 0 else At)) = At) ↔ (0 <= At /\ At <= 400) := by
    by_cases g1 : 0 > At
    · rw [if_pos g1]; constructor
      · intro h; exfalso; split at h <;> omega
      · intro h; omega
    · rw [if_neg g1]; split <;> omega
  have hn : ((if 0 > N then 0 else N) = N) ↔ 0 <= N := by split <;> omega
  have key : ∀ n' : Int, (n' = N ↔ (0 <= N /\ (N = 0 \/ K = 1))) -> (some (X7p (X00.mk K n' a b (if 400 < (if 0 > At then 0 else At) then 400 else (if 0 > At then 0 else At))) ⟨K, N, A, B, At⟩) : Option Bool) = some (decide (okN ⟨K, N, A, B, At⟩ a b)) := by
    intro n' hn'
    rw [Xow]
    congr 1
    apply decide_eq_decide.2
    rw [X00.mk.injEq, hat, hn']
    unfold okN
    constructor
    · rintro ⟨_, ⟨g1, g2⟩, hA, hB, g3, g4⟩
      exact ⟨h1, h2, g1, g2, g3, g4, hA.symm, hB.symm⟩
    · rintro ⟨_, _, g1, g2, g3, g4, hA, hB⟩
      exact ⟨rfl, ⟨g1, g2⟩, hA.symm, hB.symm, g3, g4⟩
  by_cases hk : K = 1
  · have : (K == 1) = true := by simp [hk]
    show (Option.bind (bif (K == 1) then _ else _) _) = _
    rw [this, cond_true, Yo]
    exact key _ (by rw [hn]; simp [hk])
  · have : (K == 1) = false := by simp [hk]
    show (Option.bind (bif (K == 1) then _ else _) _) = _
    rw [this, cond_false, Yo]
    exact key _ (by constructor
                    · intro h; omega
                    · rintro ⟨_, h⟩; rcases h with h | h <;> omega)
theorem Xne {β : Type} {o : Option X00} {x : X00} {d : Bool} {f g : Option β} (h : (o.bind fun z => some (X7p z x)) = some d) : (o.bind fun z => bif (!(X7p z x)) then f else g) = bif d then g else f := by
 cases o with
 | none => cases h
 | some z =>
  simp only [Yo, Option.some.injEq] at h
  rw [Yo, h]; cases d <;> rfl
def X6z (sd : List (Nat × Nat)) : List Xo := sd.mapIdx X90
theorem Xpa (sd : List (Nat × Nat)) (q : Nat × Nat) : X6z (sd ++ [q]) = X6z sd ++ [X90 sd.length q] := by unfold X6z; simp
theorem Xs4 (sd : List (Nat × Nat)) : (X6z sd).length = sd.length := by unfold X6z; simp
theorem Xbf.inv {sd : List (Nat × Nat)} {k : Nat} {st : List Xo} (h : Xbf sd k st) (hk : 0 < k) : ∃ q st0, sd[k - 1]? = some q /\ 1 <= q.1 /\ q.1 <= k /\ q.2 <= q.1 /\ Xbf sd (k - q.1) st0 /\ st = st0 ++ [X90 (k - 1) q] := by
 cases h with
 | nil => omega
 | @snoc j q st0 hq h1 h2 h3 h => exact ⟨q, st0, hq, h1, h2, h3, h, rfl⟩
theorem Xbf.zero {sd : List (Nat × Nat)} {st : List Xo} (h : Xbf sd 0 st) : st = [] := by
 cases h; rfl
theorem Xzj (Y : List X00) : ∀ (xs : List X00) (sd : List (Nat × Nat)) (st : List Xo), (∀ x ∈ xs, 0 <= x.Kind) -> sd.length + xs.length <= 1000 -> Xbf sd sd.length st -> (∀ j q, sd[j]? = some q -> 1 <= q.1 /\ q.1 <= j + 1 /\ q.2 <= q.1) ->
    match Xlf xs sd with
    | some sd' => ∃ st', X2c Y xs sd.length (X6z sd) st = some (.x0 (X6z sd') st') /\ Xbf sd' sd'.length st'
    | none => ∃ all, X2c Y xs sd.length (X6z sd) st = some (.x1 all) := by
  intro xs
  induction xs with
  | nil => intro sd st _ _ hc _; exact ⟨st, rfl, hc⟩
  | cons x xs ih =>
    intro sd st h0 hn hc hb
    simp only [List.length_cons] at hn
    have hx := h0 x List.mem_cons_self
    rw [X2c, Xxl hx]
    have go : ∀ (q : Nat × Nat) (st0 : List Xo), nst sd x = some q -> Xbf (sd ++ [q]) (sd.length + 1) (st0 ++ [X90 sd.length q]) -> 1 <= q.1 -> q.1 <= sd.length + 1 -> q.2 <= q.1 ->
        (match Xlf (x :: xs) sd with
          | some sd' => ∃ st', X2c Y xs (sd.length + 1) (X6z sd ++ [X90 sd.length q]) (st0 ++ [X90 sd.length q]) = some (.x0 (X6z sd') st') /\ Xbf sd' sd'.length st'
          | none => ∃ all, X2c Y xs (sd.length + 1) (X6z sd ++ [X90 sd.length q]) (st0 ++ [X90 sd.length q]) = some (.x1 all)) := by
      intro q st0 hq hc2 g1 g2 g3
      have := ih (sd ++ [q]) (st0 ++ [X90 sd.length q]) (fun y hy => h0 y (List.mem_cons_of_mem _ hy)) (by simp; omega) (by simpa using hc2) (fun j q' hj => by
        rw [List.getElem?_append] at hj
        split at hj
        · exact hb j q' hj
        · rename_i hlt
          have : j = sd.length := by
            have := (Ys.1 hj).1; simp at this; omega
          subst this
          simp at hj; subst hj; exact ⟨g1, g2, g3⟩)
      rw [Xpa, List.length_append] at this
      unfold Xlf
      rw [hq]
      exact this
    have stop : nst sd x = none -> ∀ {o : Option X5v}, (∃ all, o = some (.x1 all)) -> (match Xlf (x :: xs) sd with
          | some sd' => ∃ st', o = some (.x0 (X6z sd') st') /\ Xbf sd' sd'.length st'
          | none => ∃ all, o = some (.x1 all)) := by
      intro hq o h
      unfold Xlf
      rw [hq]; exact h
    have cap : ∀ (l : List Xo) (t : Xo), l.length <= 2000 -> X2i (List.length (l ++ [t])) 24 = some () := fun l t hl => X5f (by simp; omega)
    have hla : (X6z sd).length <= 2000 := by unfold X6z; simp; omega
    have hst := hc.len
    by_cases hr : 1 <= x.Kind /\ x.Kind <= 19
    · rw [if_pos hr]
      simp only [Yo, bne_self_eq_false, cond_false]
      by_cases h4 : x.Kind <= 4
      · -- no parts
        have e1 : decide ((if x.Kind <= 4 then (0 : Int) else if x.Kind <= 6 then 1 else 2) > (st.length : Int)) = false := by rw [if_pos h4]; simp
        rw [e1, cond_false, if_pos h4]
        have e2 : IntKind.i64.wrap ((st.length : Int) - 0) = (st.length : Int) := by rw [X18 (by omega) (by omega)]; omega
        rw [e2, Xm3 (Nat.le_refl _), Xgb (Nat.le_refl _), List.take_length, List.drop_length]
        simp only [Yo, List.isEmpty_nil, cond_true]
        rw [Xne (Xux hr.1 hr.2)]
        by_cases hok : okN x 0 0
        · rw [Yt hok, cond_true, cap st _ (by omega), cap _ _ hla]
          exact go (1, 1) st (by unfold nst; rw [if_pos h4, if_pos hok]) (.snoc (by simp) (Nat.le_refl _) (by omega) (Nat.le_refl _) (by simpa using hc.app (Nat.le_refl _))) (Nat.le_refl _) (by omega) (Nat.le_refl _)
        · rw [Yf hok, cond_false]
          exact stop (by unfold nst; rw [if_pos h4, if_neg hok]) ⟨_, rfl⟩
      · have hgl : 0 < sd.length -> ∃ q, sd.getLast? = some q /\ sd[sd.length - 1]? = some q := by
          intro h
          refine ⟨sd[sd.length - 1]'(by omega), ?_, ?_⟩
          · rw [List.getLast?_eq_getElem?]; exact Ye _
          · exact Ye _
        by_cases h6 : x.Kind <= 6
        · -- one part
          rw [if_neg h4, if_pos h6]
          by_cases hl : sd.length = 0
          · rw [hl] at hc
            have := hc.zero; subst this
            simp only [List.length_nil]
            exact stop (by unfold nst; rw [if_neg h4, List.eq_nil_of_length_eq_zero hl]; rfl) ⟨_, rfl⟩
          · obtain ⟨q, st0, hq, g1, g2, g3, hc0, rfl⟩ := hc.inv (by omega)
            obtain ⟨q', hq1, hq2⟩ := hgl (by omega)
            rw [hq] at hq2; cases hq2
            have hs0 := hc0.len
            have e1 : decide ((1 : Int) > ((st0 ++ [X90 (sd.length - 1) q]).length : Int)) = false := by simp; omega
            rw [e1, cond_false]
            have e2 : IntKind.i64.wrap (((st0 ++ [X90 (sd.length - 1) q]).length : Int) - 1) = (st0.length : Int) := by
              rw [X18 (by rw [List.length_append, List.length_singleton]; omega) (by rw [List.length_append, List.length_singleton]; omega), List.length_append, List.length_singleton]; omega
            rw [e2, Xm3 (by simp), Xgb (by simp), List.take_left, List.drop_left]
            simp only [Yo, List.isEmpty_cons, cond_false, List.length_singleton]
            rw [show (((1 : Nat) : Int) == 1) = true from rfl, cond_true]
            rw [show X2o [X90 (sd.length - 1) q] 0 = some (X90 (sd.length - 1) q) from rfl, Yo]
            rw [Xne (Xux hr.1 hr.2)]
            have ea : (X90 (sd.length - 1) q).at_ = (sd.length : Int) - 1 := by unfold X90; simp only; omega
            rw [ea]
            by_cases hok : okN x ((sd.length : Int) - 1) 0
            · have e3 : (Xo.mk (sd.length : Int) (IntKind.i64.wrap (1 + (X90 (sd.length - 1) q).size)) (if (IntKind.i64.wrap ((X90 (sd.length - 1) q).depth + 1)) > 1 then (IntKind.i64.wrap ((X90 (sd.length - 1) q).depth + 1)) else 1)) = X90 sd.length (1 + q.1, 1 + q.2) := by
                unfold X90
                simp only
                rw [X18 (by omega) (by omega), X18 (by omega) (by omega)]
                congr 1
                split <;> omega
              rw [Yt hok, cond_true, e3, cap st0 _ (by omega), cap _ _ hla]
              refine go (1 + q.1, 1 + q.2) st0 (by unfold nst; rw [if_neg h4, hq1]; simp only; rw [if_pos h6, if_pos hok]) (.snoc (by simp) (by simp only; omega) (by simp only; omega) (by simp only; omega) ?_) (by simp only; omega) (by simp only; omega) (by simp only; omega)
              have := hc0.app (e := [(1 + q.1, 1 + q.2)]) (by omega)
              simp only
              rw [show sd.length + 1 - (1 + q.1) = sd.length - q.1 by omega]; exact this
            · rw [Yf hok, cond_false]
              exact stop (by unfold nst; rw [if_neg h4, hq1]; simp only; rw [if_pos h6, if_neg hok]) ⟨_, rfl⟩
        · -- two parts
          rw [if_neg h4, if_neg h6]
          by_cases hl : sd.length = 0
          · rw [hl] at hc
            have := hc.zero; subst this
            simp only [List.length_nil]
            exact stop (by unfold nst; rw [if_neg h4, List.eq_nil_of_length_eq_zero hl]; rfl) ⟨_, rfl⟩
          · obtain ⟨q, st1, hq, g1, g2, g3, hc1, rfl⟩ := hc.inv (by omega)
            obtain ⟨q', hq1, hq2⟩ := hgl (by omega)
            rw [hq] at hq2; cases hq2
            by_cases hl1 : sd.length - q.1 = 0
            · rw [hl1] at hc1
              have := hc1.zero; subst this
              exact stop (by unfold nst; rw [if_neg h4, hq1]; simp only; rw [if_neg h6, if_pos (by omega)]) ⟨_, rfl⟩
            · obtain ⟨p, st0, hp, f1, f2, f3, hc0, rfl⟩ := hc1.inv (by omega)
              have hs0 := hc0.len
              rw [List.append_assoc]
              have e1 : decide ((2 : Int) > ((st0 ++ ([X90 (sd.length - q.1 - 1) p] ++ [X90 (sd.length - 1) q])).length : Int)) = false := by simp; omega
              rw [e1, cond_false]
              have e2 : IntKind.i64.wrap (((st0 ++ ([X90 (sd.length - q.1 - 1) p] ++ [X90 (sd.length - 1) q])).length : Int) - 2) = (st0.length : Int) := by
                rw [X18 (by simp only [List.length_append, List.length_singleton]; omega) (by simp only [List.length_append, List.length_singleton]; omega)]; simp only [List.length_append, List.length_singleton]; omega
              rw [e2, Xm3 (by simp), Xgb (by simp), List.take_left, List.drop_left]
              simp only [Yo, List.singleton_append, List.isEmpty_cons, cond_false, List.length_cons, List.length_nil]
              rw [show ((((0 : Nat) + 1 + 1 : Nat) : Int) == 1) = false from rfl, show ((((0 : Nat) + 1 + 1 : Nat) : Int) == 2) = true from rfl, cond_false, cond_true]
              rw [show X2o [X90 (sd.length - q.1 - 1) p, X90 (sd.length - 1) q] 0 = some (X90 (sd.length - q.1 - 1) p) from rfl, show X2o [X90 (sd.length - q.1 - 1) p, X90 (sd.length - 1) q] 1 = some (X90 (sd.length - 1) q) from rfl, Yo, Yo]
              rw [Xne (Xux hr.1 hr.2)]
              have ea : (X90 (sd.length - 1) q).at_ = (sd.length : Int) - 1 := by unfold X90; simp only; omega
              have eb : (X90 (sd.length - q.1 - 1) p).at_ = (sd.length : Int) - 1 - q.1 := by unfold X90; simp only; omega
              rw [ea, eb]
              have hp' : sd[sd.length - 1 - q.1]? = some p := by rw [show sd.length - 1 - q.1 = sd.length - q.1 - 1 by omega]; exact hp
              by_cases hok : okN x ((sd.length : Int) - 1 - q.1) ((sd.length : Int) - 1)
              · have e3 : (Xo.mk (sd.length : Int) (IntKind.i64.wrap ((IntKind.i64.wrap (1 + (X90 (sd.length - q.1 - 1) p).size)) + (X90 (sd.length - 1) q).size)) (if (IntKind.i64.wrap ((X90 (sd.length - 1) q).depth + 1)) > (if (IntKind.i64.wrap ((X90 (sd.length - q.1 - 1) p).depth + 1)) > 1 then (IntKind.i64.wrap ((X90 (sd.length - q.1 - 1) p).depth + 1)) else 1) then (IntKind.i64.wrap ((X90 (sd.length - 1) q).depth + 1)) else (if (IntKind.i64.wrap ((X90 (sd.length - q.1 - 1) p).depth + 1)) > 1 then (IntKind.i64.wrap ((X90 (sd.length - q.1 - 1) p).depth + 1)) else 1))) = X90 sd.length (1 + q.1 + p.1, max (1 + q.2) (1 + p.2)) := by
                  unfold X90
                  simp only
                  rw [X18 (z := 1 + (p.1 : Int)) (by omega) (by omega), X18 (by omega) (by omega), X18 (by omega) (by omega), X18 (by omega) (by omega)]
                  congr 1
                  · push_cast; omega
                  · split <;> split <;> omega
                rw [Yt hok, cond_true, e3, cap st0 _ (by omega), cap _ _ hla]
                refine go (1 + q.1 + p.1, max (1 + q.2) (1 + p.2)) st0 (by unfold nst; rw [if_neg h4, hq1]; simp only; rw [if_neg h6, if_neg (by omega), hp']; simp only; rw [if_pos hok]) (.snoc (by simp) (by simp only; omega) (by simp only; omega) (by simp only; omega) ?_) (by simp only; omega) (by simp only; omega) (by simp only; omega)
                have := hc0.app (e := [(1 + q.1 + p.1, max (1 + q.2) (1 + p.2))]) (by omega)
                simp only
                rw [show sd.length + 1 - (1 + q.1 + p.1) = sd.length - q.1 - p.1 by omega]; exact this
              · rw [Yf hok, cond_false]
                exact stop (by unfold nst; rw [if_neg h4, hq1]; simp only; rw [if_neg h6, if_neg (by omega), hp']; simp only; rw [if_neg hok]) ⟨_, rfl⟩
    · rw [if_neg hr]
      have hno : nst sd x = none := by
        have no : ∀ a b, ¬ okN x a b := fun a b h => hr ⟨h.1, h.2.1⟩
        unfold nst
        simp only [no, if_false]
        split
        · rfl
        · split
          · rfl
          · split
            · rfl
            · split
              · rfl
              · split <;> rfl
      exact stop hno ⟨_, rfl⟩
def Xb7 (l : List X00) : Int :=
 if l.length > 60 then 4 else match Xlf l [] with
  | none => 8
  | some sd => match sd.getLast? with
   | none => 8
   | some q => if q.1 = l.length then (if q.2 > 20 then 34 else 0) else 8
theorem Xib : ∀ (xs : List X00) (sd sd' : List (Nat × Nat)), Xlf xs sd = some sd' -> sd'.length = sd.length + xs.length
 | [], sd, sd', h => by cases h; simp
 | x :: xs, sd, sd', h => by
  unfold Xlf at h
  split at h
  ·have := Xib xs _ _ h; simp at this; simp; omega
  ·cases h
theorem Xs5 {sd : List (Nat × Nat)} {i : Nat} {q : Nat × Nat} (h : sd[i]? = some q) : X2o (X6z sd) (i : Int) = some (X90 i q) := by
 rw [X6c]; unfold X6z; rw [List.getElem?_mapIdx, h]; rfl
theorem Xkt {l : List X00} (h0 : ∀ x ∈ l, 0 <= x.Kind) : ∃ t, Xa6 l = some (t, Xb7 l) /\ (Xb7 l = 0 -> ∃ sd, Xlf l [] = some sd /\ t = X6z sd) := by
 unfold Xa6 Xb7
 by_cases h60 : l.length > 60
 ·rw [Yt (show (l.length : Int) > 60 by omega), cond_true, if_pos h60]; exact ⟨_, rfl, by omega⟩
 ·rw [Yf (show ¬ (l.length : Int) > 60 by omega), cond_false, if_neg h60]
  have hL := Xzj l l [] [] h0 (by simp; omega) .nil (by simp)
  unfold Xe2
  rw [X3y (by omega)]
  cases hr : Xlf l [] with
  | none =>
   rw [hr] at hL
   obtain ⟨all, hL⟩ := hL
   simp only [List.length_nil] at hL
   rw [show X6z [] = [] from rfl] at hL
   rw [hL]
   exact ⟨_, rfl, by simp⟩
  | some sd =>
   rw [hr] at hL
   obtain ⟨st, hL, hc⟩ := hL
   simp only [List.length_nil] at hL
   rw [show X6z [] = [] from rfl] at hL
   rw [hL]
   have hn := Xib l [] sd hr
   simp only [List.length_nil, Nat.zero_add] at hn
   simp only [Yo]
   by_cases hz : sd.length = 0
   ·have : sd = [] := List.eq_nil_of_length_eq_zero hz
    subst this
    have := hc.zero; subst this
    exact ⟨_, rfl, by simp⟩
   ·obtain ⟨q, st0, hq, g1, g2, g3, hc0, rfl⟩ := hc.inv (by omega)
    have hg : sd.getLast? = some q := by rw [List.getLast?_eq_getElem?]; exact hq
    rw [hg]
    simp only
    have hst : (((st0 ++ [X90 (sd.length - 1) q]).length : Int) == 1) = decide (q.1 = l.length) := by
     rw [Bool.eq_iff_iff]
     simp only [List.length_append, List.length_singleton, beq_iff_eq, decide_eq_true_eq]
     constructor
     ·intro h
      have h1 : st0.length = 0 := by omega
      by_cases hk : sd.length - q.1 = 0
      ·omega
      ·obtain ⟨_, s1, _, _, _, _, _, rfl⟩ := hc0.inv (by omega)
       simp at h1
     ·intro h
      rw [show sd.length - q.1 = 0 by omega] at hc0
      rw [hc0.zero]; rfl
    rw [hst]
    by_cases he : q.1 = l.length
    ·rw [Yt he, if_pos he]
     simp only [Bool.not_true, cond_false]
     rw [show IntKind.i64.wrap (((X6z sd).length : Int) - 1) = ((sd.length - 1 : Nat) : Int) by rw [Xs4, Xk2 (by omega) (by omega)]]
     rw [Xs5 hq, Yo]
     by_cases hd : q.2 > 20
     ·rw [if_pos hd, show decide ((X90 (sd.length - 1) q).depth > 20) = true from Yt (by unfold X90; simp only; omega)]
      exact ⟨_, rfl, by simp⟩
     ·rw [if_neg hd, show decide ((X90 (sd.length - 1) q).depth > 20) = false from Yf (by unfold X90; simp only; omega)]
      exact ⟨_, rfl, fun _ => ⟨sd, rfl, rfl⟩⟩
    ·rw [Yf he, if_neg he]
     exact ⟨_, rfl, by simp⟩
theorem Xb6 {l : List X00} (h0 : ∀ x ∈ l, 0 <= x.Kind) : X5w l = some (Xb7 l) := by
 obtain ⟨t, h, _⟩ := Xkt h0
 unfold X5w; rw [h]; rfl
def szs (sd : List (Nat × Nat)) : List Int := sd.map fun q => (q.1 : Int)
def dps (sd : List (Nat × Nat)) : List Int := sd.map fun q => (q.2 : Int)
theorem Xpb {sd : List (Nat × Nat)} {i : Nat} {q : Nat × Nat} (h : sd[i]? = some q) : X2o (szs sd) (i : Int) = some (q.1 : Int) := by
 rw [X6c]; unfold szs; rw [List.getElem?_map, h]; rfl
theorem Xqp {sd : List (Nat × Nat)} {i : Nat} {q : Nat × Nat} (h : sd[i]? = some q) : X2o (dps sd) (i : Int) = some (q.2 : Int) := by
 rw [X6c]; unfold dps; rw [List.getElem?_map, h]; rfl
theorem Xxe (Y : List X00) : ∀ (xs : List X00) (sd : List (Nat × Nat)), sd.length + xs.length <= 1000 -> (∀ j q, sd[j]? = some q -> 1 <= q.1 /\ q.1 <= j + 1 /\ q.2 <= q.1) ->
    match Xlf xs sd with
    | some sd' => X1x Y xs sd.length (szs sd) (dps sd) = some (.x0 (szs sd') (dps sd'))
    | none => X1x Y xs sd.length (szs sd) (dps sd) = some (.x1 [] []) := by
  intro xs
  induction xs with
  | nil => intro sd _ _; rfl
  | cons x xs ih =>
    intro sd hn hb
    simp only [List.length_cons] at hn
    rw [X1x]
    have go : ∀ (q : Nat × Nat), nst sd x = some q -> 1 <= q.1 -> q.1 <= sd.length + 1 -> q.2 <= q.1 ->
        (match Xlf (x :: xs) sd with
          | some sd' => X1x Y xs (sd.length + 1) (szs sd ++ [(q.1 : Int)]) (dps sd ++ [(q.2 : Int)]) = some (.x0 (szs sd') (dps sd'))
          | none => X1x Y xs (sd.length + 1) (szs sd ++ [(q.1 : Int)]) (dps sd ++ [(q.2 : Int)]) = some (.x1 [] [])) := by
      intro q hq g1 g2 g3
      have := ih (sd ++ [q]) (by simp; omega) (fun j q' hj => by
        rw [List.getElem?_append] at hj
        split at hj
        · exact hb j q' hj
        · rename_i hlt
          have : j = sd.length := by
            have := (Ys.1 hj).1; simp at this; omega
          subst this
          simp at hj; subst hj; exact ⟨g1, g2, g3⟩)
      rw [List.length_append] at this
      unfold Xlf
      rw [hq]
      unfold szs dps at this ⊢
      rw [List.map_append, List.map_append] at this
      exact this
    have stop : nst sd x = none -> ∀ {o : Option X57}, o = some (.x1 [] []) -> (match Xlf (x :: xs) sd with
          | some sd' => o = some (.x0 (szs sd') (dps sd'))
          | none => o = some (.x1 [] [])) := by
      intro hq o h
      unfold Xlf
      rw [hq]; exact h
    have cap : ∀ (l : List Int) (t : Int), l.length <= 2000 -> X2i (List.length (l ++ [t])) 8 = some () := fun l t hl => X5f (by simp; omega)
    have hls : (szs sd).length <= 2000 := by unfold szs; simp; omega
    have hld : (dps sd).length <= 2000 := by unfold dps; simp; omega
    unfold Xc9
    by_cases h4 : x.Kind <= 4
    · rw [Yt h4, cond_true]
      simp only [Yo]
      rw [show decide ((0 : Int) > 0) = false from rfl, cond_false, Xm4, Yo]
      by_cases hok : okN x 0 0
      · rw [Yt hok, Bool.not_true, cond_false, cap _ _ hls, cap _ _ hld]
        exact go (1, 1) (by unfold nst; rw [if_pos h4, if_pos hok]) (Nat.le_refl _) (by omega) (Nat.le_refl _)
      · rw [Yf hok, Bool.not_false, cond_true]
        exact stop (by unfold nst; rw [if_pos h4, if_neg hok]) rfl
    · rw [Yf h4, cond_false]
      have hgl : 0 < sd.length -> ∃ q, sd.getLast? = some q /\ sd[sd.length - 1]? = some q := by
        intro h
        refine ⟨sd[sd.length - 1]'(by omega), ?_, ?_⟩
        · rw [List.getLast?_eq_getElem?]; exact Ye _
        · exact Ye _
      by_cases hl : sd.length = 0
      · have hnil := List.eq_nil_of_length_eq_zero hl
        refine stop (by unfold nst; rw [if_neg h4, hnil]; rfl) ?_
        rw [hl]
        by_cases h6 : x.Kind <= 6
        · rw [Yt h6]; rfl
        · rw [Yf h6]; rfl
      · obtain ⟨q, hq1, hq⟩ := hgl (by omega)
        obtain ⟨g1, g2, g3⟩ := hb _ _ hq
        have hw : IntKind.i64.wrap ((sd.length : Int) - 1) = ((sd.length - 1 : Nat) : Int) := Xk2 (by omega) (by omega)
        rw [hw]
        rw [show decide (((sd.length - 1 : Nat) : Int) < 0) = false from Yf (by omega), Xpb hq, Xqp hq]
        simp only [cond_false]
        by_cases h6 : x.Kind <= 6
        · rw [Yt h6, cond_true]
          simp only [Yo]
          rw [show decide ((1 : Int) > 0) = true from rfl, cond_true, show ((1 : Int) == 2) = false from rfl, cond_false, Xm4, Yo]
          rw [show ((sd.length - 1 : Nat) : Int) = (sd.length : Int) - 1 by omega]
          by_cases hok : okN x ((sd.length : Int) - 1) 0
          · rw [Yt hok, Bool.not_true, cond_false, cap _ _ hls, cap _ _ hld]
            rw [X18 (by omega) (by omega), X18 (by omega) (by omega)]
            have := go (1 + q.1, 1 + q.2) (by unfold nst; rw [if_neg h4, hq1]; simp only; rw [if_pos h6, if_pos hok]) (by simp only; omega) (by simp only; omega) (by simp only; omega)
            simp only at this
            push_cast at this
            exact this
          · rw [Yf hok, Bool.not_false, cond_true]
            exact stop (by unfold nst; rw [if_neg h4, hq1]; simp only; rw [if_pos h6, if_neg hok]) rfl
        · rw [Yf h6, cond_false]
          simp only [Yo]
          rw [show decide ((2 : Int) > 0) = true from rfl, cond_true, show ((2 : Int) == 2) = true from rfl, cond_true]
          have hw2 : IntKind.i64.wrap (((sd.length - 1 : Nat) : Int) - q.1) = (sd.length : Int) - 1 - q.1 := by rw [X18 (by omega) (by omega)]; omega
          rw [hw2]
          by_cases hlt : sd.length - 1 < q.1
          · rw [show decide ((sd.length : Int) - 1 - q.1 < 0) = true from Yt (by omega), cond_true]
            exact stop (by unfold nst; rw [if_neg h4, hq1]; simp only; rw [if_neg h6, if_pos hlt]) rfl
          · rw [show decide ((sd.length : Int) - 1 - q.1 < 0) = false from Yf (by omega), cond_false]
            have hpe : sd[sd.length - 1 - q.1]? = some (sd[sd.length - 1 - q.1]'(by omega)) := Ye _
            generalize sd[sd.length - 1 - q.1]'(by omega) = p at hpe
            obtain ⟨f1, f2, f3⟩ := hb _ _ hpe
            rw [show (sd.length : Int) - 1 - q.1 = ((sd.length - 1 - q.1 : Nat) : Int) by omega, Xpb hpe, Xqp hpe]
            simp only [Yo]
            rw [Xm4, Yo]
            rw [show ((sd.length - 1 - q.1 : Nat) : Int) = (sd.length : Int) - 1 - q.1 by omega, show ((sd.length - 1 : Nat) : Int) = (sd.length : Int) - 1 by omega]
            by_cases hok : okN x ((sd.length : Int) - 1 - q.1) ((sd.length : Int) - 1)
            · rw [Yt hok, Bool.not_true, cond_false, cap _ _ hls, cap _ _ hld]
              rw [X18 (z := 1 + (q.1 : Int)) (by omega) (by omega), X18 (z := 1 + (q.1 : Int) + p.1) (by omega) (by omega), X18 (by omega) (by omega), X18 (by omega) (by omega)]
              have := go (1 + q.1 + p.1, max (1 + q.2) (1 + p.2)) (by unfold nst; rw [if_neg h4, hq1]; simp only; rw [if_neg h6, if_neg hlt, hpe]; simp only; rw [if_pos hok]) (by simp only; omega) (by simp only; omega) (by simp only; omega)
              simp only at this
              rw [show ((1 + q.1 + p.1 : Nat) : Int) = 1 + (q.1 : Int) + p.1 by omega, show ((max (1 + q.2) (1 + p.2) : Nat) : Int) = (if 1 + (p.2 : Int) > 1 + q.2 then 1 + (p.2 : Int) else 1 + q.2) by split <;> omega] at this
              exact this
            · rw [Yf hok, Bool.not_false, cond_true]
              exact stop (by unfold nst; rw [if_neg h4, hq1]; simp only; rw [if_neg h6, if_neg hlt, hpe]; simp only; rw [if_neg hok]) rfl
theorem Xb5 {l : List X00} : X50 l = some (Xb7 l) := by
 unfold X50 Xb7
 by_cases h60 : l.length > 60
 ·rw [Yt (show (l.length : Int) > 60 by omega), cond_true, if_pos h60]
 ·rw [Yf (show ¬ (l.length : Int) > 60 by omega), cond_false, if_neg h60]
  have hL := Xxe l l [] (by simp; omega) (by simp)
  unfold Xc8
  rw [X3y (by omega)]
  cases hr : Xlf l [] with
  | none =>
   rw [hr] at hL
   simp only [List.length_nil] at hL
   rw [show szs [] = [] from rfl, show dps [] = [] from rfl] at hL
   rw [Yo, hL]; rfl
  | some sd =>
   rw [hr] at hL
   simp only [List.length_nil] at hL
   rw [show szs [] = [] from rfl, show dps [] = [] from rfl] at hL
   rw [Yo, hL]
   have hn := Xib l [] sd hr
   simp only [List.length_nil, Nat.zero_add] at hn
   simp only [Yo]
   by_cases hz : l.length = 0
   ·rw [List.eq_nil_of_length_eq_zero (hn.trans hz), List.eq_nil_of_length_eq_zero hz]; rfl
   ·have hq : sd[sd.length - 1]? = some (sd[sd.length - 1]'(by omega)) := Ye _
    generalize sd[sd.length - 1]'(by omega) = q at hq
    have hg : sd.getLast? = some q := by rw [List.getLast?_eq_getElem?]; exact hq
    rw [hg]
    have hw : IntKind.i64.wrap ((l.length : Int) - 1) = ((sd.length - 1 : Nat) : Int) := by rw [<- hn]; exact Xk2 (by omega) (by omega)
    rw [show decide ((l.length : Int) > 0) = true from Yt (by omega), cond_true, hw, Xpb hq]
    simp only [Yo, cond_true]
    rw [Xqp hq]
    by_cases he : q.1 = l.length
    ·rw [if_pos he, show ((q.1 : Int) == (l.length : Int)) = true by rw [he]; simp, Bool.not_true, cond_false]
     by_cases hd : q.2 > 20
     ·rw [if_pos hd, Yo, Yt (show (q.2 : Int) > 20 by omega)]; rfl
     ·rw [if_neg hd, Yo, Yf (show ¬ (q.2 : Int) > 20 by omega)]; rfl
    ·rw [if_neg he, show ((q.1 : Int) == (l.length : Int)) = false by simp; omega, Bool.not_false, cond_true]
end Go.D


namespace Go.D
theorem X02i {sd : List (Nat × Nat)} {x : X00} {q : Nat × Nat} (h : nst sd x = some q) : ∃ a b, okN x a b /\ (x.Kind <= 4 -> a = 0 /\ b = 0) /\ (5 <= x.Kind -> 0 < sd.length /\ (x.Kind <= 6 -> a = (sd.length : Int) - 1 /\ b = 0) /\ (7 <= x.Kind -> 0 <= a /\ a <= (sd.length : Int) - 1 /\ b = (sd.length : Int) - 1)) := by
 unfold nst at h
 split at h
 ·rename_i h4
  split at h
  ·rename_i ho; exact ⟨0, 0, ho, fun _ => ⟨rfl, rfl⟩, fun h5 => by omega⟩
  ·cases h
 ·rename_i h4
  split at h
  ·cases h
  ·rename_i s2 d2 hg
   have hl : 0 < sd.length := by
    cases sd with
    | nil => cases hg
    | cons => simp
   split at h
   ·rename_i h6
    split at h
    ·rename_i ho; exact ⟨_, _, ho, fun h4' => absurd h4' h4, fun _ => ⟨hl, fun _ => ⟨rfl, rfl⟩, fun h7 => by omega⟩⟩
    ·cases h
   ·rename_i h6
    split at h
    ·cases h
    ·rename_i hlt
     split at h
     ·cases h
     ·split at h
      ·rename_i ho; exact ⟨_, _, ho, fun h4' => absurd h4' h4, fun _ => ⟨hl, fun h6' => absurd h6' h6, fun _ => ⟨by omega, by omega, rfl⟩⟩⟩
      ·cases h
structure Xls (x : X00) (k : Nat) : Prop where
 lo : 1 <= x.Kind
 hi : x.Kind <= 19
 leaf : x.Kind <= 4 -> x.A = 0 /\ x.B = 0
 a0 : 0 <= x.A
 b0 : 0 <= x.B
 ak : 5 <= x.Kind -> x.A < k
 b1 : 5 <= x.Kind -> x.Kind <= 6 -> x.B = 0
 bk : 5 <= x.Kind -> x.B < k
 n0 : 0 <= x.N
 nk : x.N = 0 \/ x.Kind = 1
 at0 : 0 <= x.At
 at1 : x.At <= 400
theorem Xv0 : ∀ (xs : List X00) (sd sd' : List (Nat × Nat)), Xlf xs sd = some sd' -> ∀ j x, xs[j]? = some x -> Xls x (sd.length + j)
 | [], sd, sd', h, j, x, hj => by simp at hj
 | y :: ys, sd, sd', h, j, x, hj => by
  unfold Xlf at h
  split at h
  ·rename_i q hq
   cases j with
   | zero =>
    simp at hj; subst hj
    obtain ⟨a, b, ho, h4, h5⟩ := X02i hq
    obtain ⟨o1, o2, o3, o4, o5, o6, rfl, rfl⟩ := ho
    refine ⟨o1, o2, h4, ?_, ?_, ?_, ?_, ?_, o3, o4, o5, o6⟩
    all_goals
     by_cases h4' : y.Kind <= 4
     ·have := h4 h4'; omega
     ·have h5' := h5 (by omega)
      by_cases h6 : y.Kind <= 6
      ·have := h5'.2.1 h6; omega
      ·have := h5'.2.2 (by omega); omega
   | succ j =>
    have := Xv0 ys _ _ h j x (by simpa using hj)
    rw [List.length_append, List.length_singleton] at this
    rw [show sd.length + (j + 1) = sd.length + 1 + j by omega]; exact this
  ·cases h
def giv (K : Int) : Bool := (K == 6) || decide (12 <= K)
theorem Xn5 (K : Int) : X6v K = some (giv K) := by
 unfold X6v giv
 congr 1
def X3o (l : List X00) (i : Int) : Int := match X2o l i with | some e => e.Kind | none => 0
def Xnk (l : List X00) (x : X00) : Bool :=
 if x.Kind <= 4 then true
 else if x.Kind = 5 then !(giv (X3o l x.A))
 else if x.Kind = 6 then giv (X3o l x.A)
 else if x.Kind <= 15 then !(giv (X3o l x.A)) && !(giv (X3o l x.B))
 else if x.Kind <= 17 then (giv (X3o l x.A)) == (giv (X3o l x.B))
 else giv (X3o l x.A) && giv (X3o l x.B)
def wrN (l : List X00) : List X00 -> Nat -> Option Nat
 | [], _ => none
 | x :: xs, k => if Xnk l x then wrN l xs (k + 1) else some k
theorem Xdo {α : Type} {l : List α} {i : Int} (h0 : 0 <= i) (h1 : i < l.length) : ∃ e, X2o l i = some e /\ l[i.toNat]? = some e := by
 obtain ⟨n, rfl⟩ : ∃ n : Nat, i = n := ⟨i.toNat, by omega⟩
 exact ⟨l[n]'(by omega), by rw [X6c]; exact Ye _, by simp⟩
theorem Xck {l : List X00} {i : Int} (h0 : 0 <= i) (h1 : i < l.length) : ∃ e, X2o l i = some e /\ X3o l i = e.Kind := by
 obtain ⟨e, h, _⟩ := Xdo h0 h1
 exact ⟨e, h, by unfold X3o; rw [h]⟩
theorem X017 {l : List X00} {x : X00} {k : Nat} (hk : l[k]? = some x) (ho : Xls x k) : Xbn l (k : Int) = some (Xnk l x) := by
 have hlt := (Ys.1 hk).1
 have hA : x.A < l.length := by
  by_cases h : x.Kind <= 4
  ·have := (ho.leaf h).1; omega
  ·have := ho.ak (by omega); omega
 have hB : x.B < l.length := by
  by_cases h : x.Kind <= 4
  ·have := (ho.leaf h).2; omega
  ·have := ho.bk (by omega); omega
 obtain ⟨a, ha, hka⟩ := Xck ho.a0 hA
 obtain ⟨b, hb, hkb⟩ := Xck ho.b0 hB
 unfold Xbn Xnk
 rw [X6c, hk, Yo, ha, Yo, hb, Xn5, Yo, Yo, Xn5, Yo, hka, hkb]
 have h1 := ho.lo
 have h2 := ho.hi
 by_cases h4 : x.Kind <= 4
 ·rw [if_pos h4, Yt h4]; rfl
 ·rw [if_neg h4, Yf h4, cond_false]
  by_cases h5 : x.Kind = 5
  ·rw [if_pos h5, show (x.Kind == 5) = true by simp [h5]]; rfl
  ·rw [if_neg h5, show (x.Kind == 5) = false by simp [h5], cond_false]
   by_cases h6 : x.Kind = 6
   ·rw [if_pos h6, show (x.Kind == 6) = true by simp [h6]]; rfl
   ·rw [if_neg h6, show (x.Kind == 6) = false by simp [h6], cond_false]
    by_cases h15 : x.Kind <= 15
    ·rw [if_pos h15, show (bif (x.Kind == 16) then true else (x.Kind == 17)) = false by rw [show (x.Kind == 16) = false by simp; omega, show (x.Kind == 17) = false by simp; omega]; rfl, Yf (show ¬ x.Kind >= 18 by omega)]
     cases giv a.Kind <;> cases giv b.Kind <;> rfl
    ·rw [if_neg h15]
     by_cases h17 : x.Kind <= 17
     ·rw [if_pos h17, show (bif (x.Kind == 16) then true else (x.Kind == 17)) = true by rcases (by omega : x.Kind = 16 \/ x.Kind = 17) with h | h <;> simp [h]]; rfl
     ·rw [if_neg h17, show (bif (x.Kind == 16) then true else (x.Kind == 17)) = false by rw [show (x.Kind == 16) = false by simp; omega, show (x.Kind == 17) = false by simp; omega]; rfl, Yt (show x.Kind >= 18 by omega)]
      cases giv a.Kind <;> cases giv b.Kind <;> rfl
theorem Xr1 {l : List X00} (ho : ∀ j x, l[j]? = some x -> Xls x j) : ∀ (xs : List X00) (k : Nat), l.drop k = xs -> X4k l xs k = some (match wrN l xs k with | none => .x0 | some j => .x1 (j : Int))
 | [], k, _ => rfl
 | x :: xs, k, h => by
  have hk : l[k]? = some x := by
   have : (l.drop k)[0]? = some x := by rw [h]; rfl
   simpa using this
  have hd : l.drop (k + 1) = xs := by
   have : (l.drop k).drop 1 = xs := by rw [h]; rfl
   rw [List.drop_drop] at this; exact this
  rw [X4k, X017 hk (ho k x hk), Yo, wrN]
  cases Xnk l x with
  | true => exact Xr1 ho xs (k + 1) hd
  | false => rfl
def gvs (l : List X00) (k : Nat) : List Bool := (l.take k).map fun e => giv e.Kind
theorem Xql {l : List X00} {k : Nat} (hk : k <= l.length) {i : Int} (h0 : 0 <= i) (h1 : i < k) : X2o (gvs l k) i = some (giv (X3o l i)) := by
 obtain ⟨e, he, hke⟩ := Xck (l := l) h0 (by omega)
 have hi : (i.toNat : Int) = i := by omega
 rw [hke, <- hi, X6c]
 rw [<- hi, X6c] at he
 unfold gvs
 rw [List.getElem?_map, List.getElem?_take_of_lt (by omega), he]; rfl
theorem Xrp {l : List X00} {k : Nat} {x : X00} (hk : l[k]? = some x) : gvs l (k + 1) = gvs l k ++ [giv x.Kind] := by
 unfold gvs
 rw [List.take_add_one, hk, List.map_append]; rfl
theorem Xud {l : List X00} (hn : l.length <= 1000) (ho : ∀ j x, l[j]? = some x -> Xls x j) : ∀ (xs : List X00) (k : Nat), l.drop k = xs -> X24 l xs k (gvs l k) = some (match wrN l xs k with | none => .x0 (gvs l l.length) | some j => .x1 [] (j : Int))
 | [], k, h => by
  have : l.length <= k := by
   have := congrArg List.length h; simp at this; omega
  rw [X24, wrN]
  unfold gvs
  rw [List.take_of_length_le this, List.take_length]
 | x :: xs, k, h => by
  have hk : l[k]? = some x := by
   have : (l.drop k)[0]? = some x := by rw [h]; rfl
   simpa using this
  have hd : l.drop (k + 1) = xs := by
   have : (l.drop k).drop 1 = xs := by rw [h]; rfl
   rw [List.drop_drop] at this; exact this
  have hlt := (Ys.1 hk).1
  have hox := ho k x hk
  have ih := Xud hn ho xs (k + 1) hd
  have h1 := hox.lo
  have h2 := hox.hi
  have cap : ∀ b, X2i (List.length (gvs l k ++ [b])) 1 = some () := fun b => X5f (by unfold gvs; simp; omega)
  have go : giv x.Kind = false -> Xnk l x = true -> X24 l xs (k + 1) (gvs l k ++ [false]) = some (match wrN l (x :: xs) k with | none => .x0 (gvs l l.length) | some j => .x1 [] (j : Int)) := by
   intro g f
   rw [wrN, f, if_pos rfl, <- ih, Xrp hk, g]
  have go' : giv x.Kind = true -> Xnk l x = true -> X24 l xs (k + 1) (gvs l k ++ [true]) = some (match wrN l (x :: xs) k with | none => .x0 (gvs l l.length) | some j => .x1 [] (j : Int)) := by
   intro g f
   rw [wrN, f, if_pos rfl, <- ih, Xrp hk, g]
  have stop : Xnk l x = false -> (some (.x1 [] (k : Int)) : Option X5y) = some (match wrN l (x :: xs) k with | none => .x0 (gvs l l.length) | some j => .x1 [] (j : Int)) := by
   intro f
   rw [wrN, f]; rfl
  rw [X24]
  by_cases h4 : x.Kind <= 4
  ·rw [Yt h4, cond_true, cap, Yo]
   exact go (by unfold giv; simp; omega) (by unfold Xnk; rw [if_pos h4])
  ·rw [Yf h4, cond_false]
   have hA : X2o (gvs l k) x.A = some (giv (X3o l x.A)) := Xql (by omega) hox.a0 (hox.ak (by omega))
   have hB : X2o (gvs l k) x.B = some (giv (X3o l x.B)) := Xql (by omega) hox.b0 (hox.bk (by omega))
   by_cases h5 : x.Kind = 5
   ·have hf : Xnk l x = !(giv (X3o l x.A)) := by unfold Xnk; rw [if_neg h4, if_pos h5]
    rw [show (x.Kind == 5) = true by simp [h5], cond_true, hA]
    cases hg : giv (X3o l x.A) with
    | true => exact stop (by rw [hf, hg]; rfl)
    | false =>
     show (X2i (List.length (gvs l k ++ [false])) 1).bind _ = _
     rw [cap, Yo]; exact go (by unfold giv; simp [h5]) (by rw [hf, hg]; rfl)
   ·rw [show (x.Kind == 5) = false by simp [h5], cond_false]
    by_cases h6 : x.Kind = 6
    ·have hf : Xnk l x = giv (X3o l x.A) := by unfold Xnk; rw [if_neg h4, if_neg h5, if_pos h6]
     rw [show (x.Kind == 6) = true by simp [h6], cond_true, hA]
     cases hg : giv (X3o l x.A) with
     | false => exact stop (by rw [hf, hg])
     | true =>
      show (X2i (List.length (gvs l k ++ [true])) 1).bind _ = _
      rw [cap, Yo]; exact go' (by unfold giv; simp [h6]) (by rw [hf, hg])
    ·rw [show (x.Kind == 6) = false by simp [h6], cond_false]
     have lok : X5e (List.length [x.A, x.B]) = some () := X3y (by simp)
     by_cases h15 : x.Kind <= 15
     ·have hf : Xnk l x = (!(giv (X3o l x.A)) && !(giv (X3o l x.B))) := by unfold Xnk; rw [if_neg h4, if_neg h5, if_neg h6, if_pos h15]
      by_cases h11 : x.Kind <= 11
      ·have hgx : giv x.Kind = false := by unfold giv; simp; omega
       rw [Yt h11, cond_true, Yo, lok]
       simp only [X0p, hA, hB]
       generalize giv (X3o l x.A) = p at hf
       generalize giv (X3o l x.B) = r at hf
       cases p <;> cases r
       ·show (X2i (List.length (gvs l k ++ [false])) 1).bind _ = _
        rw [cap, Yo]; exact go hgx hf
       all_goals exact stop hf
      ·have hgx : giv x.Kind = true := by unfold giv; simp; omega
       rw [Yf h11, cond_false, Yt h15, cond_true, Yo, lok]
       simp only [X0p, hA, hB]
       generalize giv (X3o l x.A) = p at hf
       generalize giv (X3o l x.B) = r at hf
       cases p <;> cases r
       ·show (X2i (List.length (gvs l k ++ [true])) 1).bind _ = _
        rw [cap, Yo]; exact go' hgx hf
       all_goals exact stop hf
     ·rw [Yf (show ¬ x.Kind <= 11 by omega), cond_false, Yf h15, cond_false]
      have hgx : giv x.Kind = true := by unfold giv; simp; omega
      by_cases h17 : x.Kind <= 17
      ·have hf : Xnk l x = ((giv (X3o l x.A)) == (giv (X3o l x.B))) := by unfold Xnk; rw [if_neg h4, if_neg h5, if_neg h6, if_neg h15, if_pos h17]
       rw [Yt h17, cond_true, Yo, lok]
       simp only [X0p, X0r, hA, hB]
       generalize giv (X3o l x.A) = p at hf
       generalize giv (X3o l x.B) = r at hf
       cases p <;> cases r
       ·show (X2i (List.length (gvs l k ++ [true])) 1).bind _ = _
        rw [cap, Yo]; exact go' hgx hf
       ·exact stop hf
       ·exact stop hf
       ·show (X2i (List.length (gvs l k ++ [true])) 1).bind _ = _
        rw [cap, Yo]; exact go' hgx hf
      ·have hf : Xnk l x = ((giv (X3o l x.A)) && (giv (X3o l x.B))) := by unfold Xnk; rw [if_neg h4, if_neg h5, if_neg h6, if_neg h15, if_neg h17]
       rw [Yf h17, cond_false, Yo, lok]
       simp only [X0p, X0r, hA, hB]
       generalize giv (X3o l x.A) = p at hf
       generalize giv (X3o l x.B) = r at hf
       cases p <;> cases r
       ·exact stop hf
       ·exact stop hf
       ·exact stop hf
       ·show (X2i (List.length (gvs l k ++ [true])) 1).bind _ = _
        rw [cap, Yo]; exact go' hgx hf
end Go.D


namespace Go.D
theorem Xz0 (a b : Int) : a < b \/ b <= a := by omega
theorem Xv1 {α : Type} {l : List α} (h : l.Nodup) : l.reverse.Nodup := by
 unfold List.Nodup at *
 rw [List.pairwise_reverse]
 exact h.imp fun h => Ne.symm h
def okT (t : Int) : Prop := -1099511627776 <= t /\ t <= 1099511627776
def okW (w : X0x) : Prop := 1 <= w.Size /\ w.Size <= 1073741824 /\ ((w.Kind = 2 /\ 1 <= w.Every /\ w.Every <= w.Size /\ w.Size <= 16 * w.Every) \/ ((w.Kind = 1 \/ w.Kind = 3) /\ w.Every = 0))
theorem X0c {w : X0x} (h : okW w) : X1o w = some 0 := by
 obtain ⟨h1, h2, h3⟩ := h
 have e1 : decide (w.Size < 1) = false := by simp; omega
 have e2 : decide (w.Size > 1073741824) = false := by simp; omega
 simp only [X1o, e1, e2, cond_false]
 rcases h3 with ⟨k, a1, a2, a3⟩ | ⟨k | k, a⟩
 ·have e3 : (w.Kind == 2) = true := by simp [k]
  have e4 : decide (w.Every >= 1) = true := by simp; omega
  have e5 : decide (w.Every <= w.Size) = true := by simp; omega
  have e6 : decide (w.Size <= IntKind.i64.wrap (16 * w.Every)) = true := by rw [X18 (by omega) (by omega)]; simp; omega
  simp only [e3, e4, e5, e6, cond_true]
 ·have e3 : (w.Kind == 2) = false := by simp [k]
  have e4 : (w.Kind == 1) = true := by simp [k]
  have e5 : (w.Every == 0) = true := by simp [a]
  simp only [e3, e4, e5, cond_true, cond_false]
 ·have e3 : (w.Kind == 2) = false := by simp [k]
  have e4 : (w.Kind == 1) = false := by simp [k]
  have e6 : (w.Kind == 3) = true := by simp [k]
  have e5 : (w.Every == 0) = true := by simp [a]
  simp only [e3, e4, e5, e6, cond_true, cond_false]
theorem X5t {t size : Int} (ht : okT t) (h1 : 1 <= size) (h2 : size <= 1073741824) : Xbj t size = some (⟨t / size * size, t / size * size + size⟩, 0) := by
 obtain ⟨t1, t2⟩ := ht
 have e1 : decide (size < 1) = false := by simp; omega
 have e2 : decide (size > 1073741824) = false := by simp; omega
 have e3 : decide (t < -1099511627776) = false := by simp; omega
 have e4 : decide (t > 1099511627776) = false := by simp; omega
 have hm := Int.mul_ediv_add_emod t size
 have hm1 := Int.emod_nonneg t (show size ≠ 0 by omega)
 have hm2 := Int.emod_lt_of_pos t (show 0 < size by omega)
 have q1 : -1099511627776 <= t / size := by
  rcases Xz0 (t / size) (-1099511627776) with h | h
  ·exfalso
   have : size * (t / size) <= size * (-1099511627777) := Int.mul_le_mul_of_nonneg_left (by omega) (by omega)
   omega
  ·exact h
 have q2 : t / size <= 1099511627776 := by
  rcases Xz0 1099511627776 (t / size) with h | h
  ·exfalso
   have : size * 1099511627777 <= size * (t / size) := Int.mul_le_mul_of_nonneg_left (by omega) (by omega)
   omega
  ·exact h
 have hn : X7d t size = some (t / size, 0) := by
  simp only [X7d, Xan, e1, e2, e3, e4, cond_false, Yo, bne_self_eq_false]
  have hd : Xwb size = some () := by unfold Xwb; rw [if_pos (by omega)]
  rw [hd, Yo]
  have htm := Int.tmod_add_mul_tdiv t size
  by_cases hneg : Int.tmod t size < 0
  ·have e5 : decide (Int.tmod t size < 0) = true := by simp [hneg]
   rw [e5, cond_true, Yo]
   have hq : Int.tdiv t size - 1 = t / size := by
    have h3 : Int.tdiv t size = t / size + if 0 <= t \/ size ∣ t then 0 else size.sign := Int.tdiv_eq_ediv
    have h4 : ¬ (0 <= t \/ size ∣ t) := by
     rintro (h | h)
     ·have := Int.tmod_nonneg size h; omega
     ·have := Int.tmod_eq_zero_of_dvd h; omega
    rw [if_neg h4, Int.sign_eq_one_of_pos (by omega)] at h3
    omega
   have e6 : IntKind.i64.wrap (Int.tdiv t size) = Int.tdiv t size := X18 (by omega) (by omega)
   rw [e6, hq, X18 (by omega) (by omega)]
  ·have e5 : decide (Int.tmod t size < 0) = false := by simp; omega
   rw [e5, cond_false, Yo]
   have hq : Int.tdiv t size = t / size := by
    have h3 : Int.tdiv t size = t / size + if 0 <= t \/ size ∣ t then 0 else size.sign := Int.tdiv_eq_ediv
    by_cases h4 : 0 <= t \/ size ∣ t
    ·rw [if_pos h4] at h3; omega
    ·exfalso
     rw [if_neg h4, Int.sign_eq_one_of_pos (by omega)] at h3
     rw [h3, Int.mul_add, Int.mul_one] at htm
     omega
   rw [hq, X18 (by omega) (by omega)]
 simp only [Xbj, hn, Yo, bne_self_eq_false, cond_false]
 have e7 : t / size * size = size * (t / size) := Int.mul_comm _ _
 have e8 : IntKind.i64.wrap (t / size + 1) = t / size + 1 := X18 (by omega) (by omega)
 have e9 : (t / size + 1) * size = size * (t / size) + size := by rw [Int.add_mul, e7]; omega
 rw [e8, e9, e7, X18 (by omega) (by omega), X18 (by omega) (by omega)]
def Xc0 (t size every : Int) : Nat -> Int -> List X13
 | 0, _ => []
 | K + 1, s => if s + size > t then ⟨s, s + size⟩ :: Xc0 t size every K (s - every) else []
theorem Xxd {t size every : Int} (ht : okT t) (h1 : 1 <= every) (h2 : every <= size) (h3 : size <= 1073741824) : ∀ (K f : Nat) (acc : List X13) (s : Int), s <= t -> -1200000000000 + K * 1073741824 <= s -> s + size - t <= K * every -> K < f -> acc.length + K <= 1000000 ->
  X5u t size every f acc s = some (.x0 (acc ++ Xc0 t size every K s)) := by
 obtain ⟨t1, t2⟩ := ht
 intro K
 induction K with
 | zero =>
  intro f acc s hs hl hK hf ha
  cases f with
  | zero => omega
  | succ f =>
   rw [X5u]
   simp only [Int.natCast_zero, Int.zero_mul] at hK hl
   have : decide (IntKind.i64.wrap (s + size) > t) = false := by rw [X18 (by omega) (by omega)]; simp; omega
   rw [this, cond_false]; simp [Xc0]
 | succ K ih =>
  intro f acc s hs hl hK hf ha
  cases f with
  | zero => omega
  | succ f =>
   rw [X5u]
   have e0 : ((K + 1 : Nat) : Int) * every = K * every + every := by rw [Int.natCast_add, Int.natCast_one, Int.add_mul, Int.one_mul]
   have e00 : ((K + 1 : Nat) : Int) * 1073741824 = K * 1073741824 + 1073741824 := by omega
   have e1 : IntKind.i64.wrap (s + size) = s + size := X18 (by omega) (by omega)
   rw [e1]
   by_cases hgt : s + size > t
   ·have : decide (s + size > t) = true := by simpa using hgt
    rw [this, cond_true, X5f (by simp; omega), Yo]
    have e2 : IntKind.i64.wrap (s - every) = s - every := X18 (by omega) (by omega)
    rw [e2, ih f _ _ (by omega) (by omega) (by omega) (by omega) (by simp; omega)]
    rw [Xc0, if_pos hgt]; simp
   ·have : decide (s + size > t) = false := by simpa using hgt
    rw [this, cond_false, Xc0, if_neg hgt]; simp
theorem Xpc (back : List X13) (hb : back.length <= 1000) : ∀ (k f : Nat) (acc : List X13), k <= back.length -> k < f -> acc.length + k <= 1000000 ->
  X3u back f acc ((k : Int) - 1) = some (.x0 (acc ++ (back.take k).reverse) back) := by
 intro k
 induction k with
 | zero =>
  intro f acc _ hf _
  cases f with
  | zero => omega
  | succ f =>
   rw [X3u]
   simp
 | succ k ih =>
  intro f acc hk hf ha
  cases f with
  | zero => omega
  | succ f =>
   rw [X3u]
   have e1 : (((k + 1 : Nat) : Int) - 1) = (k : Int) := by omega
   rw [e1]
   have e2 : decide ((k : Int) >= 0) = true := by simp
   rw [e2, cond_true, X6c, Ye (by omega), Yo, X5f (by simp; omega), Yo]
   rw [X18 (by omega) (by omega), ih f _ (by omega) (by omega) (by simp; omega)]
   rw [List.take_add_one, Ye (by omega)]
   simp only [Option.toList_some, List.reverse_append, List.reverse_cons, List.reverse_nil, List.nil_append, List.append_assoc, List.cons_append]
theorem Xp0 (t size every : Int) : ∀ (K : Nat) (s : Int), (Xc0 t size every K s).length <= K := by
 intro K
 induction K with
 | zero => intro s; simp [Xc0]
 | succ K ih => intro s; rw [Xc0]; split <;> simp; exact ih _
theorem Xyo (t size every : Int) (h : 1 <= every) : ∀ (K : Nat) (s : Int), ∀ x ∈ Xc0 t size every K s, x.Start <= s := by
 intro K
 induction K with
 | zero => intro s x hx; simp [Xc0] at hx
 | succ K ih =>
  intro s x hx
  rw [Xc0] at hx
  split at hx
  ·rcases List.mem_cons.1 hx with rfl | hx
   ·exact Int.le_refl _
   ·have := ih _ x hx; omega
  ·simp at hx
theorem Xqw (t size every : Int) (h : 1 <= every) : ∀ (K : Nat) (s : Int), (Xc0 t size every K s).Nodup := by
 intro K
 induction K with
 | zero => intro s; simp [Xc0]
 | succ K ih =>
  intro s
  rw [Xc0]
  split
  ·rw [List.nodup_cons]
   exact ⟨fun hx => by have := Xyo t size every h K _ _ hx; simp at this; omega, ih _⟩
  ·exact List.nodup_nil
theorem Xwt (t size every : Int) : ∀ (K : Nat) (s : Int), s + size - t <= K * every -> 0 <= every -> ∀ x : X13, x ∈ Xc0 t size every K s ↔ ∃ j : Nat, x.Start = s - j * every /\ x.End = x.Start + size /\ t < x.End := by
 intro K
 induction K with
 | zero =>
  intro s hK he x
  simp only [Int.natCast_zero, Int.zero_mul] at hK
  simp only [Xc0, List.not_mem_nil, false_iff, not_exists, not_and]
  intro j h1 h2
  have : (0 : Int) <= j * every := Int.mul_nonneg (by omega) he
  omega
 | succ K ih =>
  intro s hK he x
  have e0 : ((K + 1 : Nat) : Int) * every = K * every + every := by rw [Int.natCast_add, Int.natCast_one, Int.add_mul, Int.one_mul]
  rw [Xc0]
  by_cases hgt : s + size > t
  ·rw [if_pos hgt, List.mem_cons, ih (s - every) (by omega) he x]
   constructor
   ·rintro (rfl | ⟨j, h1, h2, h3⟩)
    ·exact ⟨0, by simp, rfl, hgt⟩
    ·refine ⟨j + 1, ?_, h2, h3⟩
     have : ((j + 1 : Nat) : Int) * every = j * every + every := by rw [Int.natCast_add, Int.natCast_one, Int.add_mul, Int.one_mul]
     omega
   ·rintro ⟨j, h1, h2, h3⟩
    cases j with
    | zero => left; apply Xia; simp at h1; exact h1; simp at h1; show x.End = s + size; omega
    | succ j =>
     right
     have : ((j + 1 : Nat) : Int) * every = j * every + every := by rw [Int.natCast_add, Int.natCast_one, Int.add_mul, Int.one_mul]
     exact ⟨j, by omega, h2, h3⟩
  ·rw [if_neg hgt]
   simp only [List.not_mem_nil, false_iff, not_exists, not_and]
   intro j h1 h2
   have : (0 : Int) <= j * every := Int.mul_nonneg (by omega) he
   omega
theorem Xok {t size every : Int} (h1 : 1 <= every) (x : X13) : Xol size every t x ↔ ∃ j : Nat, x.Start = t / every * every - j * every /\ x.End = x.Start + size /\ t < x.End := by
 have hm := Int.mul_ediv_add_emod t every
 have hm1 := Int.emod_nonneg t (show every ≠ 0 by omega)
 have hm2 := Int.emod_lt_of_pos t (show 0 < every by omega)
 have hc : t / every * every = every * (t / every) := Int.mul_comm _ _
 unfold Xol inS
 constructor
 ·rintro ⟨a1, a2, a3, a4⟩
  have hx := Int.mul_ediv_add_emod x.Start every
  rw [a1, Int.add_zero] at hx
  have hle : x.Start / every <= t / every := by
   rcases Xz0 (t / every) (x.Start / every) with h | h
   ·exfalso
    have : every * (t / every + 1) <= every * (x.Start / every) := Int.mul_le_mul_of_nonneg_left (by omega) (by omega)
    rw [Int.mul_add, Int.mul_one] at this
    omega
   ·exact h
  refine ⟨(t / every - x.Start / every).toNat, ?_, a2, a4⟩
  have e1 : (((t / every - x.Start / every).toNat : Nat) : Int) = t / every - x.Start / every := Int.toNat_of_nonneg (by omega)
  rw [e1, Int.sub_mul, Int.mul_comm (x.Start / every)]
  omega
 ·rintro ⟨j, a1, a2, a3⟩
  have hj : (0 : Int) <= j * every := Int.mul_nonneg (by omega) (by omega)
  refine ⟨?_, a2, by omega, a3⟩
  rw [a1, <- Int.sub_mul]
  exact Int.mul_emod_left _ _
theorem X87 {w : X0x} {t : Int} (hw : okW w) (hk : w.Kind ≠ 3) (ht : okT t) : ∃ W, Xfe w t = some (W, 0) /\ W.length <= 16 /\ W.Nodup /\ ∀ s, s ∈ W ↔ Xol w.Size (Xeu w) t s := by
 have hcw := X0c hw
 obtain ⟨w1, w2, w3⟩ := hw
 have ht' := ht
 obtain ⟨t1, t2⟩ := ht
 unfold Xfe
 rw [hcw, Yo]
 rcases w3 with ⟨k, a1, a2, a3⟩ | ⟨k | k, a⟩
 ·have e1 : (w.Kind == 1) = false := by simp [k]
  have e2 : (w.Kind == 2) = true := by simp [k]
  have e3 : Xeu w = w.Every := by unfold Xeu; rw [if_neg (by omega)]
  simp only [bne_self_eq_false, cond_false, e1, e2, cond_true]
  have hm := Int.mul_ediv_add_emod t w.Every
  have hm1 := Int.emod_nonneg t (show w.Every ≠ 0 by omega)
  have hm2 := Int.emod_lt_of_pos t (show 0 < w.Every by omega)
  have hc : t / w.Every * w.Every = w.Every * (t / w.Every) := Int.mul_comm _ _
  have hall : Xdb t w.Size w.Every = some ((Xc0 t w.Size w.Every 16 (t / w.Every * w.Every)).reverse, 0) := by
   unfold Xdb
   have b1 : decide ((if w.Every < w.Size then w.Every else w.Size) < 1) = false := by simp; split <;> omega
   have b2 : decide (w.Size > 1073741824) = false := by simp; omega
   have b3 : decide (w.Every > w.Size) = false := by simp; omega
   have b4 : decide (w.Size > IntKind.i64.wrap (16 * w.Every)) = false := by rw [X18 (by omega) (by omega)]; simp; omega
   simp only [b1, b2, b3, b4, cond_false, X5t ht' a1 (by omega), Yo, bne_self_eq_false]
   have hL := Xxd ht' a1 a2 w2 16 FU [] (t / w.Every * w.Every) (by omega) (by omega) (by omega) (by unfold FU; omega) (by simp)
   rw [hL, Yo]
   simp only [List.nil_append]
   have hlen := Xp0 t w.Size w.Every 16 (t / w.Every * w.Every)
   rw [X18 (by omega) (by omega)]
   have hR := Xpc (Xc0 t w.Size w.Every 16 (t / w.Every * w.Every)) (by omega) (Xc0 t w.Size w.Every 16 (t / w.Every * w.Every)).length FU [] (Nat.le_refl _) (by unfold FU; omega) (by simp; omega)
   rw [hR, Yo]
   simp
  rw [hall, Yo]
  refine ⟨_, rfl, by rw [List.length_reverse]; exact Xp0 .., Xv1 (Xqw t w.Size w.Every a1 _ _), fun s => ?_⟩
  rw [List.mem_reverse, e3, Xok a1, Xwt t w.Size w.Every 16 _ (by omega) (by omega)]
 ·have e1 : (w.Kind == 1) = true := by simp [k]
  have e3 : Xeu w = w.Size := by unfold Xeu; rw [if_pos k]
  simp only [bne_self_eq_false, cond_false, e1, cond_true, X5t ht' w1 w2, Yo]
  refine ⟨_, rfl, by simp, by simp, fun s => ?_⟩
  rw [List.mem_singleton, e3, Xok w1]
  have hm := Int.mul_ediv_add_emod t w.Size
  have hm1 := Int.emod_nonneg t (show w.Size ≠ 0 by omega)
  have hm2 := Int.emod_lt_of_pos t (show 0 < w.Size by omega)
  have hc : t / w.Size * w.Size = w.Size * (t / w.Size) := Int.mul_comm _ _
  constructor
  ·rintro rfl
   exact ⟨0, by simp, rfl, by show t < t / w.Size * w.Size + w.Size; omega⟩
  ·rintro ⟨j, h1, h2, h3⟩
   have hj : (j : Int) = 0 := by
    rcases Xz0 0 (j : Int) with h | h
    ·exfalso
     have : (1 : Int) * w.Size <= j * w.Size := Int.mul_le_mul_of_nonneg_right (by omega) (by omega)
     omega
    ·omega
   rw [hj, Int.zero_mul] at h1
   exact Xia (by show s.Start = t / w.Size * w.Size; omega) (by show s.End = t / w.Size * w.Size + w.Size; omega)
 ·exact absurd k hk
end Go.D


namespace Go.D
def kOf (l : List X00) : Bool × Int × Int :=
 if Xb7 l ≠ 0 then (false, 0, Xb7 l)
 else match wrN l l 0 with
  | some j => (false, (j : Int), 42)
  | none => (giv (X3o l ((l.length : Int) - 1)), (l.length : Int) - 1, 0)
theorem Xa8 {l : List X00} (h : Xb7 l = 0) : l.length <= 60 /\ 1 <= l.length /\ ∃ sd, Xlf l [] = some sd := by
 unfold Xb7 at h
 split at h
 ·cases h
 ·split at h
  ·cases h
  ·rename_i sd hr
   have hn := Xib l [] sd hr
   simp only [List.length_nil, Nat.zero_add] at hn
   split at h
   ·cases h
   ·rename_i q hq
    have : 1 <= sd.length := by
     cases sd with
     | nil => cases hq
     | cons => simp
    exact ⟨by omega, by omega, sd, hr⟩
theorem Xgj {l : List X00} (h : Xb7 l = 0) : ∀ j x, l[j]? = some x -> Xls x j := by
 obtain ⟨_, _, sd, hr⟩ := Xa8 h
 intro j x hj
 have := Xv0 l [] sd hr j x hj
 simpa using this
theorem Xr2 (l : List X00) : ∀ (xs : List X00) (k j : Nat), wrN l xs k = some j -> k <= j /\ j < k + xs.length
 | [], k, j, h => by cases h
 | x :: xs, k, j, h => by
  unfold wrN at h
  split at h
  ·have := Xr2 l xs (k + 1) j h; simp only [List.length_cons]; omega
  ·cases h; simp only [List.length_cons]; omega
theorem Xjd {l : List X00} (h0 : ∀ x ∈ l, 0 <= x.Kind) : Xe7 l = some (kOf l) := by
 unfold Xe7 kOf
 rw [Xb6 h0, Yo]
 by_cases hz : Xb7 l = 0
 ·obtain ⟨h60, h1, _⟩ := Xa8 hz
  rw [if_neg (by omega), hz, show ((0 : Int) != 0) = false from rfl, cond_false]
  unfold Xe6
  rw [X3y (by omega), Yo]
  have ht := Xud (by omega) (Xgj hz) l 0 rfl
  rw [show gvs l 0 = [] from by unfold gvs; simp] at ht
  rw [ht]
  cases hw : wrN l l 0 with
  | some j =>
   have := (Xr2 l l 0 j hw).2
   simp only [Yo]
   rw [Yt (show (j : Int) < (l.length : Int) by omega)]; rfl
  | none =>
   simp only [Yo]
   rw [Yf (show ¬ (l.length : Int) < (l.length : Int) by omega), cond_false, X18 (by omega) (by omega), Xql (Nat.le_refl _) (by omega) (by omega)]; rfl
 ·rw [if_pos hz, show (Xb7 l != 0) = true by simp [hz]]; rfl
theorem Xpe {l : List X00} : Xfj l = some (kOf l) := by
 unfold Xfj kOf
 rw [Xb5, Yo]
 by_cases hz : Xb7 l = 0
 ·obtain ⟨h60, h1, _⟩ := Xa8 hz
  rw [if_neg (by omega), hz, show ((0 : Int) != 0) = false from rfl, cond_false]
  unfold Xc6
  rw [X3y (by omega), Yo, Xr1 (Xgj hz) l 0 rfl]
  cases hw : wrN l l 0 with
  | some j =>
   have := (Xr2 l l 0 j hw).2
   simp only [Yo]
   rw [Yt (show (j : Int) < (l.length : Int) by omega)]; rfl
  | none =>
   simp only [Yo]
   obtain ⟨e, he, hk⟩ := Xck (l := l) (i := (l.length : Int) - 1) (by omega) (by omega)
   rw [Yf (show ¬ (l.length : Int) < (l.length : Int) by omega), cond_false, X18 (by omega) (by omega), he, Yo, Xn5, hk]; rfl
 ·rw [if_pos hz, show (Xb7 l != 0) = true by simp [hz]]; rfl
def X31 (l : List X00) (b : Bool) : Int × Int :=
 if (kOf l).2.2 = 0 /\ (kOf l).1 ≠ b then ((kOf l).2.1, 42) else ((kOf l).2.1, (kOf l).2.2)
theorem Xfv {l : List X00} {b : Bool} (h0 : ∀ x ∈ l, 0 <= x.Kind) : X9i l b = some (X31 l b) := by
 unfold X9i X31
 rw [Xjd h0, Yo]
 by_cases hz : (kOf l).2.2 = 0
 ·rw [hz, show ((0 : Int) == 0) = true from rfl, cond_true]
  cases hb : (kOf l).1 <;> cases b <;> simp
 ·rw [show ((kOf l).2.2 == 0) = false by simp [hz], cond_false, cond_false, if_neg (fun h => hz h.1)]; rfl
theorem Xfi {l : List X00} {b : Bool} : X8c l b = some (X31 l b) := by
 unfold X8c X31
 rw [Xpe, Yo]
 by_cases hz : (kOf l).2.2 = 0
 ·rw [hz, show ((0 : Int) == 0) = true from rfl, cond_true]
  cases hb : (kOf l).1 <;> cases b <;> simp
 ·rw [show ((kOf l).2.2 == 0) = false by simp [hz], cond_false, cond_false, if_neg (fun h => hz h.1)]
def Xr7 (s : List Int) (j : Bool) : Bool := s.length == 0 || (j && s.length != 2) || s.any fun x => decide (x < 0) || decide (x > 3)
def X6i (s : List Int) (j : Bool) : Int :=
 if s.length > 4 then 4 else if Xr7 s j then 8 else if s.Nodup then 0 else 43
theorem Xnw (Y : List Int) : ∀ (xs : List Int) (k : Nat), ∃ o, X15 Y xs k = some o /\ ((xs.any fun x => decide (x < 0) || decide (x > 3)) = true -> ∃ j : Nat, o = .x1 (j : Int)) /\ ((xs.any fun x => decide (x < 0) || decide (x > 3)) = false -> o = .x0)
 | [], k => ⟨.x0, rfl, by simp, fun _ => rfl⟩
 | x :: xs, k => by
  obtain ⟨o, h1, h2, h3⟩ := Xnw Y xs (k + 1)
  rw [X15]
  unfold X6a
  rw [Yo]
  by_cases hx : x < 0 \/ x > 3
  ·have : (bif decide (x < 0) then true else decide (x >= 4)) = true := by
    rcases hx with h | h
    ·rw [Yt h]; rfl
    ·rw [Yf (by omega), Yt (by omega)]; rfl
   rw [this]
   refine ⟨_, rfl, fun _ => ⟨k, rfl⟩, fun h => ?_⟩
   exfalso
   simp only [List.any_cons, Bool.or_eq_false_iff, decide_eq_false_iff_not] at h
   omega
  ·have : (bif decide (x < 0) then true else decide (x >= 4)) = false := by
    rw [Yf (by omega), Yf (by omega)]; rfl
   rw [this]
   refine ⟨o, h1, fun h => h2 ?_, fun h => h3 ?_⟩
   ·rw [List.any_cons, Yf (by omega), Yf (by omega)] at h; exact h
   ·rw [List.any_cons, Yf (by omega), Yf (by omega)] at h; exact h
theorem Xqs {s : List Int} (hn : s.length <= 1000) : X0b s = some (s.any fun x => decide (x < 0) || decide (x > 3)) := by
 unfold X0b X10
 rw [X3y (by omega), Yo]
 obtain ⟨o, h1, h2, h3⟩ := Xnw s s 0
 rw [h1]
 cases hb : (s.any fun x => decide (x < 0) || decide (x > 3)) with
 | true => obtain ⟨j, rfl⟩ := h2 hb; simp
 | false => rw [h3 hb]; rfl
end Go.D


namespace Go.D
theorem Xev (x y : Xj) : X4o x y = decide (x = y) := by
 obtain ⟨a, b, c⟩ := x
 obtain ⟨a', b', c'⟩ := y
 simp only [X4o, Bool.and_true]
 rw [Bool.eq_iff_iff]
 simp
def Xhg : Int := -9223372036854775808
def Xkz : Int := 9223372036854775807
def Xdm (t : Int) : Bool := decide (-1099511627776 <= t) && decide (t <= 1099511627776)
def Xsb (x : Xi) : Bool := bif x.Mark then decide (x.Record = ⟨0, 0, 0⟩) && (Xdm x.Time || x.Time == Xkz) else x.Time == 0 && Xdm x.Record.Time
def chk (l : List Xi) : Int := if 60 < l.length then 4 else bif l.all Xsb then 0 else 8
theorem Xoe (t : Int) : Xbt t = some (Xdm t) := by
 unfold Xbt Xdm
 simp only [ge_iff_le]
 cases decide (-1099511627776 <= t) <;> rfl
theorem Xi1 (l : List Xi) : ∀ (xs : List Xi) (k : Nat), X55 l xs k = some (bif xs.all Xsb then .x0 else .x1) := by
 intro xs
 induction xs with
 | nil => intro k; rfl
 | cons x xs ih =>
  intro k
  rw [X55, ih]
  simp only [Xoe, Xev, List.all_cons, Xsb, Xkz]
  generalize decide (x.Record = ⟨0, 0, 0⟩) = b1
  generalize Xdm x.Time = b2
  generalize Xdm x.Record.Time = b3
  generalize (x.Time == 9223372036854775807) = b4
  generalize (x.Time == 0) = b5
  generalize x.Mark = b6
  cases b1 <;> cases b2 <;> cases b3 <;> cases b4 <;> cases b5 <;> cases b6 <;> rfl
theorem Xcf {n : Nat} (h : n <= 140737488355328) : X5e n = some () := by unfold X5e; rw [if_pos h]
theorem Xk3 {n b : Nat} (h : n * b <= 140737488355328) : X2i n b = some () := by unfold X2i; rw [if_pos h]
theorem Xci (l : List Xi) : X8e l = some (chk l) := by
 unfold X8e chk
 by_cases h : 60 < l.length
 ·rw [if_pos h, show decide ((l.length : Int) > 60) = true from Yt (by omega)]; rfl
 ·rw [if_neg h, show decide ((l.length : Int) > 60) = false from Yf (by omega), Xcf (by omega)]
  simp only [cond_false, Yo, Xi1]
  cases l.all Xsb <;> rfl
theorem Xqt {l : List Xi} (h : chk l = 0) : l.length <= 60 := by
 unfold chk at h; split at h
 ·cases h
 ·omega
def Xgk (m : Int) (x : Xi) : Int := if x.Mark then (if x.Time > m then x.Time else m) else m
def Xob (m : Int) (l : List Xi) : Int := l.foldl Xgk m
theorem Xjc (l : List Xi) : ∀ (xs : List Xi) (k : Nat) (m : Int), X5x l xs k m = some (.x0 (Xob m xs)) := by
 intro xs
 induction xs with
 | nil => intro k m; rfl
 | cons x xs ih =>
  intro k m
  rw [X5x]
  cases hx : x.Mark <;> simp [ih, Xob, Xgk, hx]
theorem Xof (l : List Xi) : Xdl l = some (if chk l = 0 then (Xob Xhg l, 0) else (0, chk l)) := by
 unfold Xdl
 rw [Xci]
 by_cases h : chk l = 0
 ·have := Xqt h
  simp [h, Xcf (show l.length <= 140737488355328 by omega), Xjc, Xhg]
 ·have h' : (chk l != 0) = true := by simp [h]
  simp [h, h']
def Xk9 (late : Bool) : Int -> List Xi -> List Xj
 | _, [] => []
 | m, x :: l => if !x.Mark && (decide (x.Record.Time < m) == late) then x.Record :: Xk9 late (Xgk m x) l else Xk9 late (Xgk m x) l
theorem Xrb (q : Bool) : ∀ (l : List Xi) (m : Int), (Xk9 q m l).length <= l.length := by
 intro l
 induction l with
 | nil => intro m; exact Nat.le_refl _
 | cons x l ih =>
  intro m
  have := ih (Xgk m x)
  simp only [Xk9]
  split <;> simp only [List.length_cons] <;> omega
theorem Xhz (l : List Xi) : ∀ (xs : List Xi) (k : Nat) (a b : List Xj) (m : Int), a.length + xs.length <= 1000000 -> b.length + xs.length <= 1000000 ->
  X47 l xs k a b m = some (.x0 (a ++ Xk9 false m xs) (b ++ Xk9 true m xs)) := by
 intro xs
 induction xs with
 | nil => intro k a b m _ _; simp [X47, Xk9]
 | cons x xs ih =>
  intro k a b m ha hb
  simp only [List.length_cons] at ha hb
  rw [X47]
  cases hx : x.Mark with
  | true => simp [ih _ a b _ (by omega) (by omega), Xk9, Xgk, hx]
  | false =>
   by_cases ht : x.Record.Time < m
   ·simp [ht, Xk3 (show (b.length + 1) * 24 <= 140737488355328 by omega), ih _ a (b ++ [x.Record]) _ (by omega) (by simp; omega), Xk9, Xgk, hx]
   ·simp [ht, Xk3 (show (a.length + 1) * 24 <= 140737488355328 by omega), ih _ (a ++ [x.Record]) b _ (by simp; omega) (by omega), Xk9, Xgk, hx]
def Xaq (l : List Xi) : List Xj := if chk l = 0 then Xk9 false Xhg l else []
def Xmf (l : List Xi) : List Xj := if chk l = 0 then Xk9 true Xhg l else []
theorem Xme (l : List Xi) : Xbu l = some (Xaq l, Xmf l, chk l) := by
 unfold Xbu Xaq Xmf
 rw [Xci]
 by_cases h : chk l = 0
 ·have := Xqt h
  simp [h, Xcf (show l.length <= 140737488355328 by omega), Xhz l l 0 [] [] _ (by simp; omega) (by simp; omega), Xhg]
 ·have h' : (chk l != 0) = true := by simp [h]
  simp [h, h']
end Go.D


namespace Go.D
theorem Xwc : ∀ (xs ks : List Int), (X8w ks xs).length <= ks.length + xs.length /\ ((X8w ks xs).length = ks.length + xs.length ↔ xs.Nodup /\ ∀ x ∈ xs, x ∉ ks) := by
 intro xs
 induction xs with
 | nil => intro ks; simp [X8w]
 | cons x xs ih =>
  intro ks
  rw [X8w]
  unfold Xjx
  by_cases hm : x ∈ ks
  ·rw [if_pos hm]
   have := ih ks
   refine ⟨by have := this.1; simp only [List.length_cons]; omega, ⟨fun h => ?_, fun h => ?_⟩⟩
   ·have := this.1; simp only [List.length_cons] at h; omega
   ·exact absurd hm (h.2 x List.mem_cons_self)
  ·rw [if_neg hm]
   have := ih (ks ++ [x])
   rw [List.length_append, List.length_singleton] at this
   refine ⟨by have := this.1; simp only [List.length_cons]; omega, ?_⟩
   rw [show ks.length + (x :: xs).length = ks.length + 1 + xs.length by simp only [List.length_cons]; omega, this.2]
   constructor
   ·rintro ⟨h1, h2⟩
    refine ⟨List.nodup_cons.2 ⟨fun hx => h2 x hx (by simp), h1⟩, ?_⟩
    intro y hy
    rcases List.mem_cons.1 hy with rfl | hy
    ·exact hm
    ·exact fun hk => h2 y hy (by simp [hk])
   ·rintro ⟨h1, h2⟩
    refine ⟨(List.nodup_cons.1 h1).2, fun y hy hk => ?_⟩
    rcases List.mem_append.1 hk with hk | hk
    ·exact h2 y (List.mem_cons_of_mem _ hy) hk
    ·simp at hk; subst hk; exact (List.nodup_cons.1 h1).1 hy
theorem Xqq {s : List Int} (hn : s.length <= 1000) : ∃ v, X3l s = some v /\ decide (v < (s.length : Int)) = !(decide s.Nodup) := by
 unfold X3l
 rw [X3y (by omega)]
 refine ⟨_, rfl, ?_⟩
 have h := Xwc s []
 simp only [List.length_nil, Nat.zero_add, List.not_mem_nil, not_false_eq_true, implies_true, and_true] at h
 by_cases hd : s.Nodup
 ·rw [Yt hd, h.2.2 hd]; simp
 ·rw [Yf hd]
  have : (X8w [] s).length ≠ s.length := fun e => hd (h.2.1 e)
  have := h.1
  simp; omega
theorem Xg5 (s : List Int) (j : Bool) : X2r s j = some (X6i s j) := by
 unfold X2r X6i Xr7
 by_cases h4 : s.length > 4
 ·rw [if_pos h4, Yt (show (s.length : Int) > 4 by omega)]; rfl
 ·rw [if_neg h4, Yf (show ¬ (s.length : Int) > 4 by omega), cond_false]
  obtain ⟨v, hv, hd⟩ := Xqq (s := s) (by omega)
  rw [Xqs (by omega), hv]
  simp only [Yo]
  rw [hd]
  have e0 : ((s.length : Int) == 0) = (s.length == 0) := by rw [Bool.eq_iff_iff]; simp
  have e2 : ((s.length : Int) != 2) = (s.length != 2) := by rw [Bool.eq_iff_iff]; simp; omega
  rw [e0, e2]
  generalize (s.any fun x => decide (x < 0) || decide (x > 3)) = b
  generalize (s.length == 0) = z
  generalize (s.length != 2) = t
  by_cases hn : s.Nodup <;> cases z <;> cases t <;> cases j <;> cases b <;> simp [hn]
theorem Xhc (Y : List Int) : ∀ (xs : List Int) (k : Nat), X3i Y xs k = some (bif (xs.any fun x => decide (x < 0) || decide (x > 3)) then .x1 else .x0)
 | [], k => rfl
 | x :: xs, k => by
  rw [X3i, Xhc Y xs (k + 1), List.any_cons]
  cases decide (x < 0) <;> cases decide (x > 3) <;> rfl
theorem Xo1 (s : List Int) (i : Nat) (hi : i < s.length) (hs : s.length <= 1000) : ∀ (m n j : Nat), m = i - j -> m < n -> ∃ o, X3h s (i : Int) n (j : Int) = some o /\ (o = .x0 ↔ ∃ j', j <= j' /\ j' < i /\ s[j']? = s[i]?) := by
 intro m
 induction m with
 | zero =>
  intro n j hm hn
  cases n with
  | zero => omega
  | succ n =>
   rw [X3h, Yf (show ¬ (j : Int) < (i : Int) by omega)]
   exact ⟨.x1, rfl, ⟨fun h => (by cases h), fun ⟨j', h1, h2, _⟩ => by omega⟩⟩
 | succ m ih =>
  intro n j hm hn
  cases n with
  | zero => omega
  | succ n =>
   rw [X3h, Yt (show (j : Int) < (i : Int) by omega), cond_true, show X2o s (j : Int) = some (s[j]'(by omega)) by rw [X6c]; exact Ye _, show X2o s (i : Int) = some (s[i]'hi) by rw [X6c]; exact Ye _]
   simp only [Yo]
   by_cases he : s[j] = s[i]
   ·refine ⟨.x0, ?_, ⟨fun _ => ⟨j, Nat.le_refl _, by omega, by rw [Ye (show j < s.length by omega), Ye hi, he]⟩, fun _ => rfl⟩⟩
    rw [show (s[j] == s[i]) = true by simp [he]]; rfl
   ·rw [show (s[j] == s[i]) = false by simp [he], cond_false, X18 (by omega) (by omega)]
    obtain ⟨o, h1, h2⟩ := ih n (j + 1) (by omega) (by omega)
    refine ⟨o, by rw [show (j : Int) + 1 = ((j + 1 : Nat) : Int) by omega]; exact h1, h2.trans ⟨fun ⟨j', a, b, c⟩ => ⟨j', by omega, b, c⟩, fun ⟨j', a, b, c⟩ => ?_⟩⟩
    by_cases hj : j' = j
    ·subst hj
     rw [Ye (show j' < s.length by omega), Ye hi] at c
     exact absurd (Option.some.inj c) he
    ·exact ⟨j', by omega, b, c⟩
theorem Xhb (s : List Int) (hs : s.length <= 1000) : ∀ (xs : List Int) (k : Nat), s.drop k = xs -> (s.take k).Nodup -> X2v s xs k = some (if s.Nodup then .x0 else .x1)
 | [], k, h, hd => by
  have : s.length <= k := by
   have := congrArg List.length h; simp at this; omega
  rw [List.take_of_length_le this] at hd
  rw [X2v, if_pos hd]
 | x :: xs, k, h, hd => by
  have hk : s[k]? = some x := by
   have : (s.drop k)[0]? = some x := by rw [h]; rfl
   simpa using this
  have hdr : s.drop (k + 1) = xs := by
   have : (s.drop k).drop 1 = xs := by rw [h]; rfl
   rw [List.drop_drop] at this; exact this
  have hlt := (Ys.1 hk).1
  rw [X2v]
  obtain ⟨o, h1, h2⟩ := Xo1 s k hlt hs (k - 0) FU 0 rfl (by unfold FU; omega)
  rw [show ((0 : Nat) : Int) = 0 from rfl] at h1
  rw [h1, Yo]
  cases o with
  | x0 =>
   obtain ⟨j, _, hj, he⟩ := h2.1 rfl
   have : ¬ s.Nodup := fun hn => by
    have := (List.getElem?_inj (by omega : j < s.length) hn).1 he
    omega
   rw [if_neg this]
  | x1 =>
   have hno : ¬ ∃ j', 0 <= j' /\ j' < k /\ s[j']? = s[k]? := fun h => by have := h2.2 h; cases this
   refine Xhb s hs xs (k + 1) hdr ?_
   rw [List.take_add_one, hk]
   simp only [Option.toList_some]
   rw [List.nodup_append]
   refine ⟨hd, by simp, fun a ha b hb => ?_⟩
   simp at hb; subst hb
   intro e; subst e
   obtain ⟨j, hj, e⟩ := List.getElem_of_mem ha
   simp at hj
   refine hno ⟨j, Nat.zero_le _, by omega, ?_⟩
   rw [hk, <- e, List.getElem_take, Ye]
theorem Xhv (s : List Int) (j : Bool) : X7i s j = some (X6i s j) := by
 unfold X7i X6i Xr7
 by_cases h4 : s.length > 4
 ·rw [if_pos h4, Yt (show (s.length : Int) > 4 by omega)]; rfl
 ·rw [if_neg h4, Yf (show ¬ (s.length : Int) > 4 by omega), cond_false, X3y (by omega), Xhc, Xhb s (by omega) s 0 rfl (by simp)]
  have e0 : ((s.length : Int) == 0) = (s.length == 0) := by rw [Bool.eq_iff_iff]; simp
  have e2 : ((s.length : Int) != 2) = (s.length != 2) := by rw [Bool.eq_iff_iff]; simp; omega
  rw [e0, e2]
  generalize (s.any fun x => decide (x < 0) || decide (x > 3)) = b
  generalize (s.length == 0) = z
  generalize (s.length != 2) = t
  by_cases hn : s.Nodup <;> cases z <;> cases t <;> cases j <;> cases b <;> simp [hn]
instance (w : X0x) : Decidable (okW w) := by unfold okW; infer_instance
theorem Xz7 (w : X0x) (hE : w.Every <= 9223372036854775807 /\ -9223372036854775808 <= w.Every) : X8b w = some (decide (okW w)) /\ X1o w = some (if okW w then 0 else 8) := by
 by_cases hw : okW w
 ·refine ⟨?_, by rw [if_pos hw]; exact X0c hw⟩
  rw [Yt hw]
  obtain ⟨h1, h2, h3⟩ := hw
  unfold X8b
  rw [Yf (show ¬ w.Size < 1 by omega), Yf (show ¬ w.Size > 1073741824 by omega)]
  rcases h3 with ⟨k, a1, a2, a3⟩ | ⟨k | k, a⟩
  ·rw [show (w.Kind == 2) = true by simp [k], Yt a1, Yt a2, X18 (by omega) (by omega), Yt a3]; rfl
  ·rw [show (w.Kind == 2) = false by simp [k], show (w.Kind == 1) = true by simp [k], show (w.Every == 0) = true by simp [a]]; rfl
  ·rw [show (w.Kind == 2) = false by simp [k], show (w.Kind == 3) = true by simp [k], show (w.Every == 0) = true by simp [a], show (w.Kind == 1) = false by simp [k]]; rfl
 ·rw [if_neg hw, Yf hw]
  by_cases hs : w.Size < 1 \/ w.Size > 1073741824
  ·have : (bif decide (w.Size < 1) then true else decide (w.Size > 1073741824)) = true := by
    rcases hs with h | h
    ·rw [Yt h]; rfl
    ·rw [Yf (by omega), Yt h]; rfl
   constructor
   ·unfold X8b; rw [this]; rfl
   ·unfold X1o; rw [this]; rfl
  ·have : (bif decide (w.Size < 1) then true else decide (w.Size > 1073741824)) = false := by
    rw [Yf (by omega), Yf (by omega)]; rfl
   unfold X8b X1o
   rw [this, cond_false, cond_false]
   by_cases k2 : w.Kind = 2
   ·rw [show (w.Kind == 2) = true by simp [k2], cond_true, cond_true]
    have : (bif (bif decide (w.Every >= 1) then decide (w.Every <= w.Size) else false) then decide (w.Size <= IntKind.i64.wrap (16 * w.Every)) else false) = false := by
     by_cases g1 : w.Every >= 1
     ·by_cases g2 : w.Every <= w.Size
      ·rw [Yt g1, Yt g2, X18 (by omega) (by omega), Yf]; rfl
       intro g3; exact hw ⟨by omega, by omega, .inl ⟨k2, g1, g2, g3⟩⟩
      ·rw [Yt g1, Yf g2]; rfl
     ·rw [Yf g1]; rfl
    rw [this]; exact ⟨rfl, rfl⟩
   ·rw [show (w.Kind == 2) = false by simp [k2], cond_false, cond_false]
    by_cases k1 : w.Kind = 1
    ·have : w.Every ≠ 0 := fun h => hw ⟨by omega, by omega, .inr ⟨.inl k1, h⟩⟩
     rw [show (w.Kind == 1) = true by simp [k1], show (w.Every == 0) = false by simp [this]]; exact ⟨rfl, rfl⟩
    ·by_cases k3 : w.Kind = 3
     ·have : w.Every ≠ 0 := fun h => hw ⟨by omega, by omega, .inr ⟨.inr k3, h⟩⟩
      rw [show (w.Kind == 1) = false by simp [k1], show (w.Kind == 3) = true by simp [k3], show (w.Every == 0) = false by simp [this]]; exact ⟨rfl, rfl⟩
     ·rw [show (w.Kind == 1) = false by simp [k1], show (w.Kind == 3) = false by simp [k3]]; exact ⟨rfl, rfl⟩
end Go.D


namespace Go.D
def Xqu (q : Xp) : Int :=
 if q.Agg < 1 \/ q.Agg > 4 \/ (q.Late ≠ 1 /\ q.Late ≠ 2) then 8
 else if q.Agg = 1 /\ 0 < q.Arg.length then 8
 else if q.Agg ≠ 1 /\ Xb7 q.Arg ≠ 0 then Xb7 q.Arg
 else if 0 < q.Where.length /\ Xb7 q.Where ≠ 0 then Xb7 q.Where
 else if X6i q.Sources q.Join ≠ 0 then X6i q.Sources q.Join
 else if q.Join = true /\ q.Window.Kind ≠ 1 then 8
 else if okW q.Window then 0 else 8
structure QW (q : Xp) : Prop where
 arg : ∀ x ∈ q.Arg, 0 <= x.Kind
 wher : ∀ x ∈ q.Where, 0 <= x.Kind
 ev : q.Window.Every <= 9223372036854775807 /\ -9223372036854775808 <= q.Window.Every
theorem Xi6 {a b : Int} (h : ¬ a = b) : (a != b) = true := by simp [h]
theorem lz {n : Nat} (h : 0 < n) : ((n : Int) == 0) = false := by simp; omega
theorem lz' {n : Nat} (h : ¬ 0 < n) : ((n : Int) == 0) = true := by simp; omega
theorem Xzk {q : Xp} (hq : QW q) : ((X2r q.Sources q.Join).bind fun v10 => bif (v10 != (0 : Int)) then (some v10) else (bif (bif q.Join then (q.Window.Kind != (1 : Int)) else false) then (some 8) else ((X1o q.Window).bind fun v14 => some v14))) = some (if X6i q.Sources q.Join ≠ 0 then X6i q.Sources q.Join
 else if q.Join = true /\ q.Window.Kind ≠ 1 then 8
 else if okW q.Window then 0 else 8) := by
 rw [Xg5, Yo, (Xz7 q.Window hq.ev).2]
 by_cases h : X6i q.Sources q.Join = 0
 ·rw [h]
  by_cases hj : q.Join = true
  ·by_cases hk : q.Window.Kind = 1
   ·simp [hj, hk]
   ·simp [hj, hk, Xi6 hk]
  ·simp [hj]
 ·simp [h, Xi6 h]
theorem Xi5 {q : Xp} (hq : QW q) : X7t q = some (Xqu q) := by
 unfold X7t Xqu
 rw [Xzk hq, Xb6 hq.arg, Xb6 hq.wher]
 generalize (if X6i q.Sources q.Join ≠ 0 then X6i q.Sources q.Join else if q.Join = true /\ q.Window.Kind ≠ 1 then 8 else if okW q.Window then 0 else 8) = T
 have e1 : (bif (bif (decide (q.Agg < (1 : Int))) then true else (decide (q.Agg > (4 : Int)))) then true else (bif (q.Late != (1 : Int)) then (q.Late != (2 : Int)) else false)) = decide (q.Agg < 1 \/ q.Agg > 4 \/ (q.Late ≠ 1 /\ q.Late ≠ 2)) := by
  rw [Bool.eq_iff_iff]
  by_cases h1 : q.Agg < 1 <;> by_cases h2 : q.Agg > 4 <;> by_cases h3 : q.Late = 1 <;> by_cases h4 : q.Late = 2 <;> simp [h1, h2, h3, h4]
 rw [e1]
 by_cases hA : (q.Agg < 1 \/ q.Agg > 4 \/ (q.Late ≠ 1 /\ q.Late ≠ 2))
 ·rw [if_pos hA, Yt hA]; rfl
 ·rw [if_neg hA, Yf hA, cond_false]
  by_cases h1 : q.Agg = 1
  ·rw [show (q.Agg != 1) = false by simp [h1], cond_false]
   by_cases hl : 0 < q.Arg.length
   ·rw [Yt (show (q.Arg.length : Int) > 0 by omega), if_pos ⟨h1, hl⟩]; rfl
   ·rw [Yf (show ¬ (q.Arg.length : Int) > 0 by omega), if_neg (fun h => hl h.2), if_neg (fun h => h.1 h1), cond_false]
    by_cases hw : 0 < q.Where.length
    ·rw [Yt (show (q.Where.length : Int) > 0 by omega), cond_true, Yo]
     by_cases hz : Xb7 q.Where = 0
     ·rw [hz]; simp
     ·rw [if_pos ⟨hw, hz⟩, show (Xb7 q.Where != 0) = true by simp [hz]]; rfl
    ·rw [Yf (show ¬ (q.Where.length : Int) > 0 by omega), if_neg (fun h => hw h.1)]; rfl
  ·rw [show (q.Agg != 1) = true by simp [h1], cond_true, if_neg (fun h => h1 h.1), Yo]
   by_cases hn : Xb7 q.Arg = 0
   ·rw [hn, if_neg (fun h => h.2 rfl), show ((0 : Int) != 0) = false from rfl, cond_false]
    by_cases hw : 0 < q.Where.length
    ·rw [Yt (show (q.Where.length : Int) > 0 by omega), cond_true, Yo]
     by_cases hz : Xb7 q.Where = 0
     ·rw [hz]; simp
     ·rw [if_pos ⟨hw, hz⟩, show (Xb7 q.Where != 0) = true by simp [hz]]; rfl
    ·rw [Yf (show ¬ (q.Where.length : Int) > 0 by omega), if_neg (fun h => hw h.1)]; rfl
   ·rw [if_pos ⟨h1, hn⟩, show (Xb7 q.Arg != 0) = true by simp [hn]]; rfl
theorem Xko {q : Xp} (hq : QW q) : Xa2 q = some (Xqu q) := by
 unfold Xa2 Xqu
 rw [Xb5, Xb5, Xhv, (Xz7 q.Window hq.ev).1]
 have e1 : (bif (bif (bif (decide (q.Agg < (1 : Int))) then true else (decide (q.Agg > (4 : Int)))) then true else (decide (q.Late < (1 : Int)))) then true else (decide (q.Late > (2 : Int)))) = decide (q.Agg < 1 \/ q.Agg > 4 \/ (q.Late ≠ 1 /\ q.Late ≠ 2)) := by
  rw [Bool.eq_iff_iff]
  have g : (q.Late ≠ 1 /\ q.Late ≠ 2) ↔ (q.Late < 1 \/ q.Late > 2) := by omega
  rw [show decide (q.Agg < 1 \/ q.Agg > 4 \/ (q.Late ≠ 1 /\ q.Late ≠ 2)) = decide (q.Agg < 1 \/ q.Agg > 4 \/ (q.Late < 1 \/ q.Late > 2)) from decide_eq_decide.2 (by rw [g])]
  by_cases h1 : q.Agg < 1 <;> by_cases h2 : q.Agg > 4 <;> by_cases h3 : q.Late < 1 <;> by_cases h4 : q.Late > 2 <;> simp [h1, h2, h3, h4]
 rw [e1]
 have tl : ((some (X6i q.Sources q.Join)).bind fun v29 => bif (v29 != (0 : Int)) then (some v29) else ((some (decide (okW q.Window))).bind fun v32 => bif (bif (!v32) then true else (bif q.Join then (q.Window.Kind != (1 : Int)) else false)) then (some 8) else (some 0))) = some (if X6i q.Sources q.Join ≠ 0 then X6i q.Sources q.Join
 else if q.Join = true /\ q.Window.Kind ≠ 1 then 8
 else if okW q.Window then 0 else 8) := by
  simp only [Yo]
  by_cases h : X6i q.Sources q.Join = 0
  ·rw [h]
   by_cases hk : q.Window.Kind = 1
   ·by_cases hj : q.Join = true <;> by_cases ho : okW q.Window <;> simp [hj, hk, ho]
   ·by_cases hj : q.Join = true <;> by_cases ho : okW q.Window <;> simp [hj, hk, ho, Xi6 hk]
  ·simp [h, Xi6 h]
 rw [tl]
 generalize (if X6i q.Sources q.Join ≠ 0 then X6i q.Sources q.Join else if q.Join = true /\ q.Window.Kind ≠ 1 then 8 else if okW q.Window then 0 else 8) = T
 by_cases hA : (q.Agg < 1 \/ q.Agg > 4 \/ (q.Late ≠ 1 /\ q.Late ≠ 2))
 ·rw [if_pos hA, Yt hA]; rfl
 ·rw [if_neg hA, Yf hA, cond_false]
  have wh : ((bif (decide ((List.length q.Where : Int) > (0 : Int))) then ((some (Xb7 q.Where)).bind fun v23 => some (bif (decide ((List.length q.Where : Int) > (0 : Int))) then (v23 != (0 : Int)) else false)) else (some (bif (decide ((List.length q.Where : Int) > (0 : Int))) then false else false)) : Option (Bool)).bind fun Xoh => bif Xoh then ((some (Xb7 q.Where)).bind fun v27 => some v27) else some T) = some (if 0 < q.Where.length /\ Xb7 q.Where ≠ 0 then Xb7 q.Where else T) := by
   by_cases hw : 0 < q.Where.length
   ·rw [Yt (show (q.Where.length : Int) > 0 by omega)]
    by_cases hz : Xb7 q.Where = 0
    ·rw [hz]; simp
    ·rw [if_pos ⟨hw, hz⟩]; simp [hz, Xi6 hz]
   ·rw [Yf (show ¬ (q.Where.length : Int) > 0 by omega), if_neg (fun h => hw h.1)]; rfl
  rw [wh]
  generalize (if 0 < q.Where.length /\ Xb7 q.Where ≠ 0 then Xb7 q.Where else T) = T2
  by_cases h1 : q.Agg = 1
  ·rw [show (q.Agg == 1) = true by simp [h1], show (q.Agg != 1) = false by simp [h1]]
   by_cases hl : 0 < q.Arg.length
   ·rw [Yt (show (q.Arg.length : Int) > 0 by omega), if_pos ⟨h1, hl⟩]; rfl
   ·rw [Yf (show ¬ (q.Arg.length : Int) > 0 by omega), if_neg (fun h => hl h.2), if_neg (fun h => h.1 h1)]; rfl
  ·rw [show (q.Agg == 1) = false by simp [h1], show (q.Agg != 1) = true by simp [h1], if_neg (fun h => h1 h.1)]
   by_cases hn : Xb7 q.Arg = 0
   ·rw [hn, if_neg (fun h => h.2 rfl)]; rfl
   ·rw [if_pos ⟨h1, hn⟩]
    simp [hn, Xi6 hn]
def atOf (l : List X00) (i : Int) : Int := match X2o l i with | some e => e.At | none => 0
theorem Xmh {l : List X00} {b : Bool} (h : 0 < l.length) : ∃ e, X2o l (X31 l b).1 = some e /\ atOf l (X31 l b).1 = e.At := by
 have hr : 0 <= (X31 l b).1 /\ (X31 l b).1 < l.length := by
  have : (X31 l b).1 = (kOf l).2.1 := by unfold X31; split <;> rfl
  rw [this]
  unfold kOf
  split
  ·simp only; omega
  ·split
   ·rename_i j hj
    have := Xr2 l l 0 j hj
    simp only; omega
   ·simp only; omega
 obtain ⟨e, he, _⟩ := Xdo hr.1 hr.2
 exact ⟨e, he, by unfold atOf; rw [he]⟩
def rt (q : Xp) : Int × Int :=
 if 0 < q.Arg.length /\ (X31 q.Arg false).2 ≠ 0 then (atOf q.Arg (X31 q.Arg false).1, (X31 q.Arg false).2)
 else if 0 < q.Where.length /\ (X31 q.Where true).2 ≠ 0 then (atOf q.Where (X31 q.Where true).1, (X31 q.Where true).2)
 else (0, 0)
theorem Xr3 (q : Xp) (hw : 0 < q.Where.length) : (bif ((X31 q.Where true).2 != (0 : Int)) then ((X2o q.Where (X31 q.Where true).1).bind fun e28 => some (e28.At, (X31 q.Where true).2)) else (some (0, 0))) = some (if 0 < q.Where.length /\ (X31 q.Where true).2 ≠ 0 then (atOf q.Where (X31 q.Where true).1, (X31 q.Where true).2) else (0, 0)) := by
 obtain ⟨e, he, ha⟩ := Xmh (b := true) hw
 by_cases hz : (X31 q.Where true).2 = 0
 ·rw [if_neg (fun h => h.2 hz), show ((X31 q.Where true).2 != 0) = false by simp [hz]]; rfl
 ·rw [if_pos ⟨hw, hz⟩, show ((X31 q.Where true).2 != 0) = true by simp [hz], he, ha]; rfl
theorem Xkl (q : Xp) : X9z q = some (rt q) := by
 unfold X9z rt
 rw [Xfi, Xfi]
 simp only [Yo]
 have wh : (bif (decide ((List.length q.Where : Int) > (0 : Int))) then (bif ((X31 q.Where true).2 != (0 : Int)) then ((X2o q.Where (X31 q.Where true).1).bind fun e28 => some (e28.At, (X31 q.Where true).2)) else (some (0, 0))) else (some (0, 0))) = some (if 0 < q.Where.length /\ (X31 q.Where true).2 ≠ 0 then (atOf q.Where (X31 q.Where true).1, (X31 q.Where true).2) else (0, 0)) := by
  by_cases hw : 0 < q.Where.length
  ·rw [Yt (show (q.Where.length : Int) > 0 by omega), cond_true, Xr3 q hw]
  ·rw [Yf (show ¬ (q.Where.length : Int) > 0 by omega), if_neg (fun h => hw h.1)]; rfl
 rw [wh]
 by_cases ha : 0 < q.Arg.length
 ·rw [Yt (show (q.Arg.length : Int) > 0 by omega), cond_true]
  obtain ⟨e, he, hat⟩ := Xmh (b := false) ha
  by_cases hz : (X31 q.Arg false).2 = 0
  ·rw [if_neg (show ¬ (0 < q.Arg.length /\ (X31 q.Arg false).2 ≠ 0) from fun h => h.2 hz), show ((X31 q.Arg false).2 != 0) = false by simp [hz], cond_false]
  ·rw [if_pos (show (0 < q.Arg.length /\ (X31 q.Arg false).2 ≠ 0) from ⟨ha, hz⟩), show ((X31 q.Arg false).2 != 0) = true by simp [hz], he, hat]; rfl
 ·rw [Yf (show ¬ (q.Arg.length : Int) > 0 by omega), if_neg (show ¬ (0 < q.Arg.length /\ (X31 q.Arg false).2 ≠ 0) from fun h => ha h.1), cond_false]
def Xx0 (q : Xp) : Int × Int := if Xqu q ≠ 0 then (0, Xqu q) else rt q
theorem Xkm {q : Xp} (hq : QW q) : Xa0 q = some (Xx0 q) := by
 unfold Xa0 Xx0
 rw [Xko hq, Xkl, Yo]
 by_cases h : Xqu q = 0
 ·rw [if_neg (by omega), h]; rfl
 ·rw [if_pos h, show (Xqu q != 0) = true by simp [h]]; rfl
theorem Xk1 {q : Xp} (hq : QW q) : X8x q = some (Xx0 q) := by
 unfold X8x Xx0
 rw [Xi5 hq, Yo]
 by_cases h : Xqu q = 0
 ·rw [if_neg (by omega), h, show ((0 : Int) != 0) = false from rfl, cond_false]
  unfold Xac Xau
  rw [Xfv hq.arg, Xfv hq.wher]
  simp only [Yo]
  unfold rt
  have wh : (bif ((List.length q.Where : Int) == (0 : Int)) then (some (0, 0)) else (bif ((X31 q.Where true).2 != (0 : Int)) then ((X2o q.Where (X31 q.Where true).1).bind fun e28 => some (e28.At, (X31 q.Where true).2)) else (some (0, 0)))) = some (if 0 < q.Where.length /\ (X31 q.Where true).2 ≠ 0 then (atOf q.Where (X31 q.Where true).1, (X31 q.Where true).2) else (0, 0)) := by
   by_cases hw : 0 < q.Where.length
   ·rw [lz hw, cond_false, Xr3 q hw]
   ·rw [lz' hw, if_neg (fun h => hw h.1)]; rfl
  rw [wh]
  by_cases ha : 0 < q.Arg.length
  ·rw [lz ha, cond_false]
   obtain ⟨e, he, hat⟩ := Xmh (b := false) ha
   by_cases hz : (X31 q.Arg false).2 = 0
   ·rw [if_neg (show ¬ (0 < q.Arg.length /\ (X31 q.Arg false).2 ≠ 0) from fun h => h.2 hz), show ((X31 q.Arg false).2 != 0) = false by simp [hz], cond_false]; rfl
   ·rw [if_pos (show (0 < q.Arg.length /\ (X31 q.Arg false).2 ≠ 0) from ⟨ha, hz⟩), show ((X31 q.Arg false).2 != 0) = true by simp [hz], he, hat]; rfl
  ·rw [lz' ha, if_neg (show ¬ (0 < q.Arg.length /\ (X31 q.Arg false).2 ≠ 0) from fun h => ha h.1)]; rfl
 ·rw [if_pos h, show (Xqu q != 0) = true by simp [h]]; rfl
end Go.D


namespace Go.D
theorem Xkj (t : Int) : X8a t 1 = some (bif Xdm t then 0 else 16) := by
 unfold X8a Xdm
 by_cases h1 : -1099511627776 <= t
 ·rw [show decide (t < -1099511627776) = false from Yf (by omega), Yt h1]
  by_cases h2 : t <= 1099511627776
  ·rw [show decide (t > 1099511627776) = false from Yf (by omega), Yt h2]; rfl
  ·rw [show decide (t > 1099511627776) = true from Yt (by omega), Yf h2]; rfl
 ·rw [show decide (t < -1099511627776) = true from Yt (by omega), Yf h1]; rfl
theorem Xkh (x : Xi) : X9x x = some (Xsb x) := by
 unfold X9x Xsb Xkz
 simp only [Xkj, Xev]
 generalize decide (x.Record = ⟨0, 0, 0⟩) = b1
 generalize Xdm x.Time = b2
 generalize Xdm x.Record.Time = b3
 generalize (x.Time == 9223372036854775807) = b4
 generalize (x.Time == 0) = b5
 generalize x.Mark = b6
 cases b1 <;> cases b2 <;> cases b3 <;> cases b4 <;> cases b5 <;> cases b6 <;> rfl
theorem Xgf (l : List Xi) : ∀ (xs : List Xi) (k : Nat), X4j l xs k = some (bif xs.all Xsb then .x0 else .x1) := by
 intro xs
 induction xs with
 | nil => intro k; rfl
 | cons x xs ih =>
  intro k
  rw [X4j, ih]
  simp only [Xkh, List.all_cons, Yo]
  cases Xsb x <;> rfl
theorem Xki (l : List Xi) : X9y l = some (chk l) := by
 unfold X9y chk
 by_cases h : 60 < l.length
 ·rw [if_pos h, show decide ((l.length : Int) > 60) = true from Yt (by omega)]; rfl
 ·rw [if_neg h, show decide ((l.length : Int) > 60) = false from Yf (by omega), Xcf (by omega)]
  simp only [cond_false, Yo, Xgf]
  cases l.all Xsb <;> rfl
theorem Xwj {l : List Xi} : chk l = 0 ↔ l.length <= 60 /\ ∀ x ∈ l, Xsb x = true := by
 unfold chk
 constructor
 ·intro h
  split at h
  ·cases h
  ·refine ⟨by omega, ?_⟩
   cases ha : l.all Xsb with
   | true => exact List.all_eq_true.1 ha
   | false => rw [ha] at h; cases h
 ·rintro ⟨h1, h2⟩
  rw [if_neg (by omega), List.all_eq_true.2 h2]; rfl
theorem X05b (a : Int) : 0 <= bits .and .i64 a 63 := by
 unfold bits
 simp only
 have h : ((BitVec.ofInt IntKind.i64.bits a) &&& (BitVec.ofInt IntKind.i64.bits 63)).toNat <= 63 := by
  rw [BitVec.toNat_and]
  exact Nat.le_trans Nat.and_le_right (by decide)
 rw [X18 (by omega) (by omega)]
 omega
theorem Xxc (b : Bool) : X42 b = some (if b then 1 else 0) := by cases b <;> rfl
theorem Xe9 {K a b : Int} (h1 : 5 <= K) (h2 : K <= 19) : ∃ v, Xgq K a b = some (v, 0) := by
 have hs : shOk (bits .and .i64 b 63) = some () := by unfold shOk; rw [if_pos (X05b b)]
 unfold Xgq
 simp only [Xxc, hs, Yo]
 rcases (by omega : K = 5 \/ K = 6 \/ K = 7 \/ K = 8 \/ K = 9 \/ K = 10 \/ K = 11 \/ K = 12 \/ K = 13 \/ K = 14 \/ K = 15 \/ K = 16 \/ K = 17 \/ K = 18 \/ K = 19) with h | h | h | h | h | h | h | h | h | h | h | h | h | h | h <;> subst h <;> exact ⟨_, rfl⟩
theorem Xru {l : List X00} (env : V5 Int) (ho : ∀ j x, l[j]? = some x -> Xls x j) : ∀ (xs : List X00) (k : Nat) (vs : List Int), l.drop k = xs -> vs.length = l.length -> ∃ vs', X2p env l xs k vs = some (.x0 vs') /\ vs'.length = l.length
 | [], k, vs, _, hv => ⟨vs, rfl, hv⟩
 | x :: xs, k, vs, h, hv => by
  have hk : l[k]? = some x := by
   have : (l.drop k)[0]? = some x := by rw [h]; rfl
   simpa using this
  have hd : l.drop (k + 1) = xs := by
   have : (l.drop k).drop 1 = xs := by rw [h]; rfl
   rw [List.drop_drop] at this; exact this
  have hlt := (Ys.1 hk).1
  have hx := ho k x hk
  have hg : X2o vs (k : Int) = some (vs[k]'(by omega)) := by rw [X6c]; exact Ye _
  have go : ∀ z, ∃ vs', X2p env l xs (k + 1) (vs.set (Int.toNat (k : Int)) z) = some (.x0 vs') /\ vs'.length = l.length := fun z => Xru env ho xs (k + 1) _ hd (by rw [List.length_set]; exact hv)
  rw [X2p]
  have h1 := hx.lo
  have h2 := hx.hi
  by_cases k1 : x.Kind = 1
  ·rw [show (x.Kind == 1) = true by simp [k1], cond_true, hg, Yo]; exact go _
  ·rw [show (x.Kind == 1) = false by simp [k1], cond_false]
   by_cases k4 : x.Kind <= 4
   ·rw [Yt k4, cond_true, show (x.Kind == 0) = false by simp; omega, hg]
    simp only [Yo, cond_false]
    rcases (by omega : x.Kind = 2 \/ x.Kind = 3 \/ x.Kind = 4) with h | h | h
    ·rw [h]; exact go _
    ·rw [h]; exact go _
    ·rw [h]; exact go _
   ·rw [Yf k4, cond_false]
    have hA := hx.ak (by omega)
    have hB := hx.bk (by omega)
    obtain ⟨a, ha, _⟩ := Xdo (l := vs) hx.a0 (by omega)
    obtain ⟨b, hb, _⟩ := Xdo (l := vs) hx.b0 (by omega)
    obtain ⟨v, hdo⟩ := Xe9 (K := x.Kind) (a := a) (b := b) (by omega) h2
    rw [ha, Yo, hb, Yo, hdo, hg]
    exact go _
def evV (l : List X00) (r : Xj) : Int := match X68 l r with | some v => v.1 | none => 0
theorem X4n {l : List X00} (h0 : ∀ x ∈ l, 0 <= x.Kind) (h : (kOf l).2.2 = 0) (r : Xj) : X68 l r = some (evV l r, 0) := by
 have hz : Xb7 l = 0 := by
  by_cases hz : Xb7 l = 0
  ·exact hz
  ·unfold kOf at h; rw [if_pos hz] at h; exact h
 obtain ⟨h60, h1, _⟩ := Xa8 hz
 have : ∃ v, X68 l r = some (v, 0) := by
  unfold X68 Xg1 Xcp
  rw [Xjd h0, Yo, Yo, h]
  have hm : mkOk (l.length : Int) (l.length : Int) 8 = some () := by unfold mkOk; rw [if_pos ⟨by omega, rfl, by omega⟩]
  rw [hm, X3y (by omega)]
  obtain ⟨vs, hvs, hl⟩ := Xru (V5.mk 0 0 r.Key r.Time r.Value) (Xgj hz) l 0 (List.replicate (Int.toNat (l.length : Int)) 0) rfl (by simp)
  simp only [Yo]
  rw [show ((l.length : Int) == 0) = false from lz h1, hvs]
  simp only [bne_self_eq_false, cond_false, Yo]
  rw [hl, X18 (by omega) (by omega)]
  obtain ⟨v, hv, _⟩ := Xdo (l := vs) (i := (l.length : Int) - 1) (by omega) (by omega)
  exact ⟨v, by rw [hv]; rfl⟩
 obtain ⟨v, hv⟩ := this
 unfold evV
 rw [hv]
theorem Xrk {l : List X00} {b : Bool} (h : (X31 l b).2 = 0) : (kOf l).2.2 = 0 := by
 unfold X31 at h
 split at h
 ·cases h
 ·exact h
def Xcs : List (List Xi) -> Int
 | [] => 0
 | x :: xs => if chk x ≠ 0 then chk x else Xcs xs
theorem Xfn (Y : List (List Xi)) : ∀ (xs : List (List Xi)) (k : Nat), ∃ o, X30 Y xs k = some o /\ (match o with | .x0 => (0 : Int) | .x1 z => z) = Xcs xs
 | [], k => ⟨_, rfl, rfl⟩
 | x :: xs, k => by
  rw [X30, Xci, Yo, Xcs]
  by_cases h : chk x = 0
  ·rw [if_neg (by omega), h]; exact Xfn Y xs (k + 1)
  ·rw [if_pos h, Xi6 h]; exact ⟨_, rfl, rfl⟩
theorem Xbp {l : List (List Xi)} (hn : l.length <= 1000) : X5d l = some (Xcs l) := by
 unfold X5d
 rw [X3y (by omega), Yo]
 obtain ⟨o, h1, h2⟩ := Xfn l l 0
 rw [h1, <- h2]
 cases o <;> rfl
theorem Xlc (Y : List (List Xi)) : ∀ (xs : List (List Xi)) (k : Nat), ∃ o, X4h Y xs k = some o /\ (match o with | .x0 => (0 : Int) | .x1 z => z) = Xcs xs
 | [], k => ⟨_, rfl, rfl⟩
 | x :: xs, k => by
  rw [X4h, Xki, Yo, Xcs]
  by_cases h : chk x = 0
  ·rw [if_neg (by omega), h]; exact Xlc Y xs (k + 1)
  ·rw [if_pos h, Xi6 h]; exact ⟨_, rfl, rfl⟩
theorem Xke {l : List (List Xi)} (hn : l.length <= 1000) : X9v l = some (Xcs l) := by
 unfold X9v
 rw [X3y (by omega), Yo]
 obtain ⟨o, h1, h2⟩ := Xlc l l 0
 rw [h1, <- h2]
 cases o <;> rfl
theorem Xez {l : List (List Xi)} : Xcs l = 0 ↔ ∀ x ∈ l, chk x = 0 := by
 induction l with
 | nil => simp [Xcs]
 | cons x xs ih =>
  rw [Xcs]
  by_cases h : chk x = 0
  ·rw [if_neg (by omega), ih]; simp [h]
  ·rw [if_pos h]; simp [h]
end Go.D


namespace Go.D
def X7x (p : Pu) (s : X13) : Xb := ⟨p.1.Key, s, ⟨if p.2 = 0 then ofA p.1.Value else Xd3, if p.2 = 1 then ofA p.1.Value else Xd3⟩⟩
theorem X5s (L : List Pu) (p : Pu) (k : Int) (s : X13) (side : Int) : vals (L ++ [p]) k s side = vals L k s side ++ (if p.1.Key = k /\ inS s p.1.Time /\ p.2 = side then [p.1.Value] else []) := by
 unfold vals
 rw [List.filter_append, List.map_append]
 congr 1
 by_cases h : p.1.Key = k /\ inS s p.1.Time /\ p.2 = side
 ·rw [if_pos h, List.filter_cons_of_pos (by simpa using h)]; rfl
 ·rw [if_neg h, List.filter_cons_of_neg (by simpa using h)]; rfl
theorem X9c (L : List Pu) (p : Pu) (k t : Int) : X9p (L ++ [p]) k t ↔ X9p L k t \/ (p.1.Key = k /\ p.1.Time = t) := by
 unfold X9p
 constructor
 ·rintro ⟨q, hq, h⟩
  rcases List.mem_append.1 hq with h1 | h1
  ·exact .inl ⟨q, h1, h⟩
  ·rw [List.mem_singleton.1 h1] at h; exact .inr h
 ·rintro (⟨q, hq, h⟩ | h)
  ·exact ⟨q, List.mem_append_left _ hq, h⟩
  ·exact ⟨p, by simp, h⟩
structure Xu4 (w : X0x) (L : List Pu) : Prop where
 time : ∀ p ∈ L, okT p.1.Time
 side : ∀ p ∈ L, p.2 = 0 \/ p.2 = 1
 len : L.length <= 240
theorem Xu4.init {w : X0x} {L : List Pu} {p : Pu} (h : Xu4 w (L ++ [p])) : Xu4 w L := ⟨fun q hq => h.time q (List.mem_append_left _ hq), fun q hq => h.side q (List.mem_append_left _ hq), by have := h.len; simp at this; omega⟩
theorem Xnr {L : List Pu} {k : Int} {s : X13} (h : ∀ t, X9p L k t -> ¬ inS s t) (side : Int) : vals L k s side = [] := by
 unfold vals
 rw [List.map_eq_nil_iff, List.filter_eq_nil_iff]
 intro p hp hc
 simp only [decide_eq_true_eq] at hc
 exact h p.1.Time ⟨p, hp, hc.1, rfl⟩ hc.2.1
theorem Xuc {L : List Pu} {k t : Int} {s : X13} (hs : ∀ p ∈ L, p.2 = 0 \/ p.2 = 1) (h : X9p L k t) (hi : inS s t) : 0 < (vals L k s 0).length + (vals L k s 1).length := by
 obtain ⟨p, hp, hk, ht⟩ := h
 rcases hs p hp with h0 | h0
 ·have : p.1.Value ∈ vals L k s 0 := List.mem_map.2 ⟨p, List.mem_filter.2 ⟨hp, by simp [hk, h0, ht, hi]⟩, rfl⟩
  have := List.length_pos_of_mem this; omega
 ·have : p.1.Value ∈ vals L k s 1 := List.mem_map.2 ⟨p, List.mem_filter.2 ⟨hp, by simp [hk, h0, ht, hi]⟩, rfl⟩
  have := List.length_pos_of_mem this; omega
structure Mid (w : X0x) (L : List Pu) (p : Pu) (done : X13 -> Prop) (es : List Xb) : Prop where
 sorted : es.Pairwise ltE
 mem : ∀ e, e ∈ es ↔ (e.Key = p.1.Key /\ done e.Span /\ e.Values = Xg2 (L ++ [p]) e.Key e.Span) \/ (¬ (e.Key = p.1.Key /\ done e.Span) /\ Xtv w L e)
theorem Xw9 {L : List Pu} {p : Pu} {s : X13} (h : ∀ t, X9p L p.1.Key t -> ¬ inS s t) (hi : inS s p.1.Time) : Xg2 (L ++ [p]) p.1.Key s = (X7x p s).Values := by
 unfold Xg2 X7x
 rw [X5s, X5s, Xnr h, Xnr h]
 simp only [List.nil_append]
 congr 1
 ·by_cases h0 : p.2 = 0
  ·rw [if_pos ⟨trivial, hi, h0⟩, if_pos h0, Xee]
  ·rw [if_neg (fun hc => h0 hc.2.2), if_neg h0, Xng]
 ·by_cases h0 : p.2 = 1
  ·rw [if_pos ⟨trivial, hi, h0⟩, if_pos h0, Xee]
  ·rw [if_neg (fun hc => h0 hc.2.2), if_neg h0, Xng]
theorem Xtu {L : List Pu} {p : Pu} {s : X13} (hl : L.length <= 1000000) (hi : inS s p.1.Time) :
  Xg2 (L ++ [p]) p.1.Key s = ⟨X48 (Xg2 L p.1.Key s).e0 (X7x p s).Values.e0, X48 (Xg2 L p.1.Key s).e1 (X7x p s).Values.e1⟩ := by
 have ok : ∀ side, okA (Xef (vals L p.1.Key s side)) := fun side => Xk6 (Nat.le_trans (Xlz ..) (by omega))
 unfold Xg2 X7x
 rw [X5s, X5s]
 dsimp only
 congr 1
 ·by_cases h0 : p.2 = 0
  ·rw [if_pos ⟨rfl, hi, h0⟩, if_pos h0, Xdx]
  ·rw [if_neg (fun hc => h0 hc.2.2), if_neg h0, List.append_nil, Xig (ok 0)]
 ·by_cases h0 : p.2 = 1
  ·rw [if_pos ⟨rfl, hi, h0⟩, if_pos h0, Xdx]
  ·rw [if_neg (fun hc => h0 hc.2.2), if_neg h0, List.append_nil, Xig (ok 1)]
theorem Mid.step {w : X0x} {L : List Pu} {p : Pu} {done : X13 -> Prop} {es : List Xb} {s : X13} (hk : w.Kind ≠ 3) (hl : L.length <= 1000000) (m : Mid w L p done es) (hs : ¬ done s) (hi : Xol w.Size (Xeu w) p.1.Time s) :
  Mid w L p (fun x => done x \/ x = s) (Xma es (X7x p s)) := by
 have hin : inS s p.1.Time := hi.2.2
 have hkey : ∀ e : Xb, X5n e (X7x p s) ↔ e.Key = p.1.Key /\ e.Span = s := fun e => Iff.rfl
 refine ⟨Xj3 m.sorted, fun e => ?_⟩
 rw [Xm8 m.sorted]
 by_cases he : X5n e (X7x p s)
 ·have he2 := (hkey e).1 he
  have hno : ∀ y ∈ es, X5n y (X7x p s) -> y = ⟨p.1.Key, s, Xg2 L p.1.Key s⟩ /\ Xfc w (X9p L p.1.Key) s := by
   intro y hy hsy
   have hy2 := (hkey y).1 hsy
   rcases (m.mem y).1 hy with ⟨_, h2, _⟩ | ⟨_, h2, h3⟩
   ·exact absurd (hy2.2 ▸ h2) hs
   ·rw [hy2.1, hy2.2] at h3 h2
    refine ⟨?_, h2⟩
    cases y; simp only at hy2 h3; rw [hy2.1, hy2.2, h3]
  have hval : e.Values = Xg2 (L ++ [p]) e.Key e.Span ↔ ((e ∈ es /\ ¬ X5n e (X7x p s)) \/ (∃ y ∈ es, X5n y (X7x p s) /\ e = Xll y (X7x p s)) \/ ((∀ y ∈ es, ¬ X5n y (X7x p s)) /\ e = X7x p s)) := by
   rw [he2.1, he2.2]
   by_cases hex : ∃ y ∈ es, X5n y (X7x p s)
   ·obtain ⟨y, hy, hsy⟩ := hex
    obtain ⟨hyv, hyw⟩ := hno y hy hsy
    have hmg : Xll y (X7x p s) = ⟨p.1.Key, s, Xg2 (L ++ [p]) p.1.Key s⟩ := by rw [Xtu hl hin, hyv]; rfl
    constructor
    ·intro hv
     refine .inr (.inl ⟨y, hy, hsy, ?_⟩)
     rw [hmg]; cases e; simp only at he2 hv; rw [he2.1, he2.2, hv]
    ·rintro (⟨_, h⟩ | ⟨y', hy', hsy', h⟩ | ⟨h, _⟩)
     ·exact absurd he h
     ·have : y' = y := by rw [(hno y' hy' hsy').1, hyv]
      rw [h, this, hmg]
     ·exact absurd hsy (h y hy)
   ·have hex' : ∀ y ∈ es, ¬ X5n y (X7x p s) := fun y hy h => hex ⟨y, hy, h⟩
    have hnone : ∀ t, X9p L p.1.Key t -> ¬ inS s t := by
     intro t ht hst
     have : (⟨p.1.Key, s, Xg2 L p.1.Key s⟩ : Xb) ∈ es := by
      rw [m.mem]
      refine .inr ⟨fun h => hs h.2, ?_, rfl⟩
      show Xfc w (X9p L p.1.Key) s
      unfold Xfc
      rw [if_neg hk]
      exact ⟨t, ht, hi.1, hi.2.1, hst⟩
     exact hex' _ this ⟨rfl, rfl⟩
    have hvv := Xw9 hnone hin
    constructor
    ·intro hv
     refine .inr (.inr ⟨hex', ?_⟩)
     cases e; simp only at he2 hv; rw [he2.1, he2.2, hv, hvv]; rfl
    ·rintro (⟨_, h⟩ | ⟨y', hy', hsy', _⟩ | ⟨_, h⟩)
     ·exact absurd he h
     ·exact absurd hsy' (hex' y' hy')
     ·rw [h, hvv]
  rw [<- hval]
  constructor
  ·intro h; exact .inl ⟨he2.1, .inr he2.2, h⟩
  ·rintro (⟨_, _, h⟩ | ⟨h, _⟩)
   ·exact h
   ·exact absurd ⟨he2.1, .inr he2.2⟩ h
 ·have hne : ¬ (e.Key = p.1.Key /\ e.Span = s) := fun h => he ((hkey e).2 h)
  constructor
  ·rintro (⟨h1, _⟩ | ⟨y, hy, hsy, h⟩ | ⟨_, h⟩)
   ·rcases (m.mem e).1 h1 with ⟨a1, a2, a3⟩ | ⟨a1, a2⟩
    ·exact .inl ⟨a1, .inl a2, a3⟩
    ·exact .inr ⟨fun h => a1 ⟨h.1, h.2.resolve_right fun hh => hne ⟨h.1, hh⟩⟩, a2⟩
   ·exact absurd (by rw [h]; exact ⟨hsy.1, hsy.2⟩) he
   ·exact absurd (by rw [h]; exact ⟨rfl, rfl⟩) he
  ·rintro (⟨a1, a2, a3⟩ | ⟨a1, a2⟩)
   ·exact .inl ⟨(m.mem e).2 (.inl ⟨a1, a2.resolve_right fun hh => hne ⟨a1, hh⟩, a3⟩), he⟩
   ·exact .inl ⟨(m.mem e).2 (.inr ⟨fun h => a1 ⟨h.1, .inl h.2⟩, a2⟩), he⟩
theorem Mid.start {w : X0x} {L : List Pu} {p : Pu} {es : List Xb} (c : X95 w L es) : Mid w L p (fun _ => False) es := by
 refine ⟨c.sorted, fun e => ?_⟩
 rw [c.mem]; simp
theorem Mid.end {w : X0x} {L : List Pu} {p : Pu} {es : List Xb} {done : X13 -> Prop} (hk : w.Kind ≠ 3) (hd : ∀ s, done s ↔ Xol w.Size (Xeu w) p.1.Time s) (m : Mid w L p done es) : X95 w (L ++ [p]) es := by
 refine ⟨m.sorted, fun e => ?_, fun h3 => absurd h3 hk⟩
 rw [m.mem]
 unfold Xtv Xfc
 rw [if_neg hk, if_neg hk]
 by_cases he : e.Key = p.1.Key /\ done e.Span
 ·constructor
  ·rintro (⟨_, _, h⟩ | ⟨h, _⟩)
   ·exact ⟨⟨p.1.Time, (X9c ..).2 (.inr ⟨he.1.symm, rfl⟩), (hd _).1 he.2⟩, h⟩
   ·exact absurd he h
  ·rintro ⟨_, h⟩; exact .inl ⟨he.1, he.2, h⟩
 ·have hv : Xg2 (L ++ [p]) e.Key e.Span = Xg2 L e.Key e.Span \/ ∀ t, X9p L e.Key t -> ¬ Xol w.Size (Xeu w) t e.Span := by
   by_cases hkk : p.1.Key = e.Key /\ inS e.Span p.1.Time
   ·right
    intro t _ hw
    exact he ⟨hkk.1.symm, (hd _).2 ⟨hw.1, hw.2.1, hkk.2⟩⟩
   ·left
    unfold Xg2
    rw [X5s, X5s, if_neg (fun h => hkk ⟨h.1, h.2.1⟩), if_neg (fun h => hkk ⟨h.1, h.2.1⟩), List.append_nil, List.append_nil]
  constructor
  ·rintro (⟨h1, h2, _⟩ | ⟨_, ⟨t, ht, hw⟩, h⟩)
   ·exact absurd ⟨h1, h2⟩ he
   ·refine ⟨⟨t, (X9c ..).2 (.inl ht), hw⟩, ?_⟩
    rcases hv with hv | hv
    ·rw [hv]; exact h
    ·exact absurd hw (hv t ht)
  ·rintro ⟨⟨t, ht, hw⟩, h⟩
   refine .inr ⟨he, ?_⟩
   rcases (X9c ..).1 ht with ht | ⟨hkey, htt⟩
   ·refine ⟨⟨t, ht, hw⟩, ?_⟩
    rcases hv with hv | hv
    ·rw [<- hv]; exact h
    ·exact absurd hw (hv t ht)
   ·exact absurd ⟨hkey.symm, (hd _).2 (htt ▸ hw)⟩ he
end Go.D


namespace Go.D
theorem Xnb {L : List Pu} (hl : L.length <= 1000) (k : Int) (s : X13) : okA (Xg2 L k s).e0 /\ okA (Xg2 L k s).e1 /\ (Xg2 L k s).e0.Count <= 1000 /\ (Xg2 L k s).e1.Count <= 1000 := by
 have h0 := Xlz L k s 0
 have h1 := Xlz L k s 1
 refine ⟨Xk6 (by omega), Xk6 (by omega), ?_, ?_⟩
 ·show (Xef _).Count <= 1000; rw [X43]; omega
 ·show (Xef _).Count <= 1000; rw [X43]; omega
theorem X019 (p : Pu) (s : X13) : okA (X7x p s).Values.e0 /\ okA (X7x p s).Values.e1 /\ (X7x p s).Values.e0.Count <= 1 /\ (X7x p s).Values.e1.Count <= 1 := by
 unfold X7x
 dsimp only
 refine ⟨?_, ?_, ?_, ?_⟩
 ·split
  ·exact Xo7 _
  ·exact Xlt
 ·split
  ·exact Xo7 _
  ·exact Xlt
 ·split
  ·exact Int.le_refl _
  ·show (0 : Int) <= 1; decide
 ·split
  ·exact Int.le_refl _
  ·show (0 : Int) <= 1; decide
theorem Mid.vals {w : X0x} {L : List Pu} {p : Pu} {done : X13 -> Prop} {es : List Xb} (m : Mid w L p done es) (hl : L.length <= 900) {e : Xb} (he : e ∈ es) : okA e.Values.e0 /\ okA e.Values.e1 /\ e.Values.e0.Count <= 1000 /\ e.Values.e1.Count <= 1000 := by
 rcases (m.mem e).1 he with ⟨_, _, h⟩ | ⟨_, _, h⟩
 ·rw [h]; exact Xnb (by simp; omega) _ _
 ·rw [h]; exact Xnb (by omega) _ _
theorem X037 {w : X0x} {L : List Pu} {p : Pu} (hk : w.Kind ≠ 3) (hl : L.length <= 900) (Y : List X13) : ∀ (xs : List X13) (k : Nat) (x0 : Xb) (l : List Xb) (done : X13 -> Prop), Mid w L p done l -> xs.Nodup -> (∀ s ∈ xs, ¬ done s /\ Xol w.Size (Xeu w) p.1.Time s) ->
  x0.Key = p.1.Key -> (∀ s, x0.Values = (X7x p s).Values) -> l.length + xs.length <= 9000 -> ∃ l', X4w Y xs k x0 l = some (.x0 l') /\ Mid w L p (fun s => done s \/ s ∈ xs) l' /\ l'.length <= l.length + xs.length := by
 intro xs
 induction xs with
 | nil => intro k x0 l done m _ _ _ _ _; exact ⟨l, rfl, by simpa using m, by simp⟩
 | cons s xs ih =>
  intro k x0 l done m hnd hs hk0 hv0 hlen
  rw [List.nodup_cons] at hnd
  have hs0 := hs s List.mem_cons_self
  have hx : (⟨x0.Key, s, x0.Values⟩ : Xb) = X7x p s := by rw [hk0, hv0 s]; rfl
  have er := X019 p s
  have m2 := m.step hk (by omega) hs0.1 hs0.2
  simp only [List.length_cons] at hlen
  obtain ⟨l', h1, h2, h3⟩ := ih (k + 1) (X7x p s) (Xma l (X7x p s)) _ m2 hnd.2 (fun x hxx => ⟨fun h => h.elim (hs x (List.mem_cons_of_mem _ hxx)).1 (fun e => hnd.1 (e ▸ hxx)), (hs x (List.mem_cons_of_mem _ hxx)).2⟩) rfl (fun _ => rfl) (by have := Xm9 l (X7x p s); omega)
  refine ⟨l', ?_, ⟨h2.sorted, fun e => ?_⟩, by have := Xm9 l (X7x p s); simp only [List.length_cons]; omega⟩
  ·rw [X4w]
   have key : ∀ o, X4w Y xs (k + 1) (X7x p s) (Xma l (X7x p s)) = some o -> ((Xr l (Xb.mk x0.Key s x0.Values)).bind fun v1891 => bif (!v1891.2) then (bif (v1891.1 == (List.length l : Int)) then (((X7f l v1891.1 (List.length l : Int)).bind fun m1903 => bif (List.isEmpty m1903) then ((X2i (List.length (l ++ [(Xb.mk x0.Key s x0.Values)])) 88).bind fun u1906 => some ()) else ((X2i (List.length (l ++ [(Xb.mk x0.Key s x0.Values)])) 88).bind fun u1908 => some ()) : Option (Unit)).bind fun _ => some ((Xb.mk ((Xb.mk x0.Key s x0.Values).Key) ((Xb.mk x0.Key s x0.Values).Span) (V2.mk (((Xb.mk x0.Key s x0.Values).Values).e0) (((Xb.mk x0.Key s x0.Values).Values).e1))), (l ++ [(Xb.mk x0.Key s x0.Values)]), 0)) else ((Xt2 l v1891.1 (Xb.mk x0.Key s x0.Values) 88).bind fun m1911 => some ((Xb.mk x0.Key s x0.Values), m1911, 0))) else ((X2o l v1891.1).bind fun e1913 => ((X2s e1913.Values.e0 x0.Values.e0).bind fun v1928 => bif (v1928.2 != (0 : Int)) then (some (l, v1928.2)) else ((X2s (((Xb.mk e1913.Key e1913.Span (V2.mk v1928.1 e1913.Values.e1)).Values).e1) x0.Values.e1).bind fun v1933 => bif (v1933.2 != (0 : Int)) then (some ((List.set l (Int.toNat v1891.1) (Xb.mk e1913.Key e1913.Span (V2.mk v1928.1 e1913.Values.e1))), v1933.2)) else (some ((List.set (List.set l (Int.toNat v1891.1) (Xb.mk e1913.Key e1913.Span (V2.mk v1928.1 e1913.Values.e1))) (Int.toNat v1891.1) (Xb.mk ((Xb.mk e1913.Key e1913.Span (V2.mk v1928.1 e1913.Values.e1)).Key) ((Xb.mk e1913.Key e1913.Span (V2.mk v1928.1 e1913.Values.e1)).Span) (V2.mk (((Xb.mk e1913.Key e1913.Span (V2.mk v1928.1 e1913.Values.e1)).Values).e0) v1933.1))), 0))) : Option ((List Xb) × Int)).bind fun w1925 => some ((Xb.mk ((Xb.mk x0.Key s x0.Values).Key) ((Xb.mk x0.Key s x0.Values).Span) (V2.mk (((Xb.mk x0.Key s x0.Values).Values).e0) (((Xb.mk x0.Key s x0.Values).Values).e1))), w1925.1, w1925.2)) : Option (Xb × (List Xb) × Int)) = some (X7x p s, Xma l (X7x p s), 0) := by
    intro o _
    rw [X036 m.sorted (by omega), Xuw m.sorted]
    have hle := Xwi l (X7x p s)
    have hval : x0.Values = (X7x p s).Values := hv0 s
    rw [hx, hval]
    cases h : l[cnt l (X7x p s)]? with
    | none =>
     have hc : cnt l (X7x p s) = l.length := by have := List.getElem?_eq_none_iff.1 h; omega
     have hsl : X7f l (l.length : Int) (l.length : Int) = some [] := by simp [X7f]
     simp only [Yo, Bool.not_false, cond_true, hc, beq_self_eq_true, hsl]
     rw [X5f (by simp; omega)]
     rfl
    | some y =>
     have hlt : cnt l (X7x p s) < l.length := (Ys.1 h).1
     simp only [Yo]
     by_cases hkk : X5n y (X7x p s)
     ·obtain ⟨a1, a2, a3, a4⟩ := m.vals hl (Yg h)
      simp only [hkk, decide_true, Bool.not_true, cond_false, X6c, h, Yo, X1g a1 er.1 (by omega), X1g a2 er.2.1 (by omega), bne_self_eq_false, if_true, Int.toNat_natCast, List.set_set]
      rfl
     ·have hne : ((cnt l (X7x p s) : Int) == (l.length : Int)) = false := by simp; omega
      have hi : Xt2 l (cnt l (X7x p s) : Int) (X7x p s) 88 = some (l.take (cnt l (X7x p s)) ++ X7x p s :: l.drop (cnt l (X7x p s))) := by
       unfold Xt2; rw [if_pos ⟨by omega, by simpa using hlt, by omega⟩]; simp
      simp only [hkk, decide_false, Bool.not_false, cond_true, hne, cond_false, hi, Yo, if_false]
   rw [key _ h1, Yo]
   simp only [bne_self_eq_false, cond_false]
   exact h1
  ·rw [h2.mem]
   simp only [List.mem_cons, or_assoc]
theorem Xk4 {w : X0x} {L : List Pu} {es : List Xb} (hw : okW w) (hL : Xu4 w L) (c : X95 w L es) : ∀ e ∈ es, okE e := by
 intro e he
 obtain ⟨h1, h2⟩ := (c.mem e).1 he
 have hlen := hL.len
 obtain ⟨v1, v2, v3, v4⟩ := Xnb (L := L) (by omega) e.Key e.Span
 rw [<- h2] at v1 v2 v3 v4
 have hpos : ∀ t, X9p L e.Key t -> inS e.Span t -> 0 < e.Values.e0.Count + e.Values.e1.Count := by
  intro t ht hi
  have := Xuc hL.side ht hi
  rw [h2]
  show 0 < (Xef _).Count + (Xef _).Count
  rw [X43, X43]; omega
 have htime : ∀ t, X9p L e.Key t -> okT t := by
  rintro t ⟨p, hp, _, rfl⟩; exact hL.time p hp
 obtain ⟨w1, w2, w3⟩ := hw
 unfold Xfc at h1
 by_cases hk : w.Kind = 3
 ·rw [if_pos hk] at h1
  obtain ⟨s1, s2, s3, s4⟩ := h1
  obtain ⟨t, ht, a1, a2⟩ := s2 (2 * e.Span.Start + 1) (by omega) (by omega)
  have hts : t = e.Span.Start := by
   have : ¬ (2 * t < 2 * e.Span.Start) := fun h => s3 ⟨t, ht, h, by omega⟩
   omega
  obtain ⟨t', ht', b1, b2⟩ := s2 (2 * e.Span.End - 1) (by omega) (by omega)
  have hte : t' + w.Size = e.Span.End := by
   have : ¬ (2 * e.Span.End < 2 * (t' + w.Size)) := fun h => s4 ⟨t', ht', by omega, h⟩
   omega
  have q1 := htime t ht
  have q2 := htime t' ht'
  unfold okT at q1 q2
  exact ⟨by omega, s1, by omega, v1, v2, hpos t ht ⟨by omega, by omega⟩⟩
 ·rw [if_neg hk] at h1
  obtain ⟨t, ht, a1, a2, a3, a4⟩ := h1
  have q1 := htime t ht
  unfold okT at q1
  exact ⟨by omega, by omega, by omega, v1, v2, hpos t ht ⟨a3, a4⟩⟩
theorem Xit {w : X0x} {L : List Pu} {p : Pu} {es : List Xb} (hw : okW w) (hk : w.Kind ≠ 3) (hL : Xu4 w (L ++ [p])) (c : X95 w L es) (hn : es.length <= 3900) :
  ∃ es', X8u es w p.1 p.2 = some (es', 0) /\ X95 w (L ++ [p]) es' /\ es'.length <= es.length + 16 := by
 have ht := hL.time p (by simp)
 have hsd := hL.side p (by simp)
 have hll := hL.init.len
 obtain ⟨W, hW, hWl, hWn, hWm⟩ := X87 hw hk ht
 obtain ⟨l', h1, h2, h3⟩ := X037 (w := w) (L := L) (p := p) hk (by omega) W W 0 (X7x p ⟨0, 0⟩) es _ (Mid.start c) hWn (fun s hs => ⟨fun h => h, (hWm s).1 hs⟩) rfl (fun _ => rfl) (by omega)
 refine ⟨l', ?_, Mid.end hk (fun s => by simpa using hWm s) h2, by omega⟩
 unfold X8u
 have e1 : (bif (p.2 != 0) then (p.2 != 1) else false) = false := by rcases hsd with h | h <;> simp [h]
 have e2 : (bif (decide (p.1.Time < ((-1099511627776) : Int))) then true else (decide (p.1.Time > (1099511627776 : Int)))) = false := by
  unfold okT at ht
  have a : decide (p.1.Time < ((-1099511627776) : Int)) = false := by simp; omega
  have b : decide (p.1.Time > (1099511627776 : Int)) = false := by simp; omega
  rw [a, b]; rfl
 have e3 : ((Xag p.1.Value).bind fun v14 => bif (p.2 == (0 : Int)) then (some (Xb.mk p.1.Key (X13.mk 0 0) (V2.mk v14 (X1j.mk 0 0 0 0)))) else (bif (p.2 == (1 : Int)) then (some (Xb.mk p.1.Key (X13.mk 0 0) (V2.mk (X1j.mk 0 0 0 0) v14))) else none) : Option (Xb)) = some (X7x p ⟨0, 0⟩) := by
  simp only [Xag, Yo]
  rcases hsd with h | h
  ·simp [h, X7x, ofA, Xd3]
  ·simp [h, X7x, ofA, Xd3]
 have e4 : (bif (List.isEmpty es) then (some es) else ((X2i (List.length es) 88).bind fun u28 => some es) : Option ((List Xb))) = some es := by
  rw [X5f (by omega)]
  cases List.isEmpty es <;> rfl
 have e5 : (w.Kind == 3) = false := by simp [hk]
 rw [X2n c.sorted (Xk4 hw hL.init c) (by omega), Yo]
 simp only [bne_self_eq_false, cond_false, X0c hw, Yo, e1, e2]
 rw [e3, Yo, e4, Yo]
 simp only [e5, cond_false, hW, Yo, bne_self_eq_false]
 rw [X3y (by omega), Yo, h1, Yo]
 have e6 : decide ((l'.length : Int) > 4000) = false := by simp; omega
 simp only [e6, cond_false]
end Go.D


namespace Go.D
theorem Xra {size : Int} {T : Int -> Prop} {a b : X13} (ha : Xix size T a) (hb : Xix size T b) (h1 : a.Start < b.End) (h2 : b.Start < a.End) : a = b := by
 obtain ⟨a1, a2, a3, a4⟩ := ha
 obtain ⟨b1, b2, b3, b4⟩ := hb
 apply Xia
 ·rcases Xz0 a.Start b.Start with h | h
  ·exact absurd (a2 (2 * b.Start) (by omega) (by omega)) b3
  ·rcases Xz0 b.Start a.Start with h' | h'
   ·exact absurd (b2 (2 * a.Start) (by omega) (by omega)) a3
   ·omega
 ·rcases Xz0 a.End b.End with h | h
  ·exact absurd (b2 (2 * a.End) (by omega) (by omega)) a4
  ·rcases Xz0 b.End a.End with h' | h'
   ·exact absurd (a2 (2 * b.End) (by omega) (by omega)) b4
   ·omega
theorem Xij {size : Int} {T T' : Int -> Prop} (h : ∀ t, T t -> T' t) {x : Int} (c : cov size T x) : cov size T' x := by
 obtain ⟨t, h1, h2⟩ := c; exact ⟨t, h t h1, h2⟩
def X9n (L : List Pu) (k : Int) (M : List Xb) (side : Int) : List Int := (L.filter fun q => decide (q.1.Key = k /\ (∃ m ∈ M, inS m.Span q.1.Time) /\ q.2 = side)).map fun q => q.1.Value
def pv (p : Pu) (side : Int) : List Int := if p.2 = side then [p.1.Value] else []
theorem Xw6 {α : Type} (a b : α -> Bool) : ∀ (l : List α), (∀ q ∈ l, ¬ (a q = true /\ b q = true)) -> (l.filter fun q => a q || b q).Perm (l.filter a ++ l.filter b) := by
 intro l
 induction l with
 | nil => intro _; simp
 | cons x l ih =>
  intro h
  have ih' := ih fun q hq => h q (List.mem_cons_of_mem _ hq)
  have hx := h x List.mem_cons_self
  cases ha : a x with
  | true =>
   have hb : b x = false := by cases hb : b x with | true => exact absurd ⟨ha, hb⟩ hx | false => rfl
   rw [List.filter_cons_of_pos (by simp [ha]), List.filter_cons_of_pos ha, List.filter_cons_of_neg (by simp [hb])]
   exact ih'.cons x
  | false =>
   cases hb : b x with
   | true =>
    rw [List.filter_cons_of_pos (by simp [hb]), List.filter_cons_of_neg (by simp [ha]), List.filter_cons_of_pos hb]
    exact (ih'.cons x).trans List.perm_middle.symm
   | false =>
    rw [List.filter_cons_of_neg (by simp [ha, hb]), List.filter_cons_of_neg (by simp [ha]), List.filter_cons_of_neg (by simp [hb])]
    exact ih'
theorem Xp9 {L : List Pu} {k : Int} {M : List Xb} {y : Xb} {side : Int} (h : ∀ q ∈ L, q.1.Key = k -> inS y.Span q.1.Time -> ¬ ∃ m ∈ M, inS m.Span q.1.Time) :
  (X9n L k (y :: M) side).Perm (X9n L k M side ++ vals L k y.Span side) := by
 unfold X9n vals
 rw [<- List.map_append]
 refine List.Perm.map _ ?_
 have h1 := Xw6 (fun q : Pu => decide (q.1.Key = k /\ (∃ m ∈ M, inS m.Span q.1.Time) /\ q.2 = side)) (fun q => decide (q.1.Key = k /\ inS y.Span q.1.Time /\ q.2 = side)) L (fun q hq hc => by
  simp only [decide_eq_true_eq] at hc
  exact h q hq hc.1.1 hc.2.2.1 hc.1.2.1)
 refine List.Perm.trans (List.Perm.of_eq ?_) h1
 refine List.filter_congr fun q _ => ?_
 rw [Bool.eq_iff_iff]
 simp only [decide_eq_true_eq, Bool.or_eq_true, List.mem_cons]
 constructor
 ·rintro ⟨a1, ⟨m, hm | hm, hi⟩, a2⟩
  ·exact .inr ⟨a1, by rw [<- hm]; exact hi, a2⟩
  ·exact .inl ⟨a1, ⟨m, hm, hi⟩, a2⟩
 ·rintro (⟨a1, ⟨m, hm, hi⟩, a2⟩ | ⟨a1, hi, a2⟩)
  ·exact ⟨a1, ⟨m, .inr hm, hi⟩, a2⟩
  ·exact ⟨a1, ⟨y, .inl rfl, hi⟩, a2⟩
theorem Xbi (L : List Pu) (k : Int) (M : List Xb) (side : Int) : (X9n L k M side).length <= L.length := by unfold X9n; rw [List.length_map]; exact List.length_filter_le _ _
theorem Xo4 (p : Pu) (side : Int) : (pv p side).length <= 1 := by unfold pv; split <;> simp
def olap (x y : Xb) : Prop := y.Key = x.Key /\ y.Span.Start < x.Span.End /\ x.Span.Start < y.Span.End
instance (x y : Xb) : Decidable (olap x y) := by unfold olap; infer_instance
structure Ses (w : X0x) (L : List Pu) (p : Pu) (es l : List Xb) (x : Xb) (M : List Xb) : Prop where
 sub : l.Sublist es
 part : ∀ e, e ∈ es ↔ e ∈ l \/ e ∈ M
 apart : ∀ e ∈ l, e ∉ M
 keyM : ∀ m ∈ M, m.Key = p.1.Key
 key : x.Key = p.1.Key
 own : x.Span.Start <= p.1.Time /\ p.1.Time + w.Size <= x.Span.End
 inner : ∀ z, 2 * x.Span.Start < z -> z < 2 * x.Span.End -> cov w.Size (fun t => X9p L p.1.Key t \/ t = p.1.Time) z
 hull : ∀ m ∈ M, x.Span.Start <= m.Span.Start /\ m.Span.End <= x.Span.End
 val0 : x.Values.e0 = Xef (pv p 0 ++ X9n L p.1.Key M 0)
 val1 : x.Values.e1 = Xef (pv p 1 ++ X9n L p.1.Key M 1)
theorem Xwv (p : Pu) (s : X13) : (X7x p s).Values.e0 = Xef (pv p 0) /\ (X7x p s).Values.e1 = Xef (pv p 1) := by
 unfold X7x pv
 constructor
 ·dsimp only; split
  ·exact (Xee _).symm
  ·rfl
 ·dsimp only; split
  ·exact (Xee _).symm
  ·rfl
theorem Ses.start {w : X0x} {L : List Pu} {p : Pu} {es : List Xb} (hw : 1 <= w.Size) : Ses w L p es es (X7x p ⟨p.1.Time, p.1.Time + w.Size⟩) [] := by
 have hv : ∀ side, X9n L p.1.Key [] side = [] := fun side => by unfold X9n; simp
 refine ⟨.refl _, fun e => by simp, fun e _ => by simp, fun m hm => (by cases hm), rfl, ⟨Int.le_refl _, Int.le_refl _⟩, fun z h1 h2 => ?_, fun m hm => (by cases hm), ?_, ?_⟩
 ·exact ⟨p.1.Time, .inr rfl, h1, h2⟩
 ·rw [hv, List.append_nil]; exact (Xwv p _).1
 ·rw [hv, List.append_nil]; exact (Xwv p _).2
def Xom (x y : Xb) : Xb := ⟨x.Key, ⟨if y.Span.Start < x.Span.Start then y.Span.Start else x.Span.Start, if y.Span.End > x.Span.End then y.Span.End else x.Span.End⟩, ⟨X48 x.Values.e0 y.Values.e0, X48 x.Values.e1 y.Values.e1⟩⟩
theorem Ses.step {w : X0x} {L : List Pu} {p : Pu} {es l : List Xb} {x : Xb} {M : List Xb} (hk : w.Kind = 3) (hl : L.length <= 900) (c : X95 w L es) (s : Ses w L p es l x M) {i : Nat} {y : Xb} (hi : l[i]? = some y) (ho : olap x y) :
  Ses w L p es (l.take i ++ l.drop (i + 1)) (Xom x y) (y :: M) := by
 have hyl : y ∈ l := Yg hi
 have hye : y ∈ es := (s.part y).2 (.inl hyl)
 have hyM := s.apart y hyl
 have hky : y.Key = p.1.Key := ho.1.trans s.key
 obtain ⟨hyw, hyv⟩ := (c.mem y).1 hye
 unfold Xfc at hyw
 rw [if_pos hk, hky] at hyw
 rw [hky] at hyv
 have hlt : i < l.length := (Ys.1 hi).1
 have hsplit : l = l.take i ++ y :: l.drop (i + 1) := by
  have : l[i] = y := (Ys.1 hi).2
  rw [<- this, <- List.drop_eq_getElem_cons hlt, List.take_append_drop]
 have hnd : l.Nodup := s.sub.nodup (List.Pairwise.imp (R := ltE) (S := fun a b => a ≠ b) (fun {a b} h (e : a = b) => Xgo b (by rw [e] at h; exact h)) c.sorted)
 have hyn : y ∉ l.take i ++ l.drop (i + 1) := by
  rw [hsplit] at hnd
  exact (List.nodup_cons.1 (List.perm_middle.nodup_iff.1 hnd)).1
 have hmem : ∀ e, e ∈ l ↔ e = y \/ e ∈ l.take i ++ l.drop (i + 1) := by
  intro e
  rw [hsplit]
  simp only [List.mem_append, List.mem_cons]
  rw [<- hsplit]
  constructor
  ·rintro (h | h | h)
   ·exact .inr (.inl h)
   ·exact .inl h
   ·exact .inr (.inr h)
  ·rintro (h | h | h)
   ·exact .inr (.inl h)
   ·exact .inl h
   ·exact .inr (.inr h)
 have hdis : ∀ q ∈ L, q.1.Key = p.1.Key -> inS y.Span q.1.Time -> ¬ ∃ m ∈ M, inS m.Span q.1.Time := by
  rintro q hq _ hyq ⟨m, hm, hmq⟩
  have hme : m ∈ es := (s.part m).2 (.inr hm)
  obtain ⟨hmw, hmv⟩ := (c.mem m).1 hme
  unfold Xfc at hmw
  rw [if_pos hk, s.keyM m hm] at hmw
  rw [s.keyM m hm] at hmv
  unfold inS at hyq hmq
  have hsp : y.Span = m.Span := Xra hyw hmw (by omega) (by omega)
  have : y = m := by cases y; cases m; simp only at hky hyv hsp hmv; simp only [Xb.mk.injEq]; exact ⟨hky.trans (s.keyM _ hm).symm, hsp, by rw [hyv, hmv, hsp]⟩
  exact hyM (this ▸ hm)
 have hval : ∀ side, (pv p side ++ X9n L p.1.Key M side).length <= 1073741824 := fun side => by
  have := Xo4 p side; have := Xbi L p.1.Key M side; simp; omega
 have hperm : ∀ side, Xef (pv p side ++ X9n L p.1.Key (y :: M) side) = X48 (Xef (pv p side ++ X9n L p.1.Key M side)) (Xef (vals L p.1.Key y.Span side)) := fun side => by
  have hp := (Xp9 (L := L) (k := p.1.Key) (M := M) (y := y) (side := side) hdis).append_left (pv p side)
  rw [Xp3 hp (by have := Xo4 p side; have := Xbi L p.1.Key (y :: M) side; simp; omega), <- List.append_assoc, X6y]
 obtain ⟨_, o1, o2⟩ := ho
 refine ⟨?_, fun e => ?_, fun e he hm => ?_, fun m hm => ?_, s.key, ?_, fun z h1 h2 => ?_, fun m hm => ?_, ?_, ?_⟩
 ·refine List.Sublist.trans ?_ s.sub
  conv => rhs; rw [hsplit]
  exact List.Sublist.append_left (List.sublist_cons_self _ _) _
 ·rw [s.part, hmem, List.mem_cons]
  constructor
  ·rintro ((h | h) | h)
   ·exact .inr (.inl h)
   ·exact .inl h
   ·exact .inr (.inr h)
  ·rintro (h | h | h)
   ·exact .inl (.inr h)
   ·exact .inl (.inl h)
   ·exact .inr h
 ·rcases List.mem_cons.1 hm with h | h
  ·exact hyn (h ▸ he)
  ·exact s.apart e ((hmem e).2 (.inr he)) h
 ·rcases List.mem_cons.1 hm with h | h
  ·rw [h]; exact hky
  ·exact s.keyM m h
 ·have := s.own
  unfold Xom
  constructor
  ·dsimp only; split <;> omega
  ·dsimp only; split <;> omega
 ·have hz : (2 * x.Span.Start < z /\ z < 2 * x.Span.End) \/ (2 * y.Span.Start < z /\ z < 2 * y.Span.End) := by
   unfold Xom at h1 h2
   dsimp only at h1 h2
   split at h1 <;> split at h2 <;> omega
  rcases hz with ⟨g1, g2⟩ | ⟨g1, g2⟩
  ·exact s.inner z g1 g2
  ·exact Xij (fun t h => .inl h) (hyw.2.1 z g1 g2)
 ·have hx : (Xom x y).Span.Start <= x.Span.Start /\ x.Span.End <= (Xom x y).Span.End /\ (Xom x y).Span.Start <= y.Span.Start /\ y.Span.End <= (Xom x y).Span.End := by
   unfold Xom; dsimp only
   refine ⟨?_, ?_, ?_, ?_⟩ <;> split <;> omega
  rcases List.mem_cons.1 hm with h | h
  ·rw [h]; exact ⟨hx.2.2.1, hx.2.2.2⟩
  ·have := s.hull m h; omega
 ·show X48 x.Values.e0 y.Values.e0 = _
  rw [hperm, s.val0, hyv]; rfl
 ·show X48 x.Values.e1 y.Values.e1 = _
  rw [hperm, s.val1, hyv]; rfl
theorem Ses.end {w : X0x} {L : List Pu} {p : Pu} {es l : List Xb} {x : Xb} {M : List Xb} (hk : w.Kind = 3) (hw : 1 <= w.Size) (hl : L.length <= 900) (c : X95 w L es) (s : Ses w L p es l x M) (hno : ∀ y ∈ l, ¬ olap x y) : X95 w (L ++ [p]) (Xma l x) := by
 have hsl : l.Pairwise ltE := c.sorted.sublist s.sub
 have hxx : x.Span.Start < x.Span.End := by have := s.own; omega
 have hnl : ∀ y ∈ l, y.Key = p.1.Key -> ¬ (y.Span.Start < x.Span.End /\ x.Span.Start < y.Span.End) := fun y hy hky h => hno y hy ⟨hky.trans s.key.symm, h.1, h.2⟩
 have hT : (X9p (L ++ [p]) p.1.Key) = fun t => X9p L p.1.Key t \/ t = p.1.Time := by
  funext t; apply propext; rw [X9c]
  exact ⟨fun h => h.imp id fun h => h.2.symm, fun h => h.imp id fun h => ⟨rfl, h.symm⟩⟩
 have hes : ∀ e ∈ es, e.Key = p.1.Key -> Xix w.Size (X9p L p.1.Key) e.Span := by
  intro e he hke
  have := ((c.mem e).1 he).1
  unfold Xfc at this
  rw [if_pos hk, hke] at this; exact this
 have hxw : Xix w.Size (fun t => X9p L p.1.Key t \/ t = p.1.Time) x.Span := by
  refine ⟨hxx, s.inner, ?_, ?_⟩
  ·rintro ⟨t, ht | ht, h1, h2⟩
   ·obtain ⟨e, he, hke, a1, a2⟩ := c.cover hk _ t ht
    rcases (s.part e).1 he with h | h
    ·exact hnl e h hke ⟨by omega, by omega⟩
    ·have := s.hull e h; omega
   ·have := s.own; omega
  ·rintro ⟨t, ht | ht, h1, h2⟩
   ·obtain ⟨e, he, hke, a1, a2⟩ := c.cover hk _ t ht
    rcases (s.part e).1 he with h | h
    ·exact hnl e h hke ⟨by omega, by omega⟩
    ·have := s.hull e h; omega
   ·have := s.own; omega
 have hpin : inS x.Span p.1.Time := by have := s.own; unfold inS; omega
 have hxv : x.Values = Xg2 (L ++ [p]) p.1.Key x.Span := by
  have hv : ∀ side, Xef (pv p side ++ X9n L p.1.Key M side) = Xef (vals (L ++ [p]) p.1.Key x.Span side) := by
   intro side
   have h1 : vals L p.1.Key x.Span side = X9n L p.1.Key M side := by
    unfold vals X9n
    congr 1
    refine List.filter_congr fun q hq => ?_
    rw [Bool.eq_iff_iff]
    simp only [decide_eq_true_eq]
    constructor
    ·rintro ⟨a1, a2, a3⟩
     refine ⟨a1, ?_, a3⟩
     obtain ⟨e, he, hke, b1, b2⟩ := c.cover hk _ q.1.Time ⟨q, hq, a1, rfl⟩
     unfold inS at a2
     rcases (s.part e).1 he with h | h
     ·exact absurd ⟨by omega, by omega⟩ (hnl e h hke)
     ·exact ⟨e, h, by unfold inS; omega⟩
    ·rintro ⟨a1, ⟨m, hm, b1, b2⟩, a3⟩
     have := s.hull m hm
     exact ⟨a1, ⟨by omega, by omega⟩, a3⟩
   have h2 : (if p.1.Key = p.1.Key /\ inS x.Span p.1.Time /\ p.2 = side then [p.1.Value] else []) = pv p side := by
    unfold pv
    by_cases h : p.2 = side
    ·rw [if_pos ⟨rfl, hpin, h⟩, if_pos h]
    ·rw [if_neg (fun hc => h hc.2.2), if_neg h]
   rw [X5s, h1, h2]
   exact Xp3 List.perm_append_comm (by have := Xo4 p side; have := Xbi L p.1.Key M side; simp; omega)
  have h0 := s.val0
  have h1 := s.val1
  rw [hv] at h0 h1
  unfold Xg2
  rw [<- h0, <- h1]
 have hns : ∀ y ∈ l, ¬ X5n y x := fun y hy hs => hno y hy ⟨hs.1, by rw [hs.2]; exact hxx, by rw [hs.2]; exact hxx⟩
 have hput : ∀ e, e ∈ Xma l x ↔ e ∈ l \/ e = x := by
  intro e
  rw [Xm8 hsl]
  constructor
  ·rintro (⟨h, _⟩ | ⟨y, hy, hs, _⟩ | ⟨_, h⟩)
   ·exact .inl h
   ·exact absurd hs (hns y hy)
   ·exact .inr h
  ·rintro (h | h)
   ·exact .inl ⟨h, hns e h⟩
   ·exact .inr (.inr ⟨hns, h⟩)
 refine ⟨Xj3 hsl, fun e => ?_, fun _ k t ht => ?_⟩
 ·rw [hput]
  unfold Xtv Xfc
  rw [if_pos hk]
  by_cases hke : e.Key = p.1.Key
  ·rw [hke, hT]
   have hsame : ¬ (e.Span.Start < x.Span.End /\ x.Span.Start < e.Span.End) -> (Xix w.Size (fun t => X9p L p.1.Key t \/ t = p.1.Time) e.Span /\ e.Values = Xg2 (L ++ [p]) p.1.Key e.Span ↔ Xix w.Size (X9p L p.1.Key) e.Span /\ e.Values = Xg2 L p.1.Key e.Span) := by
    intro hn
    have hown := s.own
    have hpn : e.Span.Start < e.Span.End -> ¬ inS e.Span p.1.Time := fun h hi => by unfold inS at hi; exact hn ⟨by omega, by omega⟩
    have hvv : e.Span.Start < e.Span.End -> Xg2 (L ++ [p]) p.1.Key e.Span = Xg2 L p.1.Key e.Span := fun h => by
     unfold Xg2
     rw [X5s, X5s, if_neg (fun hc => hpn h hc.2.1), if_neg (fun hc => hpn h hc.2.1), List.append_nil, List.append_nil]
    constructor
    ·rintro ⟨⟨a1, a2, a3, a4⟩, hv⟩
     refine ⟨⟨a1, fun z h1 h2 => ?_, fun h => a3 (Xij (fun t h => .inl h) h), fun h => a4 (Xij (fun t h => .inl h) h)⟩, by rw [hv, hvv a1]⟩
     obtain ⟨t, ht | ht, b1, b2⟩ := a2 z h1 h2
     ·exact ⟨t, ht, b1, b2⟩
     ·exact absurd ⟨by omega, by omega⟩ hn
    ·rintro ⟨⟨a1, a2, a3, a4⟩, hv⟩
     refine ⟨⟨a1, fun z h1 h2 => Xij (fun t h => .inl h) (a2 z h1 h2), ?_, ?_⟩, by rw [hv, hvv a1]⟩
     ·rintro ⟨t, ht | ht, b1, b2⟩
      ·exact a3 ⟨t, ht, b1, b2⟩
      ·exact hn ⟨by omega, by omega⟩
     ·rintro ⟨t, ht | ht, b1, b2⟩
      ·exact a4 ⟨t, ht, b1, b2⟩
      ·exact hn ⟨by omega, by omega⟩
   constructor
   ·rintro (h | h)
    ·have he : e ∈ es := (s.part e).2 (.inl h)
     refine (hsame (hnl e h hke)).2 ⟨hes e he hke, ?_⟩
     have := ((c.mem e).1 he).2
     rw [hke] at this; exact this
    ·rw [h]; exact ⟨hxw, hxv⟩
   ·intro h
    by_cases hov : e.Span.Start < x.Span.End /\ x.Span.Start < e.Span.End
    ·right
     have hsp := Xra h.1 hxw hov.1 hov.2
     have hkx := s.key
     obtain ⟨_, h2⟩ := h
     rw [hsp] at h2
     cases e; cases x
     simp only at hke hsp h2 hkx hxv
     simp only [Xb.mk.injEq]
     exact ⟨hke.trans hkx.symm, hsp, by rw [h2, hxv]⟩
    ·left
     have h3 := (hsame hov).1 h
     have he : e ∈ es := (c.mem e).2 ⟨by unfold Xfc; rw [if_pos hk, hke]; exact h3.1, by rw [hke]; exact h3.2⟩
     rcases (s.part e).1 he with h4 | h4
     ·exact h4
     ·have := s.hull e h4
      exact absurd ⟨by have := h3.1.1; omega, by have := h3.1.1; omega⟩ hov
  ·have hT2 : X9p (L ++ [p]) e.Key = X9p L e.Key := by
    funext t; apply propext; rw [X9c]
    exact ⟨fun h => h.resolve_right fun hc => hke hc.1.symm, .inl⟩
   have hV2 : Xg2 (L ++ [p]) e.Key e.Span = Xg2 L e.Key e.Span := by
    unfold Xg2
    rw [X5s, X5s, if_neg (fun hc => hke hc.1.symm), if_neg (fun hc => hke hc.1.symm), List.append_nil, List.append_nil]
   rw [hT2, hV2]
   constructor
   ·rintro (h | h)
    ·have := (c.mem e).1 ((s.part e).2 (.inl h))
     unfold Xtv Xfc at this
     rw [if_pos hk] at this; exact this
    ·exact absurd (by rw [h]; exact s.key) hke
   ·intro h
    have he : e ∈ es := (c.mem e).2 (by unfold Xtv Xfc; rw [if_pos hk]; exact h)
    rcases (s.part e).1 he with h4 | h4
    ·exact .inl h4
    ·exact absurd (s.keyM e h4) hke
 ·rcases (X9c ..).1 ht with ht | ⟨h1, h2⟩
  ·obtain ⟨e, he, hke, a1, a2⟩ := c.cover hk k t ht
   rcases (s.part e).1 he with h | h
   ·exact ⟨e, (hput e).2 (.inl h), hke, a1, a2⟩
   ·have := s.hull e h
    exact ⟨x, (hput x).2 (.inr rfl), s.key.trans ((s.keyM e h).symm.trans hke), by omega, by omega⟩
  ·have := s.own
   exact ⟨x, (hput x).2 (.inr rfl), s.key.trans h1, by omega, by omega⟩
end Go.D


namespace Go.D
theorem Xy5 (Y : List Xb) (x : Xb) : ∀ (xs : List Xb) (k : Nat), (Xs Y x xs k = some .x0 /\ ∀ y ∈ xs, ¬ olap x y) \/
  ∃ (i : Nat) (y : Xb), Xs Y x xs k = some (.x1 ((k + i : Nat) : Int)) /\ xs[i]? = some y /\ olap x y := by
 intro xs
 induction xs with
 | nil => intro k; exact .inl ⟨rfl, fun y hy => by cases hy⟩
 | cons z xs ih =>
  intro k
  rw [Xs]
  by_cases h : olap x z
  ·right
   have : (bif (bif (z.Key == x.Key) then (decide (z.Span.Start < x.Span.End)) else false) then (decide (x.Span.Start < z.Span.End)) else false) = true := by
    obtain ⟨h1, h2, h3⟩ := h; simp [h1, h2, h3]
   rw [this, cond_true]
   exact ⟨0, z, rfl, rfl, h⟩
  ·have : (bif (bif (z.Key == x.Key) then (decide (z.Span.Start < x.Span.End)) else false) then (decide (x.Span.Start < z.Span.End)) else false) = false := by
    rw [<- Bool.not_eq_true]
    intro hc
    apply h
    by_cases h1 : z.Key = x.Key
    ·by_cases h2 : z.Span.Start < x.Span.End
     ·by_cases h3 : x.Span.Start < z.Span.End
      ·exact ⟨h1, h2, h3⟩
      ·simp [h1, h2, h3] at hc
     ·simp [h1, h2] at hc
    ·have : (z.Key == x.Key) = false := by simp [h1]
     simp [this] at hc
   rw [this, cond_false]
   rcases ih (k + 1) with ⟨h1, h2⟩ | ⟨i, y, h1, h2, h3⟩
   ·exact .inl ⟨h1, fun y hy => (List.mem_cons.1 hy).elim (fun e => e ▸ h) (h2 y)⟩
   ·exact .inr ⟨i + 1, y, by rw [h1]; congr 2; omega, by simpa using h2, h3⟩
theorem X00f {w : X0x} {L : List Pu} {p : Pu} {es : List Xb} (hk : w.Kind = 3) (hw : 1 <= w.Size) (hl : L.length <= 900) (hn : es.length <= 3900) (c : X95 w L es) (hu : ∀ e ∈ es, okA e.Values.e0 /\ okA e.Values.e1 /\ e.Values.e0.Count <= 1000 /\ e.Values.e1.Count <= 1000) : ∀ (f : Nat) (l : List Xb) (x : Xb) (M : List Xb), l.length < f -> Ses w L p es l x M ->
  ∃ es', X21 f l x = some (.x0 es' 0) /\ X95 w (L ++ [p]) es' /\ es'.length <= es.length + 1 := by
 intro f
 induction f with
 | zero => intro l x M h; omega
 | succ f ih =>
  intro l x M hf s
  have hsl : l.Pairwise ltE := c.sorted.sublist s.sub
  have hll : l.length <= es.length := s.sub.length_le
  have hxv : okA x.Values.e0 /\ okA x.Values.e1 /\ x.Values.e0.Count <= 1000 /\ x.Values.e1.Count <= 1000 := by
   have h0 := Xo4 p 0
   have h1 := Xo4 p 1
   have h2 := Xbi L p.1.Key M 0
   have h3 := Xbi L p.1.Key M 1
   rw [s.val0, s.val1]
   refine ⟨Xk6 (by simp; omega), Xk6 (by simp; omega), ?_, ?_⟩
   ·rw [X43]; simp; omega
   ·rw [X43]; simp; omega
  rw [X21]
  rw [X3y (by omega), Yo]
  rcases Xy5 l x l 0 with ⟨h1, h2⟩ | ⟨i, y, h1, h2, h3⟩
  ·rw [h1]
   simp only [Yo]
   have hneg : decide ((-1 : Int) < 0) = true := by decide
   rw [hneg, cond_true]
   have hput := X005 (x := x) hsl (by omega) ⟨hxv.1, hxv.2.1⟩ (fun y hy _ => by
    obtain ⟨a1, a2, a3, a4⟩ := hu y ((s.part y).2 (.inl hy))
    exact ⟨a1, a2, by omega, by omega⟩)
   unfold putF at hput
   refine ⟨Xma l x, ?_, Ses.end hk hw hl c s h2, by have := Xm9 l x; omega⟩
   rw [hput]
   rfl
  ·rw [h1]
   have hlt : i < l.length := (Ys.1 h2).1
   simp only [Yo, Nat.zero_add]
   have hneg : decide ((i : Int) < 0) = false := by simp
   rw [hneg, cond_false, X6c, h2, Yo]
   obtain ⟨a1, a2, a3, a4⟩ := hu y ((s.part y).2 (.inl (Yg h2)))
   have hd : delI l (i : Int) = some (l.take i ++ l.drop (i + 1)) := by
    unfold delI; rw [if_pos ⟨by omega, by simpa using hlt, by omega⟩]; simp
   simp only [X1g hxv.1 a1 (by omega), X1g hxv.2.1 a2 (by omega), Yo, bne_self_eq_false, cond_false, hd]
   have hstep := s.step hk hl c h2 h3
   exact ih _ _ _ (by simp; omega) hstep
theorem Xm2 {w : X0x} {L : List Pu} {p : Pu} {es : List Xb} (hw : okW w) (hk : w.Kind = 3) (hL : Xu4 w (L ++ [p])) (c : X95 w L es) (hn : es.length <= 3900) :
  ∃ es', X8u es w p.1 p.2 = some (es', 0) /\ X95 w (L ++ [p]) es' /\ es'.length <= es.length + 1 := by
 have ht := hL.time p (by simp)
 have hsd := hL.side p (by simp)
 have hll := hL.init.len
 have hw1 := hw.1
 have hw2 := hw.2.1
 have hu : ∀ e ∈ es, okA e.Values.e0 /\ okA e.Values.e1 /\ e.Values.e0.Count <= 1000 /\ e.Values.e1.Count <= 1000 := fun e he => by
  have := ((c.mem e).1 he).2
  rw [this]; exact Xnb (by omega) _ _
 obtain ⟨es', h1, h2, h3⟩ := X00f hk hw1 (by omega) hn c hu FU es _ [] (by unfold FU; omega) (Ses.start (p := p) hw1)
 refine ⟨es', ?_, h2, h3⟩
 have ht' := ht
 unfold okT at ht'
 unfold X8u
 have e1 : (bif (p.2 != 0) then (p.2 != 1) else false) = false := by rcases hsd with h | h <;> simp [h]
 have b1 : decide (p.1.Time < ((-1099511627776) : Int)) = false := by simp; omega
 have b2 : decide (p.1.Time > (1099511627776 : Int)) = false := by simp; omega
 have e2 : (bif (decide (p.1.Time < ((-1099511627776) : Int))) then true else (decide (p.1.Time > (1099511627776 : Int)))) = false := by rw [b1, b2]; rfl
 have e3 : ((Xag p.1.Value).bind fun v14 => bif (p.2 == (0 : Int)) then (some (Xb.mk p.1.Key (X13.mk 0 0) (V2.mk v14 (X1j.mk 0 0 0 0)))) else (bif (p.2 == (1 : Int)) then (some (Xb.mk p.1.Key (X13.mk 0 0) (V2.mk (X1j.mk 0 0 0 0) v14))) else none) : Option (Xb)) = some (X7x p ⟨0, 0⟩) := by
  simp only [Xag, Yo]
  rcases hsd with h | h
  ·simp [h, X7x, ofA, Xd3]
  ·simp [h, X7x, ofA, Xd3]
 have e4 : (bif (List.isEmpty es) then (some es) else ((X2i (List.length es) 88).bind fun u28 => some es) : Option ((List Xb))) = some es := by
  rw [X5f (by omega)]
  cases List.isEmpty es <;> rfl
 have e5 : (w.Kind == 3) = true := by simp [hk]
 have c1 : decide (w.Size < 1) = false := by simp; omega
 have c2 : decide (w.Size > 1073741824) = false := by simp; omega
 have e6 : X45 0 w.Size = some 0 := by
  simp only [X45, c1, c2, cond_false]; rfl
 have e7 : X45 p.1.Time w.Size = some 0 := by
  simp only [X45, c1, c2, cond_false, b1, b2]
 have e8 : X99 1 = some 1 := by decide +kernel
 rw [X2n c.sorted (Xk4 hw hL.init c) (by omega), Yo]
 simp only [bne_self_eq_false, cond_false, X0c hw, Yo, e1, e2]
 rw [e3, Yo, e4, Yo]
 simp only [e5, cond_true, e6, e7, e8, Yo, bne_self_eq_false, cond_false]
 have hg : X2o [X13.mk p.1.Time (IntKind.i64.wrap (p.1.Time + w.Size))] 0 = some ⟨p.1.Time, p.1.Time + w.Size⟩ := by
  rw [X18 (by omega) (by omega)]; rfl
 rw [hg, Yo]
 have hent : (⟨(X7x p ⟨0, 0⟩).Key, ⟨p.1.Time, p.1.Time + w.Size⟩, (X7x p ⟨0, 0⟩).Values⟩ : Xb) = X7x p ⟨p.1.Time, p.1.Time + w.Size⟩ := rfl
 rw [hent, h1, Yo, Yo]
 have e9 : decide ((es'.length : Int) > 4000) = false := by simp; omega
 simp only [bne_self_eq_false, cond_false, e9]
theorem Xao {w : X0x} {L : List Pu} {p : Pu} {es : List Xb} (hw : okW w) (hL : Xu4 w (L ++ [p])) (c : X95 w L es) (hn : es.length <= 3900) :
  ∃ es', X8u es w p.1 p.2 = some (es', 0) /\ X95 w (L ++ [p]) es' /\ es'.length <= es.length + 16 := by
 by_cases hk : w.Kind = 3
 ·obtain ⟨es', h1, h2, h3⟩ := Xm2 hw hk hL c hn
  exact ⟨es', h1, h2, by omega⟩
 ·exact Xit hw hk hL c hn
theorem Xwl {w : X0x} (hw : 1 <= w.Size) : X95 w [] [] := by
 refine ⟨List.Pairwise.nil, fun e => ?_, fun _ k t ht => ?_⟩
 ·simp only [List.not_mem_nil, false_iff]
  rintro ⟨h, _⟩
  unfold Xfc at h
  split at h
  ·obtain ⟨h1, h2, _⟩ := h
   obtain ⟨t, ht, _⟩ := h2 (2 * e.Span.Start + 1) (by omega) (by omega)
   obtain ⟨p, hp, _⟩ := ht
   cases hp
  ·obtain ⟨t, ⟨p, hp, _⟩, _⟩ := h
   cases hp
 ·obtain ⟨p, hp, _⟩ := ht
  cases hp
end Go.D


namespace Go.D
structure RQ (q : Xp) : Prop where
 w : QW q
 ok : (Xx0 q).2 = 0
theorem RQ.cz {q : Xp} (h : RQ q) : Xqu q = 0 := by
 have := h.ok
 unfold Xx0 at this
 split at this
 ·rename_i h1; exact absurd this h1
 ·rename_i h1; omega
theorem RQ.facts {q : Xp} (h : RQ q) : (1 <= q.Agg /\ q.Agg <= 4 /\ (q.Late = 1 \/ q.Late = 2)) /\ (q.Agg ≠ 1 -> Xb7 q.Arg = 0) /\ (0 < q.Where.length -> Xb7 q.Where = 0) /\ X6i q.Sources q.Join = 0 /\ okW q.Window /\ (q.Join = true -> q.Window.Kind = 1) := by
 have hc := h.cz
 unfold Xqu at hc
 split at hc
 ·cases hc
 ·rename_i h1
  split at hc
  ·cases hc
  ·split at hc
   ·rename_i h2; exact absurd hc h2.2
   ·rename_i h2
    split at hc
    ·rename_i h3; exact absurd hc h3.2
    ·rename_i h3
     split at hc
     ·rename_i h4; exact absurd hc h4
     ·rename_i h4
      split at hc
      ·cases hc
      ·rename_i h5
       split at hc
       ·rename_i h6
        refine ⟨by omega, fun ha => ?_, fun hw => ?_, by omega, h6, fun hj => ?_⟩
        ·by_cases hz : Xb7 q.Arg = 0
         ·exact hz
         ·exact absurd ⟨ha, hz⟩ h2
        ·by_cases hz : Xb7 q.Where = 0
         ·exact hz
         ·exact absurd ⟨hw, hz⟩ h3
        ·by_cases hk : q.Window.Kind = 1
         ·exact hk
         ·exact absurd ⟨hj, hk⟩ h5
       ·cases hc
theorem RQ.rts {q : Xp} (h : RQ q) : (0 < q.Arg.length -> (X31 q.Arg false).2 = 0) /\ (0 < q.Where.length -> (X31 q.Where true).2 = 0) := by
 have h0 := h.ok
 unfold Xx0 at h0
 rw [if_neg (by have := h.cz; omega)] at h0
 unfold rt at h0
 split at h0
 ·rename_i h1; exact absurd h0 h1.2
 ·rename_i h1
  split at h0
  ·rename_i h2; exact absurd h0 h2.2
  ·rename_i h2
   refine ⟨fun ha => ?_, fun hw => ?_⟩
   ·by_cases hz : (X31 q.Arg false).2 = 0
    ·exact hz
    ·exact absurd ⟨ha, hz⟩ h1
   ·by_cases hz : (X31 q.Where true).2 = 0
    ·exact hz
    ·exact absurd ⟨hw, hz⟩ h2
theorem RQ.wher {q : Xp} (h : RQ q) (hw : 0 < q.Where.length) (r : Xj) : X68 q.Where r = some (evV q.Where r, 0) := X4n h.w.wher (Xrk (h.rts.2 hw)) r
theorem RQ.arg {q : Xp} (h : RQ q) (ha : q.Agg ≠ 1) (r : Xj) : X68 q.Arg r = some (evV q.Arg r, 0) := by
 have h1 := (Xa8 (h.facts.2.1 ha)).2.1
 exact X4n h.w.arg (Xrk (h.rts.1 (by omega))) r
theorem RQ.src {q : Xp} (h : RQ q) : 1 <= q.Sources.length /\ q.Sources.length <= 4 /\ (q.Join = true -> q.Sources.length = 2) := by
 have hs := h.facts.2.2.2.1
 unfold X6i at hs
 split at hs
 ·cases hs
 ·split at hs
  ·cases hs
  ·rename_i h1 h2
   unfold Xr7 at h2
   have h2 : ((q.Sources.length == 0 || (q.Join && q.Sources.length != 2)) || q.Sources.any fun x => decide (x < 0) || decide (x > 3)) = false := by simpa using h2
   rw [Bool.or_eq_false_iff, Bool.or_eq_false_iff] at h2
   have a1 : q.Sources.length ≠ 0 := by simpa using h2.1.1
   refine ⟨by omega, by omega, fun hj => ?_⟩
   have := h2.1.2
   rw [hj] at this
   simpa using this
def Xaf (q : Xp) (r : Xj) : Bool := if 0 < q.Where.length then decide (evV q.Where r ≠ 0) else true
def Xpf (q : Xp) (r : Xj) : Xj := ⟨if q.ByKey then r.Key else 0, r.Time, if q.Agg = 1 then 0 else evV q.Arg r⟩
theorem Xgl {q : Xp} (h : RQ q) (r : Xj) : X6j q r = some (if Xaf q r then (Xpf q r, true) else (⟨0, 0, 0⟩, false)) := by
 have body : ((bif q.ByKey then (some (Xj.mk r.Key r.Time 0)) else (some (Xj.mk 0 r.Time 0)) : Option (Xj)).bind fun Xmj => (bif (q.Agg != (1 : Int)) then ((X68 q.Arg r).bind fun v14 => some (Xj.mk Xmj.Key Xmj.Time v14.1)) else (some Xmj) : Option (Xj)).bind fun Xlm => some (Xlm, true)) = some (Xpf q r, true) := by
  unfold Xpf
  by_cases ha : q.Agg = 1
  ·rw [show (q.Agg != 1) = false by simp [ha], if_pos ha]; cases q.ByKey <;> rfl
  ·rw [Xi6 ha, if_neg ha, h.arg ha r]; cases q.ByKey <;> rfl
 unfold X6j Xaf
 rw [body]
 by_cases hw : 0 < q.Where.length
 ·rw [Yt (show (q.Where.length : Int) > 0 by omega), cond_true, if_pos hw, h.wher hw r]
  by_cases hv : evV q.Where r = 0
  ·rw [hv]; rfl
  ·simp [hv, show (evV q.Where r == 0) = false by simp [hv]]
 ·rw [Yf (show ¬ (q.Where.length : Int) > 0 by omega), cond_false, if_neg hw]; rfl
def Xrc (q : Xp) (side : Int) (rs : List Xj) : List Pu := (rs.filter (Xaf q)).map fun r => (Xpf q r, side)
theorem Xuu (q : Xp) (side : Int) (r : Xj) (rs : List Xj) : Xrc q side (r :: rs) = (if Xaf q r then [(Xpf q r, side)] else []) ++ Xrc q side rs := by
 unfold Xrc
 rw [List.filter_cons]
 split <;> simp
theorem Xxi (q : Xp) (side : Int) (rs : List Xj) : (Xrc q side rs).length <= rs.length := by unfold Xrc; rw [List.length_map]; exact List.length_filter_le _ _
def X7g (q : Xp) (k : Int) : Int := if q.Join then k else 0
theorem Xpq {q : Xp} (h : RQ q) (late : List Xj) (k0 : Int) (Y : List (List Xi)) (a b : Int) (R : List Xj) (hside : X7g q k0 = 0 \/ X7g q k0 = 1) : ∀ (xs : List Xj) (k : Nat) (L : List Pu) (es : List Xb), X95 q.Window L es -> Xu4 q.Window (L ++ Xrc q (X7g q k0) xs) -> es.length + 16 * xs.length <= 3900 ->
  ∃ es', X39 q late k0 Y a b R xs k es = some (.x0 es' late) /\ X95 q.Window (L ++ Xrc q (X7g q k0) xs) es' /\ es'.length <= es.length + 16 * xs.length
 | [], k, L, es, hc, ho, hn => ⟨es, rfl, by simpa [Xrc] using hc, by simp⟩
 | x :: xs, k, L, es, hc, ho, hn => by
  simp only [List.length_cons] at hn
  rw [X39, Xgl h, Yo]
  rw [Xuu] at ho ⊢
  cases hcx : Xaf q x with
  | false =>
   rw [hcx] at ho
   simp only [Bool.false_eq_true, if_false, List.nil_append] at ho ⊢
   obtain ⟨es', h1, h2, h3⟩ := Xpq h late k0 Y a b R hside xs (k + 1) L es hc ho (by omega)
   exact ⟨es', h1, h2, by simp only [List.length_cons]; omega⟩
  | true =>
   rw [hcx] at ho
   simp only [if_true] at ho ⊢
   rw [<- List.append_assoc] at ho ⊢
   have ho1 : Xu4 q.Window (L ++ [(Xpf q x, X7g q k0)]) := ⟨fun p hp => ho.time p (List.mem_append_left _ hp), fun p hp => ho.side p (List.mem_append_left _ hp), by have := ho.len; rw [List.length_append] at this; omega⟩
   obtain ⟨es1, g1, g2, g3⟩ := Xao h.facts.2.2.2.2.1 ho1 hc (by omega)
   have hs : (bif q.Join then (some k0) else (some 0) : Option Int) = some (X7g q k0) := by unfold X7g; cases q.Join <;> rfl
   rw [hs]
   simp only [Yo, Bool.not_true, cond_false]
   rw [g1]
   obtain ⟨es', h1, h2, h3⟩ := Xpq h late k0 Y a b R hside xs (k + 1) _ es1 g2 ho (by omega)
   exact ⟨es', h1, h2, by simp only [List.length_cons]; omega⟩
def Xca (q : Xp) : Nat -> List (List Xi) -> List Pu
 | _, [] => []
 | k, x :: xs => Xrc q (X7g q (k : Int)) (Xaq x) ++ Xca q (k + 1) xs
def Xpt (l : List (List Xi)) : List Xj := (l.map Xmf).flatten
theorem Xlb (x : List Xi) : (Xaq x).length <= x.length := by
 unfold Xaq; split
 ·exact Xrb _ _ _
 ·simp
theorem Xvc (x : List Xi) : (Xmf x).length <= x.length := by
 unfold Xmf; split
 ·exact Xrb _ _ _
 ·simp
theorem Xv8 {q : Xp} (h : RQ q) (Y : List (List Xi)) : ∀ (xs : List (List Xi)) (k : Nat) (L : List Pu) (es : List Xb) (la : List Xj), (∀ x ∈ xs, chk x = 0 /\ x.length <= 30) -> X95 q.Window L es -> Xu4 q.Window (L ++ Xca q k xs) -> es.length + 480 * xs.length <= 3900 -> la.length + 30 * xs.length <= 10000 -> (∀ j, j < xs.length -> X7g q ((k + j : Nat) : Int) = 0 \/ X7g q ((k + j : Nat) : Int) = 1) ->
  ∃ es', X3a q Y xs k es la = some (.x0 es' (la ++ Xpt xs)) /\ X95 q.Window (L ++ Xca q k xs) es' /\ es'.length <= es.length + 480 * xs.length
 | [], k, L, es, la, _, hc, _, _, _, _ => ⟨es, by simp [X3a, Xpt], by simpa [Xca] using hc, by simp⟩
 | x :: xs, k, L, es, la, hx, hc, ho, hn, hla, hsd => by
  simp only [List.length_cons] at hn hla hsd
  obtain ⟨hx1, hx2⟩ := hx x List.mem_cons_self
  have hr := Xlb x
  have hl := Xvc x
  rw [Xca, <- List.append_assoc] at ho ⊢
  have ho1 : Xu4 q.Window (L ++ Xrc q (X7g q (k : Int)) (Xaq x)) := ⟨fun p hp => ho.time p (List.mem_append_left _ hp), fun p hp => ho.side p (List.mem_append_left _ hp), by have := ho.len; rw [List.length_append] at this; omega⟩
  have hs0 : X7g q (k : Int) = 0 \/ X7g q (k : Int) = 1 := by have := hsd 0 (by omega); simpa using this
  obtain ⟨es1, g1, g2, g3⟩ := Xpq h (la ++ Xmf x) (k : Int) Y (Y.length : Int) (k : Int) (Xaq x) hs0 (Xaq x) 0 L es hc ho1 (by omega)
  obtain ⟨es', h1, h2, h3⟩ := Xv8 h Y xs (k + 1) _ es1 (la ++ Xmf x) (fun y hy => hx y (List.mem_cons_of_mem _ hy)) g2 ho (by omega) (by rw [List.length_append]; omega) (fun j hj => by have := hsd (j + 1) (by omega); rw [show k + (j + 1) = k + 1 + j by omega] at this; exact this)
  refine ⟨es', ?_, h2, by simp only [List.length_cons]; omega⟩
  rw [X3a, Xme, Yo]
  simp only [hx1, bne_self_eq_false, cond_false]
  rw [show la ++ Xpt (x :: xs) = la ++ Xmf x ++ Xpt xs by unfold Xpt; simp, <- h1]
  cases hle : (Xmf x).isEmpty with
  | true =>
   rw [cond_true, X3y (by omega), Yo, g1]; rfl
  | false =>
   rw [cond_false, X5f (by rw [List.length_append]; omega), Yo, X3y (by omega), Yo, g1]; rfl
def valA (agg : Int) (a : X1j) : Int := if agg = 1 then a.Count else if agg = 2 then a.Sum else if agg = 3 then a.Min else a.Max
theorem Xdw {agg : Int} {a : X1j} (h1 : 1 <= agg) (h2 : agg <= 4) (ha : okA a) : X77 agg a = some (if a.Count = 0 then (0, 6) else (valA agg a, 0)) := by
 unfold X77
 rw [Yf (show ¬ agg < 1 by omega), Yf (show ¬ agg > 4 by omega), X0l ha]
 simp only [cond_false, Yo, bne_self_eq_false]
 by_cases hc : a.Count = 0
 ·rw [if_pos hc, hc]; rfl
 ·rw [if_neg hc, show (a.Count == 0) = false by simp [hc]]
  unfold valA
  rcases (by omega : agg = 1 \/ agg = 2 \/ agg = 3 \/ agg = 4) with h | h | h | h <;> subst h <;> rfl
def live (q : Xp) (e : Xb) : Bool := decide (e.Values.e0.Count ≠ 0) && (!q.Join || decide (e.Values.e1.Count ≠ 0))
def rowE (q : Xp) (e : Xb) : X5g := ⟨e.Key, e.Span, ⟨valA q.Agg e.Values.e0, if q.Join then valA q.Agg e.Values.e1 else 0⟩⟩
def Xbl (q : Xp) (es : List Xb) : List X5g := (es.filter (live q)).map (rowE q)
theorem Xku {q : Xp} (h1 : 1 <= q.Agg) (h2 : q.Agg <= 4) {e : Xb} (he : okE e) : Xa9 q e = some (if live q e then (rowE q e, true) else (⟨0, ⟨0, 0⟩, ⟨0, 0⟩⟩, false)) := by
 obtain ⟨_, _, _, a0, a1, _⟩ := he
 unfold Xa9 live rowE
 rw [Xdw h1 h2 a0, Xdw h1 h2 a1]
 simp only [Yo]
 by_cases c0 : e.Values.e0.Count = 0
 ·rw [if_pos c0]; simp [c0]
 ·rw [if_neg c0]
  cases hj : q.Join with
  | false => simp [c0]
  | true =>
   by_cases c1 : e.Values.e1.Count = 0
   ·simp [c1]
   ·simp [c0, c1]
theorem Xpp {q : Xp} (h1 : 1 <= q.Agg) (h2 : q.Agg <= 4) (la : List Xj) (E : List Xb) : ∀ (xs : List Xb) (k : Nat) (rows : List X5g), (∀ e ∈ xs, okE e) -> rows.length + xs.length <= 10000 -> X3n q la E xs k rows = some (.x0 la (rows ++ Xbl q xs))
 | [], k, rows, _, _ => by simp [X3n, Xbl]
 | x :: xs, k, rows, ho, hn => by
  simp only [List.length_cons] at hn
  rw [X3n, Xku h1 h2 (ho x List.mem_cons_self), Yo]
  unfold Xbl
  rw [List.filter_cons]
  cases hl : live q x with
  | false =>
   simp only [Bool.false_eq_true, if_false, cond_false, Yo]
   exact Xpp h1 h2 la E xs (k + 1) rows (fun e he => ho e (List.mem_cons_of_mem _ he)) (by omega)
  | true =>
   simp only [if_true, cond_true]
   rw [X5f (by rw [List.length_append, List.length_singleton]; omega)]
   simp only [Yo]
   rw [Xpp h1 h2 la E xs (k + 1) _ (fun e he => ho e (List.mem_cons_of_mem _ he)) (by rw [List.length_append, List.length_singleton]; omega)]
   simp [Xbl]
structure RI (q : Xp) (l : List (List Xi)) : Prop where
 rq : RQ q
 len : l.length = q.Sources.length
 ev : ∀ x ∈ l, chk x = 0 /\ x.length <= 30
theorem Xo2 {late : Bool} : ∀ (l : List Xi) (m : Int), (∀ x ∈ l, Xsb x = true) -> ∀ r ∈ Xk9 late m l, okT r.Time
 | [], _, _, r, hr => by simp [Xk9] at hr
 | x :: l, m, h, r, hr => by
  have ih := Xo2 (late := late) l (Xgk m x) (fun y hy => h y (List.mem_cons_of_mem _ hy)) r
  unfold Xk9 at hr
  split at hr
  ·rename_i hc
   rcases List.mem_cons.1 hr with rfl | hr
   ·have hm : x.Mark = false := by
     cases hm : x.Mark with
     | false => rfl
     | true => simp [hm] at hc
    have := h x List.mem_cons_self
    unfold Xsb Xdm at this
    rw [hm] at this
    simp at this
    exact ⟨this.2.1, this.2.2⟩
   ·exact ih hr
  ·exact ih hr
theorem Xj2 {q : Xp} : ∀ (l : List (List Xi)) (k : Nat) (p : Pu), p ∈ Xca q k l -> ∃ j x r, l[j]? = some x /\ r ∈ Xaq x /\ Xaf q r = true /\ p = (Xpf q r, X7g q ((k + j : Nat) : Int))
 | [], k, p, h => by simp [Xca] at h
 | x :: l, k, p, h => by
  rw [Xca] at h
  rcases List.mem_append.1 h with h | h
  ·unfold Xrc at h
   obtain ⟨r, hr, rfl⟩ := List.mem_map.1 h
   rw [List.mem_filter] at hr
   exact ⟨0, x, r, rfl, hr.1, hr.2, rfl⟩
  ·obtain ⟨j, y, r, h1, h2, h3, h4⟩ := Xj2 l (k + 1) p h
   exact ⟨j + 1, y, r, by simpa using h1, h2, h3, by rw [show k + (j + 1) = k + 1 + j by omega]; exact h4⟩
theorem Xo5 {q : Xp} : ∀ (l : List (List Xi)) (k : Nat), (∀ x ∈ l, x.length <= 30) -> (Xca q k l).length <= 30 * l.length
 | [], k, _ => by simp [Xca]
 | x :: l, k, h => by
  rw [Xca, List.length_append, List.length_cons]
  have h1 := Xxi q (X7g q (k : Int)) (Xaq x)
  have h2 := Xlb x
  have h3 := h x List.mem_cons_self
  have h4 := Xo5 (q := q) l (k + 1) fun y hy => h y (List.mem_cons_of_mem _ hy)
  omega
theorem RI.ok {q : Xp} {l : List (List Xi)} (h : RI q l) : Xu4 q.Window (Xca q 0 l) := by
 have hs := h.rq.src
 refine ⟨fun p hp => ?_, fun p hp => ?_, ?_⟩
 ·obtain ⟨j, x, r, h1, h2, h3, rfl⟩ := Xj2 l 0 p hp
  have hx := h.ev x (Yg h1)
  unfold Xaq at h2
  rw [if_pos hx.1] at h2
  exact Xo2 x Xhg (Xwj.1 hx.1).2 r h2
 ·obtain ⟨j, x, r, h1, h2, h3, rfl⟩ := Xj2 l 0 p hp
  have := (Ys.1 h1).1
  show X7g q _ = 0 \/ X7g q _ = 1
  unfold X7g
  split
  ·rename_i hj; have := hs.2.2 hj; have := h.len; omega
  ·exact .inl rfl
 ·have := Xo5 (q := q) l 0 fun x hx => (h.ev x hx).2
  have := h.len
  omega
theorem Xes {q : Xp} {l : List (List Xi)} (h : RI q l) : ∃ es, X95 q.Window (Xca q 0 l) es /\ es.length <= 3900 /\ X6x q l = some (Xbl q es, if q.Late = 2 then Xpt l else [], 0) := by
 have hs := h.rq.src
 have hf := h.rq.facts
 have hlen := h.len
 have hok := h.ok
 obtain ⟨es, h1, h2, h3⟩ := Xv8 h.rq l l 0 [] [] [] h.ev (Xwl hf.2.2.2.2.1.1) (by simpa using hok) (by simp; omega) (by simp; omega) (fun j hj => by
  unfold X7g
  split
  ·rename_i hj2; have := hs.2.2 hj2; omega
  ·exact .inl rfl)
 simp only [List.nil_append, List.length_nil, Nat.zero_add] at h1 h2 h3
 refine ⟨es, h2, by omega, ?_⟩
 unfold X6x
 rw [Xk1 h.rq.w, Yo]
 rw [h.rq.ok]
 simp only [bne_self_eq_false, cond_false]
 rw [show ((l.length : Int) != (q.Sources.length : Int)) = false by rw [hlen]; simp, cond_false, Xbp (by omega), Xez.2 fun x hx => (h.ev x hx).1]
 simp only [Yo, bne_self_eq_false, cond_false]
 rw [X3y (by omega), Yo, h1, Yo]
 simp only
 rw [X3y (by omega), Yo, Xpp hf.1.1 hf.1.2.1 _ _ es 0 [] (Xk4 hf.2.2.2.2.1 hok h2) (by simp; omega)]
 simp only [Yo, List.nil_append]
 by_cases hL : q.Late = 2
 ·rw [hL]; rfl
 ·rw [Xi6 hL, if_neg hL]; rfl
end Go.D


namespace Go.D
theorem Xqn (x y : X5g) : Xna x y = decide (x = y) := by
 obtain ⟨a, ⟨b, c⟩, ⟨d, e⟩⟩ := x
 obtain ⟨a', ⟨b', c'⟩, ⟨d', e'⟩⟩ := y
 rw [Bool.eq_iff_iff]
 simp [Xna, Xov, Xou, and_assoc]
theorem Xuo (a : List X5g) : ∀ (xs : List X5g) (k : Nat), a.drop k = xs -> X4z a a xs k = some .x0
 | [], k, _ => rfl
 | x :: xs, k, h => by
  have hk : a[k]? = some x := by
   have : (a.drop k)[0]? = some x := by rw [h]; rfl
   simpa using this
  have hd : a.drop (k + 1) = xs := by
   have : (a.drop k).drop 1 = xs := by rw [h]; rfl
   rw [List.drop_drop] at this; exact this
  rw [X4z, X6c, hk, Yo, Xqn]
  simp only [decide_true, Bool.not_true, cond_false]
  exact Xuo a xs (k + 1) hd
theorem Xun {a : List X5g} (h : a.length <= 10000) : X71 a a = some true := by
 unfold X71
 rw [show ((a.length : Int) != (a.length : Int)) = false by simp, cond_false, X3y (by omega), Yo, Xuo a a 0 rfl]; rfl
def Xcy : Int -> List (List Xi) -> Int
 | m, [] => m
 | m, x :: xs => Xcy (if Xob Xhg x < m then Xob Xhg x else m) xs
theorem Xrj (Y : List (List Xi)) : ∀ (xs : List (List Xi)) (k : Nat) (m : Int), (∀ x ∈ xs, chk x = 0) -> X3j Y xs k m = some (.x0 (Xcy m xs))
 | [], k, m, _ => rfl
 | x :: xs, k, m, h => by
  rw [X3j, Xof, if_pos (h x List.mem_cons_self), Yo, Xcy]
  exact Xrj Y xs (k + 1) _ fun y hy => h y (List.mem_cons_of_mem _ hy)
theorem Xhx {l : List (List Xi)} (h1 : 1 <= l.length) (h4 : l.length <= 4) (h : ∀ x ∈ l, chk x = 0) : X7k l = some (Xcy Xkz l, 0) := by
 unfold X7k
 rw [Yf (show ¬ (l.length : Int) < 1 by omega), Yf (show ¬ (l.length : Int) > 4 by omega), Xbp (by omega), Xez.2 h]
 simp only [cond_false, Yo, bne_self_eq_false]
 rw [X3y (by omega), Yo, show (9223372036854775807 : Int) = Xkz from rfl, Xrj l l 0 Xkz h]; rfl
def Xz9 (m : Int) (rows : List X5g) : List X5g := rows.filter fun r => decide (r.Span.End <= m)
theorem Xh1 (a : List Xj) (m : Int) (Y : List X5g) : ∀ (xs : List X5g) (k : Nat) (o : List X5g), o.length + xs.length <= 10000 -> X27 a m Y xs k o = some (.x0 (o ++ Xz9 m xs))
 | [], k, o, _ => by simp [X27, Xz9]
 | x :: xs, k, o, hn => by
  simp only [List.length_cons] at hn
  rw [X27]
  unfold Xz9
  rw [List.filter_cons]
  by_cases h : x.Span.End <= m
  ·rw [Yt h, cond_true, X5f (by rw [List.length_append, List.length_singleton]; omega)]
   simp only [Yo, if_true]
   rw [Xh1 a m Y xs (k + 1) _ (by rw [List.length_append, List.length_singleton]; omega)]
   simp [Xz9]
  ·rw [Yf h, cond_false]
   simp only [Yo, Bool.false_eq_true, if_false]
   exact Xh1 a m Y xs (k + 1) o (by omega)
theorem Xla (q : Xp) (es : List Xb) : (Xbl q es).length <= es.length := by
 unfold Xbl; rw [List.length_map]; exact List.length_filter_le _ _
def Xz1 (q : Xp) (l : List (List Xi)) : List Xj := if q.Late = 2 then Xpt l else []
theorem Xat {q : Xp} {l : List (List Xi)} (h : RI q l) {es : List Xb} (hc : X95 q.Window (Xca q 0 l) es) : X6x q l = some (Xbl q es, Xz1 q l, 0) /\ es.length <= 3900 /\ X3x q l = some (Xz9 (Xcy Xkz l) (Xbl q es), Xz1 q l, 0) := by
 obtain ⟨es', h1, h2, h3⟩ := Xes h
 have := hc.unique h1
 subst this
 have hs := h.rq.src
 have hlen := h.len
 have hr := Xla q es
 refine ⟨h3, h2, ?_⟩
 unfold X3x
 rw [h3, Yo]
 simp only [bne_self_eq_false, cond_false]
 rw [Xhx (by omega) (by omega) fun x hx => (h.ev x hx).1, Yo]
 simp only [bne_self_eq_false, cond_false]
 rw [X3y (by omega), Yo, Xh1 _ _ _ _ _ _ (by simp; omega)]; rfl
theorem Xy7 (l : List (List Xi)) : ∀ (m n i : Nat), m = 7 - i -> i <= 7 -> m < n -> ∃ o, X4i l n (i : Int) = some o /\ (o = .x1 -> ∀ j x, i <= j -> j < 7 -> l[j]? = some x -> x.length <= 20 \/ x.length = 61) := by
 intro m
 induction m with
 | zero =>
  intro n i hm hi hn
  cases n with
  | zero => omega
  | succ n =>
   have : i = 7 := by omega
   subst this
   refine ⟨.x1, ?_, fun _ j x h1 h2 => by omega⟩
   rw [X4i]
   cases decide (((7 : Nat) : Int) < (l.length : Int)) <;> rfl
 | succ m ih =>
  intro n i hm hi hn
  cases n with
  | zero => omega
  | succ n =>
   rw [X4i]
   by_cases hl : i < l.length
   ·rw [Yt (show (i : Int) < (l.length : Int) by omega), cond_true, Yt (show (i : Int) < 7 by omega), cond_true]
    have hg : X2o l (i : Int) = some (l[i]'hl) := by rw [X6c]; exact Ye _
    rw [hg, Yo, X18 (by omega) (by omega)]
    obtain ⟨o, h1, h2⟩ := ih n (i + 1) (by omega) (by omega) (by omega)
    rw [show ((i + 1 : Nat) : Int) = (i : Int) + 1 by omega] at h1
    by_cases hgt : (l[i]'hl).length > 20 /\ (l[i]'hl).length ≠ 61
    ·rw [Yt (show ((l[i]'hl).length : Int) > 20 by omega), Xi6 (show ¬ ((l[i]'hl).length : Int) = 61 by omega)]
     exact ⟨.x0, rfl, fun h => by cases h⟩
    ·have e : (bif (decide (((l[i]'hl).length : Int) > (20 : Int))) then (some (bif (decide (((l[i]'hl).length : Int) > (20 : Int))) then (((l[i]'hl).length : Int) != (61 : Int)) else false)) else (some (bif (decide (((l[i]'hl).length : Int) > (20 : Int))) then false else false)) : Option (Bool)) = some false := by
      by_cases h20 : (l[i]'hl).length > 20
      ·rw [Yt (show ((l[i]'hl).length : Int) > 20 by omega), show (l[i]'hl).length = 61 by omega]; rfl
      ·rw [Yf (show ¬ ((l[i]'hl).length : Int) > 20 by omega)]; rfl
     rw [e, Yo, cond_false]
     refine ⟨o, h1, fun ho j x hj1 hj2 hj3 => ?_⟩
     by_cases hji : j = i
     ·subst hji
      rw [Ye hl] at hj3
      cases hj3; omega
     ·exact h2 ho j x (by omega) hj2 hj3
   ·rw [Yf (show ¬ (i : Int) < (l.length : Int) by omega)]
    refine ⟨.x1, rfl, fun _ j x h1 h2 h3 => ?_⟩
    have := (Ys.1 h3).1
    omega
theorem Xkf (l : List (List Xi)) : ∃ b, X9w l = some b /\ (b = false -> l.length <= 6 /\ ∀ x ∈ l, x.length <= 20 \/ x.length = 61) := by
 unfold X9w
 obtain ⟨o, h1, h2⟩ := Xy7 l 7 FU 0 rfl (by omega) (by unfold FU; omega)
 rw [show ((0 : Nat) : Int) = 0 from rfl] at h1
 rw [h1, Yo]
 cases o with
 | x0 => exact ⟨true, rfl, fun h => by cases h⟩
 | x1 =>
  refine ⟨_, rfl, fun hb => ?_⟩
  have hb := of_decide_eq_false hb
  refine ⟨by omega, fun x hx => ?_⟩
  obtain ⟨j, hj, e⟩ := List.getElem_of_mem hx
  exact h2 rfl j x (Nat.zero_le _) (by omega) (by rw [Ye hj, e])
theorem Xkn (q : Xp) : ∃ b, Xa1 q = some b := by
 unfold Xa1 Xa3
 simp only [Yo]
 cases decide ((q.Arg.length : Int) > 70) <;> cases decide ((q.Where.length : Int) > 70) <;> exact ⟨_, rfl⟩
theorem Xod {q : Xp} (hq : QW q) (l : List (List Xi)) : ∃ b, Xdh q l = some b /\ (b = true -> RI q l /\ ∀ x ∈ l, x.length <= 20) := by
 unfold Xdh
 obtain ⟨g, hg⟩ := Xkn q
 rw [hg, Yo]
 cases g with
 | true => exact ⟨false, rfl, fun h => by cases h⟩
 | false =>
  obtain ⟨b, hb, hb2⟩ := Xkf l
  rw [Bool.not_false, cond_true, hb, Yo]
  cases b with
  | true => exact ⟨false, rfl, fun h => by cases h⟩
  | false =>
   obtain ⟨hl, hx⟩ := hb2 rfl
   unfold Xc5
   rw [Xkm hq]
   simp only [Bool.not_false, cond_true, Yo]
   by_cases hz : (Xx0 q).2 = 0
   ·rw [hz]
    simp only [bne_self_eq_false, cond_false]
    by_cases hlen : l.length = q.Sources.length
    ·rw [show ((l.length : Int) != (q.Sources.length : Int)) = false by rw [hlen]; simp, cond_false, Xke (by omega)]
     simp only [Yo]
     by_cases hw : Xcs l = 0
     ·refine ⟨true, by rw [hw]; rfl, fun _ => ?_⟩
      have hev := Xez.1 hw
      have h20 : ∀ x ∈ l, x.length <= 20 := fun x hxm => by
       have := Xqt (hev x hxm)
       have := hx x hxm
       omega
      exact ⟨⟨⟨hq, hz⟩, hlen, fun x hxm => ⟨hev x hxm, by have := h20 x hxm; omega⟩⟩, h20⟩
     ·exact ⟨false, by rw [show (Xcs l == 0) = false by simp [hw]], fun h => by cases h⟩
    ·rw [show ((l.length : Int) != (q.Sources.length : Int)) = true by simp; omega]
     exact ⟨false, rfl, fun h => by cases h⟩
   ·rw [Xi6 hz]
    simp only [cond_true, Yo]
    exact ⟨false, by rw [show ((Xx0 q).2 == 0) = false by simp [hz]], fun h => by cases h⟩
end Go.D


namespace Go.D
set_option maxRecDepth 100000 in
theorem Xtz : Xch = some true := by decide +kernel
theorem Xj1 (late : Bool) (p : Xj -> Bool) : ∀ (l : List Xi) (m : Int), Xk9 late m (l.filter fun x => x.Mark || p x.Record) = (Xk9 late m l).filter p
 | [], m => rfl
 | x :: l, m => by
  have ih := Xj1 late p l
  rw [List.filter_cons]
  cases hm : x.Mark with
  | true =>
   simp only [Bool.true_or, if_true]
   rw [Xk9, Xk9, hm]
   simp only [Bool.not_true, Bool.false_and, Bool.false_eq_true, if_false]
   exact ih _
  | false =>
   have hs : Xgk m x = m := by unfold Xgk; rw [hm]; rfl
   simp only [Bool.false_or]
   cases hp : p x.Record with
   | true =>
    simp only [if_true]
    rw [Xk9, Xk9, hm, hs]
    split
    ·rw [List.filter_cons, hp, if_pos rfl, ih]
    ·exact ih _
   | false =>
    simp only [Bool.false_eq_true, if_false]
    rw [Xk9, hs]
    split
    ·rw [List.filter_cons, hp]; simp only [Bool.false_eq_true, if_false]; exact ih _
    ·exact ih _
theorem Xhf (p : Xj -> Bool) : ∀ (l : List Xi) (m : Int), Xob m (l.filter fun x => x.Mark || p x.Record) = Xob m l
 | [], m => rfl
 | x :: l, m => by
  have ih := Xhf p l
  unfold Xob at ih ⊢
  rw [List.filter_cons]
  cases hm : x.Mark with
  | true => simp only [Bool.true_or, if_true, List.foldl_cons]; exact ih _
  | false =>
   have hs : Xgk m x = m := by unfold Xgk; rw [hm]; rfl
   simp only [Bool.false_or, List.foldl_cons, hs]
   split
   ·rw [List.foldl_cons, hs]; exact ih _
   ·exact ih _
theorem Xlp {l : List Xi} (h : chk l = 0) (p : Xi -> Bool) : chk (l.filter p) = 0 := by
 obtain ⟨h1, h2⟩ := Xwj.1 h
 exact Xwj.2 ⟨Nat.le_trans (List.length_filter_le _ _) h1, fun x hx => h2 x (List.mem_filter.1 hx).1⟩
theorem Xm5 {l : List Xi} (h : chk l = 0) (p : Xj -> Bool) : Xaq (l.filter fun x => x.Mark || p x.Record) = (Xaq l).filter p := by
 unfold Xaq
 rw [if_pos h, if_pos (Xlp h _), Xj1]
theorem Xfq (p : Xj -> Bool) : ∀ (l : List (List Xi)) (m : Int), Xcy m (l.map fun x => x.filter fun e => e.Mark || p e.Record) = Xcy m l
 | [], _ => rfl
 | x :: l, m => by
  rw [List.map_cons, Xcy, Xcy, Xhf]
  exact Xfq p l _
theorem RI.filter {q : Xp} {l : List (List Xi)} (h : RI q l) (p : Xi -> Bool) : RI q (l.map fun x => x.filter p) := by
 refine ⟨h.rq, by rw [List.length_map]; exact h.len, fun x hx => ?_⟩
 obtain ⟨y, hy, rfl⟩ := List.mem_map.1 hx
 have := h.ev y hy
 exact ⟨Xlp this.1 p, Nat.le_trans (List.length_filter_le _ _) this.2⟩
theorem X16 {α : Type} {l : List α} {k : Nat} (h : k < l.length) : l.drop k = l[k] :: l.drop (k + 1) := List.drop_eq_getElem_cons h
theorem Xx9 {q : Xp} (hq : RQ q) (hw : 0 < q.Where.length) (l : List (List Xi)) (i : Nat) (x : List Xi) (hi : l[i]? = some x) (hx : x.length <= 30) (v : Bool) (q' : Xp) (o2 : List (List Xi)) : ∀ (m n k : Nat) (acc : List Xi), m = x.length - k -> m < n -> acc.length + (x.length - k) <= 30 ->
  X1q l q v q' o2 (i : Int) n acc (k : Int) = some (.x0 o2 (acc ++ (x.drop k).filter fun e => e.Mark || decide (evV q.Where e.Record ≠ 0))) := by
 intro m
 induction m with
 | zero =>
  intro n k acc hm hn ha
  cases n with
  | zero => omega
  | succ n =>
   rw [X1q, X6c, hi, Yo, Yf (show ¬ (k : Int) < (x.length : Int) by omega), cond_false, List.drop_eq_nil_of_le (by omega)]; simp
 | succ m ih =>
  intro n k acc hm hn ha
  cases n with
  | zero => omega
  | succ n =>
   rw [X1q, X6c, hi, Yo, Yt (show (k : Int) < (x.length : Int) by omega), cond_true]
   have hk : k < x.length := by omega
   rw [show X2o x (k : Int) = some (x[k]'hk) by rw [X6c]; exact Ye _, Yo, hq.wher hw, Yo, X18 (by omega) (by omega), show (k : Int) + 1 = ((k + 1 : Nat) : Int) by omega, X16 hk, List.filter_cons]
   cases hm2 : x[k].Mark with
   | true =>
    simp only [Bool.not_true, cond_false, Bool.true_or, if_true]
    rw [X5f (by rw [List.length_append, List.length_singleton]; omega), Yo, ih n (k + 1) _ (by omega) (by omega) (by rw [List.length_append, List.length_singleton]; omega)]
    simp
   | false =>
    by_cases hv : evV q.Where x[k].Record = 0
    ·simp only [hv, Bool.not_false, cond_true, bne_self_eq_false, cond_false, Bool.false_or, beq_self_eq_true, ne_eq, not_true, decide_false, Bool.false_eq_true, if_false]
     exact ih n (k + 1) acc (by omega) (by omega) (by omega)
    ·simp only [Bool.not_false, cond_true, bne_self_eq_false, cond_false, Bool.false_or, show (evV q.Where x[k].Record == 0) = false by simp [hv], ne_eq, hv, not_false_eq_true, decide_true, if_true]
     rw [X5f (by rw [List.length_append, List.length_singleton]; omega), Yo, ih n (k + 1) _ (by omega) (by omega) (by rw [List.length_append, List.length_singleton]; omega)]
     simp
theorem Xr4 {q : Xp} (hq : RQ q) (hw : 0 < q.Where.length) (l : List (List Xi)) (hx : ∀ x ∈ l, x.length <= 30) (hl : l.length <= 10) (v : Bool) (q' : Xp) : ∀ (xs : List (List Xi)) (k : Nat) (o2 : List (List Xi)), l.drop k = xs -> o2.length + xs.length <= 10 ->
  X1r l q v q' xs k o2 = some (.x0 (o2 ++ xs.map fun x => x.filter fun e => e.Mark || decide (evV q.Where e.Record ≠ 0)))
 | [], k, o2, _, _ => by simp [X1r]
 | x :: xs, k, o2, h, hn => by
  simp only [List.length_cons] at hn
  have hk : l[k]? = some x := by
   have : (l.drop k)[0]? = some x := by rw [h]; rfl
   simpa using this
  have hd : l.drop (k + 1) = xs := by
   have : (l.drop k).drop 1 = xs := by rw [h]; rfl
   rw [List.drop_drop] at this; exact this
  have hxl := hx x (Yg hk)
  have h1 := Xx9 hq hw l k x hk hxl v q' o2 (x.length - 0) FU 0 [] rfl (by unfold FU; omega) (by simp; omega)
  rw [show ((0 : Nat) : Int) = 0 from rfl] at h1
  rw [X1r, h1, Yo]
  simp only [List.drop_zero, List.nil_append]
  rw [X5f (by rw [List.length_append, List.length_singleton]; omega), Yo, Xr4 hq hw l hx hl v q' xs (k + 1) _ hd (by rw [List.length_append, List.length_singleton]; omega)]
  simp
def Xh5 (q : Xp) : Xp := Xp.mk q.Agg q.Arg q.Sources q.Join ([] : List X00) q.Window q.ByKey q.Late
theorem RQ.agg1 {q : Xp} (h : RQ q) : q.Agg = 1 -> q.Arg.length = 0 := by
 have hc := h.cz
 intro ha
 unfold Xqu at hc
 split at hc
 ·cases hc
 ·split at hc
  ·cases hc
  ·rename_i h2
   by_cases hz : q.Arg.length = 0
   ·exact hz
   ·exact absurd ⟨ha, by omega⟩ h2
theorem RQ.lens {q : Xp} (h : RQ q) : q.Arg.length <= 60 /\ q.Where.length <= 60 := by
 constructor
 ·by_cases ha : q.Agg = 1
  ·have := h.agg1 ha; omega
  ·exact (Xa8 (h.facts.2.1 ha)).1
 ·by_cases hw : 0 < q.Where.length
  ·exact (Xa8 (h.facts.2.2.1 hw)).1
  ·omega
theorem RQ.bare {q : Xp} (h : RQ q) : RQ (Xh5 q) := by
 have hf := h.facts
 have ha := h.agg1
 have hw : QW (Xh5 q) := ⟨h.w.arg, fun x hx => (by cases hx), h.w.ev⟩
 refine ⟨hw, ?_⟩
 have hc : Xqu (Xh5 q) = 0 := by
  unfold Xqu
  show (if q.Agg < 1 \/ q.Agg > 4 \/ (q.Late ≠ 1 /\ q.Late ≠ 2) then (8 : Int) else if q.Agg = 1 /\ 0 < q.Arg.length then 8 else if q.Agg ≠ 1 /\ Xb7 q.Arg ≠ 0 then Xb7 q.Arg else if 0 < ([] : List X00).length /\ Xb7 [] ≠ 0 then Xb7 [] else if X6i q.Sources q.Join ≠ 0 then X6i q.Sources q.Join else if q.Join = true /\ q.Window.Kind ≠ 1 then 8 else if okW q.Window then 0 else 8) = 0
  rw [if_neg (by omega), if_neg (fun h => by have := ha h.1; omega), if_neg (fun h => h.2 (hf.2.1 h.1)), if_neg (fun h => by simp at h), if_neg (fun h => h hf.2.2.2.1), if_neg (fun h => h.2 (hf.2.2.2.2.2 h.1)), if_pos hf.2.2.2.2.1]
 have hr : rt (Xh5 q) = (0, 0) := by
  unfold rt
  rw [if_neg (fun h2 => h2.2 (h.rts.1 h2.1)), if_neg (fun h => by have := h.1; simp [Xh5] at this)]
 unfold Xx0
 rw [if_neg (by omega), hr]
theorem Xzi {q : Xp} (h : RQ q) : Xbm q = some q := by
 have h1 := h.lens
 have h2 := h.src
 unfold Xbm
 rw [X5f (by omega), X5f (by omega), X5f (by omega)]
 cases q.Arg.isEmpty <;> cases q.Where.isEmpty <;> cases q.Sources.isEmpty <;> rfl
theorem Xuv {q : Xp} (hw : 0 < q.Where.length) (side : Int) (rs : List Xj) : Xrc (Xh5 q) side (rs.filter fun r => decide (evV q.Where r ≠ 0)) = Xrc q side rs := by
 unfold Xrc
 have e1 : ∀ r, Xaf (Xh5 q) r = true := fun r => by unfold Xaf; rw [if_neg (by simp [Xh5])]
 have e2 : Xaf q = fun r => decide (evV q.Where r ≠ 0) := by funext r; unfold Xaf; rw [if_pos hw]
 rw [e2, List.filter_eq_self.2 fun r _ => e1 r]; rfl
theorem Xld {q : Xp} (hw : 0 < q.Where.length) : ∀ (l : List (List Xi)) (k : Nat), (∀ x ∈ l, chk x = 0) -> Xca (Xh5 q) k (l.map fun x => x.filter fun e => e.Mark || decide (evV q.Where e.Record ≠ 0)) = Xca q k l
 | [], _, _ => rfl
 | x :: l, k, h => by
  rw [List.map_cons, Xca, Xca, Xm5 (h x List.mem_cons_self) fun r => decide (evV q.Where r ≠ 0), Xuv hw, Xld hw l (k + 1) fun y hy => h y (List.mem_cons_of_mem _ hy)]; rfl
theorem Xs2 {q : Xp} (hq : QW q) (l : List (List Xi)) : X46 q l = some true := by
 unfold X46
 obtain ⟨b, hb, hR⟩ := Xod hq l
 rw [Xtz, Yo, hb, Yo]
 cases b with
 | false => rfl
 | true =>
  obtain ⟨hri, _⟩ := hR rfl
  by_cases hw : 0 < q.Where.length
  ·simp only [Bool.not_true, cond_false, cond_true, Yo]
   rw [lz hw]
   simp only [cond_false, Yo]
   have hs := hri.rq.src
   have hlen := hri.len
   rw [Xzi hri.rq, Yo, X3y (by omega), Yo, Xr4 hri.rq hw l (fun x hx => (hri.ev x hx).2) (by omega) _ _ l 0 [] rfl (by simp; omega)]
   simp only [Yo, List.nil_append]
   obtain ⟨es, hc, _, _⟩ := Xes hri
   obtain ⟨_, hn, he⟩ := Xat hri hc
   have hri2 : RI (Xh5 q) (l.map fun x => x.filter fun e => e.Mark || decide (evV q.Where e.Record ≠ 0)) := by
    have := hri.filter fun e => e.Mark || decide (evV q.Where e.Record ≠ 0)
    exact ⟨hri.rq.bare, this.len, this.ev⟩
   have hc2 : X95 (Xh5 q).Window (Xca (Xh5 q) 0 (l.map fun x => x.filter fun e => e.Mark || decide (evV q.Where e.Record ≠ 0))) es := by
    rw [Xld hw l 0 fun x hx => (hri.ev x hx).1]; exact hc
   obtain ⟨_, _, he2⟩ := Xat hri2 hc2
   unfold Xh5 at he2
   rw [he, Yo, he2, Yo]
   simp only [beq_self_eq_true, cond_true]
   rw [Xfq fun r => decide (evV q.Where r ≠ 0)]
   have hsame : X71 (Xz9 (Xcy Xkz l) (Xbl q es)) (Xz9 (Xcy Xkz l) (Xbl (Xp.mk q.Agg q.Arg q.Sources q.Join ([] : List X00) q.Window q.ByKey q.Late) es)) = some true := by
    refine Xun ?_
    have h1 := Xla q es
    have h2 : (Xz9 (Xcy Xkz l) (Xbl q es)).length <= (Xbl q es).length := List.length_filter_le _ _
    omega
   rw [hsame]; rfl
  ·simp only [Bool.not_true, cond_false, cond_true, Yo]
   rw [lz' hw]; rfl
end Go.D


namespace Go.D
theorem Xyp {z : Int} (h : wfI .u8 z) : 0 <= z := by
 have h := h
 simp only [wfI, Lit.wf, IntKind.bits, IntKind.signed] at h
 simp at h
 have e1 : IntKind.u8.min = 0 := by decide
 omega
theorem Xzg {z : Int} (h : wfI .i64 z) : z <= 9223372036854775807 /\ -9223372036854775808 <= z := by
 have h := h
 simp only [wfI, Lit.wf, IntKind.bits, IntKind.signed] at h
 simp at h
 have e1 : IntKind.i64.min = -9223372036854775808 := by decide
 have e2 : IntKind.i64.max = 9223372036854775807 := by decide
 omega
theorem X03q {q : Xp} (w : Xiq q) : QW q := by
 obtain ⟨_, ⟨_, h1⟩, _, _, ⟨_, h2⟩, h3, _⟩ := w
 exact ⟨fun x hx => Xyp (h1 x hx).1, fun x hx => Xyp (h2 x hx).1, Xzg h3.2.2⟩
theorem Xdj (q : Xp) (l : List (List Xi)) (w0 : Xiq q) {P : Prop} (_ : P) : X46 q l = some true := Xs2 (X03q w0) l
end Go.D
