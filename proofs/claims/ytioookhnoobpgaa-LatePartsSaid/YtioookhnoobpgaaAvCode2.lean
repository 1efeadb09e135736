/- Loops, regions, guards. -/
import Derived.Test.YtioookhnoobpgaaAvCode
namespace Go.Av

structure WeakBy (θ : Nat → Nat) (n0 : Nat) (s s' : St) : Prop where
  fix : ∀ o, o < n0 → θ o = o
  frame : ∀ t, s'.A t = .junk ∨ s.A t = (s'.A t).ren θ
  heap : ∀ o x', s'.H o = some x' → ∃ x, s.H (θ o) = some x ∧ x.esz = x'.esz ∧ x.es = x'.es.map (AV.ren θ)
  inj : ∀ o o', s'.H o ≠ none → s'.H o' ≠ none → θ o = θ o' → o = o'
  ok : ∀ t, (s'.A t).Ok (· < s'.n)
  okH : ∀ o x', s'.H o = some x' → o < s'.n ∧ (∀ e ∈ x'.es, ∀ a ∈ e.cells, a.Ok (· < s'.n)) ∧ x'.solo = true ∧ x'.spent = false
  le : n0 ≤ s'.n

def Weak (n0 : Nat) (s s' : St) : Prop := ∃ θ, WeakBy θ n0 s s'

theorem cells_ren (θ : Nat → Nat) (e : AV) : (e.ren θ).cells = e.cells.map (AV.ren θ) := by
  cases e <;> simp [AV.ren, AV.cells, rens_eq]

theorem Good.weakBy {nt n0 : Nat} {c0 c : Ctx} {H0 : Heap} {s s' : St} {act : Act} {θ : Nat → Nat} (g : Good nt c0 H0 n0 c s act) (hw : WeakBy θ n0 s s') :
    Good nt c0 H0 n0 { c with ρ := fun o => c.ρ (θ o) } s' act := by
  refine ⟨⟨?_, ?_, ?_, g.inv.lt, g.inv.base, g.inv.own, ?_⟩, ?_, ?_, hw.ok, g.size, g.defers, ?_, hw.le⟩
  · intro o x' hx'
    obtain ⟨x, hx, hz, he⟩ := hw.heap o x' hx'
    obtain ⟨h1, ⟨⟨cur, hb, hs, hc⟩, h3, h4, h5⟩, h6⟩ := g.inv.obj _ x hx
    refine ⟨(hw.okH o x' hx').1, ⟨⟨cur, hb, hs, ?_⟩, by rw [he] at h3; simpa using h3, h4, by rw [← hz]; exact h5⟩, (hw.okH o x' hx').2.1⟩
    intro i e hei
    have : x.es[i]? = some (e.ren θ) := by rw [he, List.getElem?_map, hei]; rfl
    obtain ⟨g1, g2⟩ := hc i _ this
    rw [cells_ren] at g1 g2
    refine ⟨by simpa using g1, fun k a ha => ?_⟩
    obtain ⟨v, hv, hr, h7⟩ := g2 k (a.ren θ) (by rw [List.getElem?_map, ha]; rfl)
    exact ⟨v, hv, hr.unren, h7⟩
  · intro o o' x' y' hx' hy' hne hb
    obtain ⟨x, hx, hz, he⟩ := hw.heap o x' hx'
    obtain ⟨y, hy, _, _⟩ := hw.heap o' y' hy'
    have hne' : θ o ≠ θ o' := fun h => hne (hw.inj o o' (by rw [hx']; simp) (by rw [hy']; simp) h)
    have := (g.inv.sep _ _ x y hx hy hne' hb).1
    rw [(g.solo _ x hx).1] at this
    cases this
  · intro o x' hx'
    obtain ⟨x, hx, _⟩ := hw.heap o x' hx'
    exact g.inv.stab _ x hx
  · intro o x' hx'
    obtain ⟨x, hx, _⟩ := hw.heap o x' hx'
    exact g.inv.low _ x hx
  · intro o x' hx'
    exact (hw.okH o x' hx').2.2
  · intro t
    rcases hw.frame t with h | h
    · rw [h]; exact .junk
    · have := g.frame t
      rw [h] at this
      exact this.unren
  · have r := g.reach
    refine ⟨fun o ho => ?_, r.os, r.tape, r.output, r.size, r.block, r.stable, r.sa, r.so1, r.so2, r.B, fun o x' hx' => ?_⟩
    · show c.ρ (θ o) = c0.ρ o
      rw [hw.fix o ho]; exact r.rho o ho
    · obtain ⟨x, hx, _⟩ := hw.heap o x' hx'
      exact r.own _ x hx

theorem Good.weak {nt n0 : Nat} {c0 c : Ctx} {H0 : Heap} {s s' : St} {act : Act} (g : Good nt c0 H0 n0 c s act) (hw : Weak n0 s s') :
    ∃ c', c'.w = c.w ∧ Good nt c0 H0 n0 c' s' act := by
  obtain ⟨θ, hw⟩ := hw
  exact ⟨{ c with ρ := fun o => c.ρ (θ o) }, rfl, g.weakBy hw⟩

section
variable {P : Program} {nt n0 : Nat} {s : St} {Q : AExit → St → Prop}

theorem SemC.weak {code : Code} {s' : St} (hw : Weak n0 s s') (h : SemC P nt n0 code Q s') : SemC P nt n0 code Q s := by
  intro c0 H0 c act g
  obtain ⟨c', hc, g'⟩ := g.weak hw
  have := h c0 H0 c' act g'
  rwa [hc] at this

def loopQ (n0 : Nat) (J : Nat → St → Prop) (m : Nat) (Q : AExit → St → Prop) : AExit → St → Prop
  | .normal, s => ∃ s2 m', Weak n0 s s2 ∧ J m' s2 ∧ m' < m
  | e, s => Q e s

theorem least {p : Nat → Prop} (h : ∃ m, p m) : ∃ m, p m ∧ ∀ k, p k → m ≤ k := by
  obtain ⟨m, hm⟩ := h
  induction m using Nat.strongRecOn with
  | _ m ih =>
    by_cases hex : ∃ k, k < m ∧ p k
    · obtain ⟨k, hk, hp⟩ := hex; exact ih k hk hp
    · exact ⟨m, hm, fun k hk => Nat.le_of_not_lt fun hlt => hex ⟨k, hlt, hk⟩⟩

open Classical in
theorem SemC.loop {body : Code} (J : Nat → St → Prop) (h0 : ∃ s1 m, Weak n0 s s1 ∧ J m s1) (hr : ∀ m s, J m s → SemC P nt n0 body (loopQ n0 J m Q) s) : SemC P nt n0 (.loop body) Q s := by
  intro c0 H0 c act g
  let I' : Nat → Act → World → Prop := fun m act w => ∃ c s, c.w = w ∧ Good nt c0 H0 n0 c s act ∧ J m s
  let I : Act → World → Prop := fun act w => ∃ m, I' m act w
  let μ : Act → World → Nat := fun act w => if h : ∃ m, I' m act w then Classical.choose (least h) else 0
  obtain ⟨s1, m, hw, hJ⟩ := h0
  obtain ⟨c', hc, g'⟩ := g.weak hw
  refine wp_loop I μ ⟨m, c', s1, hc, g', hJ⟩ ?_
  intro a w hI
  have hm : μ a w = Classical.choose (least hI) := dif_pos hI
  obtain ⟨c1, s2, rfl, g1, hJ1⟩ := (Classical.choose_spec (least hI)).1
  refine Code.wp_mono ?_ (hr _ _ hJ1 c0 H0 c1 a g1)
  rintro e a' w' ⟨c2, s3, ae, rfl, g2, rfl, hq⟩
  cases ae with
  | normal =>
    obtain ⟨s4, m', hw4, hJ4, hlt⟩ := hq
    obtain ⟨c4, hc4, g4⟩ := g2.weak hw4
    have hI4 : I' m' a' c2.w := ⟨c4, s4, hc4, g4, hJ4⟩
    refine ⟨⟨m', hI4⟩, ?_⟩
    have : μ a' c2.w = Classical.choose (least (⟨m', hI4⟩ : ∃ m, I' m a' c2.w)) := dif_pos (⟨m', hI4⟩ : ∃ m, I' m a' c2.w)
    rw [this, hm]
    exact Nat.lt_of_le_of_lt ((Classical.choose_spec (least (⟨m', hI4⟩ : ∃ m, I' m a' c2.w))).2 m' hI4) hlt
  | exit id => exact ⟨c2, s3, .exit id, rfl, g2, rfl, hq⟩
  | ret => exact ⟨c2, s3, .ret, rfl, g2, rfl, hq⟩

theorem SemC.region {id : Nat} {ops : Array Oper} (h : SemL P nt n0 ops ops.toList (Q .normal) s) : SemC P nt n0 (.region id ops false) Q s := by
  intro c0 H0 c act g
  exact wp_region_list (h c0 H0 c act g _ fun c' s' act' g' hq => ⟨c', s', .normal, rfl, g', rfl, hq⟩)

variable {ops : Array Oper} {l : List Oper} {o : Oper} {K : St → Prop}

theorem SemL.nil (h : K s) : SemL P nt n0 ops [] K s := fun _ _ c act g Qx hQ => hQ c s act g h

theorem SemL.weak {s' : St} (hw : Weak n0 s s') (h : SemL P nt n0 ops l K s') : SemL P nt n0 ops l K s := by
  intro c0 H0 c act g Qx hQ
  obtain ⟨c', hc, g'⟩ := g.weak hw
  have := h c0 H0 c' act g' Qx hQ
  rwa [hc] at this

theorem SemL.step {R : AV → Heap → Nat → Prop} (hg : o.guard = none) (hd : ∀ d, o.dst = some d → d < nt) (h : OpR P nt o s R)
    (hn : ∀ a H' n', R a H' n' → SemL P nt n0 ops l K ⟨updO s.A o.dst a, H', n'⟩) : SemL P nt n0 ops (o :: l) K s := by
  intro c0 H0 c act g Qx hQ
  refine wpList_plain hg fun K' hK' => ?_
  refine h c0 H0 n0 c act g K' Qx fun c' a H' n' v hR hgood => ?_
  exact hK' _ _ (hn a H' n' hR c0 H0 c' _ (hgood o.dst hd) Qx hQ)

theorem yielded_eq {c0 c : Ctx} {H0 : Heap} {act : Act} (g : Good nt c0 H0 n0 c s act) {j t : Nat} {b : Bool} (hj : (ops[j]?).bind (·.dst) = some t) (ht : t < nt)
    (hb : strip (s.A t) = .sc (.bool b)) : yielded ops act.tmps j = some b := by
  have h1 := g.ev (.tmp t)
  simp only [evA, hb] at h1
  have h2 := h1.sc_inv
  simp only [Act.eval] at h2
  have hlt : t < act.tmps.size := by rw [g.size]; exact ht
  unfold yielded
  rw [hj]
  simp only [Option.bind_some, Array.getElem?_eq_getElem hlt]
  have : act.tmps[t] = .bool b := by simpa [hlt] using h2
  rw [this]

theorem SemL.guard {R : AV → Heap → Nat → Prop} {j t : Nat} {want b : Bool} (hg : o.guard = some (j, want)) (hj : (ops[j]?).bind (·.dst) = some t) (ht : t < nt) (hb : strip (s.A t) = .sc (.bool b))
    (hd : ∀ d, o.dst = some d → d < nt) (h : b = want → OpR P nt o s R) (hn : b = want → ∀ a H' n', R a H' n' → SemL P nt n0 ops l K ⟨updO s.A o.dst a, H', n'⟩)
    (hn' : b ≠ want → SemL P nt n0 ops l K ⟨updO s.A o.dst (.sc undef), s.H, s.n⟩) : SemL P nt n0 ops (o :: l) K s := by
  intro c0 H0 c act g Qx hQ
  have hy := yielded_eq g hj ht hb
  refine wpList_step fun K' hK' => ?_
  by_cases hbw : b = want
  · rw [if_pos (by simp [Region.wanted, hg, hy, hbw])]
    exact h hbw c0 H0 n0 c act g K' Qx fun c' a H' n' v hR hgood => hK' _ _ (hn hbw a H' n' hR c0 H0 c' _ (hgood o.dst hd) Qx hQ)
  · rw [if_neg (by simp [Region.wanted, hg, hy, hbw])]
    exact hK' _ _ (hn' hbw c0 H0 c _ (g.next hd (.refl c) rfl (fun b hb => .inl hb) (.refl c s.H) (fun q x hx => .inr ⟨q, x, hx, rfl⟩) g.inv g.solo (Nat.le_refl _) .sc .sc) Qx hQ)

/-- A guarded operation that makes nothing: its value, if it is wanted. -/
theorem SemL.guardQ {j t : Nat} {want b : Bool} {a : AV} (hg : o.guard = some (j, want)) (hj : (ops[j]?).bind (·.dst) = some t) (ht : t < nt) (hb : strip (s.A t) = .sc (.bool b))
    (hd : ∀ d, o.dst = some d → d < nt) (hok : a.Ok (· < s.n)) (h : b = want → OpR P nt o s (fun a' H' n' => a' = a ∧ H' = s.H ∧ n' = s.n))
    (hn : SemL P nt n0 ops l K ⟨updO s.A o.dst (.cond (b == want) a), s.H, s.n⟩) : SemL P nt n0 ops (o :: l) K s := by
  intro c0 H0 c act g Qx hQ
  have hy := yielded_eq g hj ht hb
  refine wpList_step fun K' hK' => ?_
  by_cases hbw : b = want
  · rw [if_pos (by simp [Region.wanted, hg, hy, hbw])]
    refine h hbw c0 H0 n0 c act g K' Qx fun c' a' H' n' v hR hgood => ?_
    obtain ⟨rfl, rfl, rfl⟩ := hR
    have g2 := hgood o.dst hd
    refine hK' _ _ (hn c0 H0 c' _ ⟨g2.inv, g2.solo, fun q => ?_, fun q => ?_, g2.size, g2.defers, g2.reach, g2.le0⟩ Qx hQ)
    · have h1 := g2.frame q
      cases hdst : o.dst with
      | none => simp only [updO, hdst] at h1 ⊢; exact h1
      | some d =>
        simp only [updO, hdst] at h1 ⊢
        by_cases hq : q = d
        · subst hq; rw [upd_same] at h1 ⊢; exact .cond (fun _ => h1) (fun hc => by simp [hbw] at hc)
        · rw [upd_other _ _ hq] at h1 ⊢; exact h1
    · have h1 := g2.ok q
      cases hdst : o.dst with
      | none => simp only [updO, hdst] at h1 ⊢; exact h1
      | some d =>
        simp only [updO, hdst] at h1 ⊢
        by_cases hq : q = d
        · subst hq; rw [upd_same] at h1 ⊢; exact .cond h1
        · rw [upd_other _ _ hq] at h1 ⊢; exact h1
  · rw [if_neg (by simp [Region.wanted, hg, hy, hbw])]
    refine hK' _ _ (hn c0 H0 c _ (g.next hd (.refl c) rfl (fun b hb => .inl hb) (.refl c s.H) (fun q x hx => .inr ⟨q, x, hx, rfl⟩) g.inv g.solo (Nat.le_refl _) (v := undef) (.cond (fun hc => ?_) (fun _ => rfl)) (.cond hok)) Qx hQ)
    simp only [beq_iff_eq] at hc
    exact absurd hc hbw
end
end Go.Av
