/- Parts of the proof, laid together. -/
import Derived.Test.YtoadgjfleafafaaGreatAvb
import Derived.RangeFuncLeaves
import Derived.IntWalk
import Derived.MapKept
import Derived.RangeFuncIn
set_option linter.all false

namespace Go.Av
def argL : Nat -> List AV -> List (Nat × AV)
 | _, [] => []
 | i, a :: r => (i, a) :: argL (i + 1) r
theorem Xlo : ∀ (as : List AV) (i t : Nat), fr (argL i as) t = if i <= t then (match as[t - i]? with | some a => a | none => .junk) else .junk := by
 intro as
 induction as with
 | nil => intro i t; simp [argL, fr]
 | cons a r ih =>
  intro i t
  simp only [argL, fr]
  by_cases ht : t = i
  ·subst ht; simp
  ·have hb : Nat.beq t i = false := by rw [<- Bool.not_eq_true, Nat.beq_eq]; exact ht
   rw [hb, cond_false, ih]
   by_cases h1 : i + 1 <= t
   ·rw [if_pos h1, if_pos (by omega), show t - i = (t - (i + 1)) + 1 by omega, List.getElem?_cons_succ]
   ·rw [if_neg h1, if_neg (by omega)]
section
variable {P : Program} {nt n0 : Nat} {s : St} {μ : Mu}
theorem X33.turn {c0 c : Ctx} {H0 : X0l} {act : Act} {b : Nat} (o : Go.Obj) (g : X33 nt c0 H0 n0 c s act) (h1 : ¬ c.Sa b) (h2 : ¬ c.So b) (h3 : ∀ o x, s.H o = some x -> (c.ρ o).blk ≠ b) (h4 : c0.w.heap.size <= b) :
  X33 nt c0 H0 n0 { c with w := c.w.putObj b o } s act /\ c.Le (fun _ => True) { c with w := c.w.putObj b o } := by
 have hother : ∀ k, k ≠ b -> (c.w.putObj b o).heap[k]? = c.w.heap[k]? := fun k hk => World.putObj_heap_other hk
 have hle : c.Le (fun _ => True) { c with w := c.w.putObj b o } :=
  ⟨fun _ _ => rfl, fun _ h => h, fun _ h => h, fun k hk => hother k (fun e => by subst e; exact hk.elim h1 h2), rfl⟩
 have all : ∀ {a : AV} {M : Nat -> Prop}, a.Ok M -> a.Ok (fun _ => True) := fun h => h.mono fun _ _ => trivial
 have r := g.reach
 refine ⟨⟨⟨fun q x hx => ?_, g.inv.sep, g.inv.stab, fun k hk => ?_, ?_, g.inv.own, g.inv.low⟩, g.solo, fun t => (g.frame t).mono hle (.inr (all (g.ok t))), g.ok, g.size,
  ⟨r.rho, r.os, r.tape, r.output, ?_, fun k hk hn => ?_, fun k hk => ?_, r.sa, r.so1, r.so2, r.B, r.own⟩, g.le0⟩, hle⟩
 ·obtain ⟨i1, ⟨⟨cur, hb, hs, hc⟩, i3, i4, i5⟩, i6⟩ := g.inv.obj q x hx
  refine ⟨i1, ⟨⟨cur, (hother _ (h3 q x hx)).trans hb, hs, fun i e he => ?_⟩, i3, i4, i5⟩, i6⟩
  obtain ⟨g1, g2⟩ := hc i e he
  exact ⟨g1, fun k a ha => by obtain ⟨v, hv, hr, h7⟩ := g2 k a ha; exact ⟨v, hv, hr.mono hle (.inr (all (i6 e (List.mem_of_getElem? he) a (List.mem_of_getElem? ha)))), h7⟩⟩
 ·show k < (c.w.putObj b o).heap.size
  rw [World.putObj_size]; exact g.inv.lt k hk
 ·show c.B <= (c.w.putObj b o).heap.size
  rw [World.putObj_size]; exact g.inv.base
 ·show c0.w.heap.size <= (c.w.putObj b o).heap.size
  rw [World.putObj_size]; exact r.size
 ·exact (hother k (by omega)).trans (r.block k hk hn)
 ·refine (hother k (fun e => ?_)).trans (r.stable k hk)
  subst e
  exact hk.elim (fun h => h1 (by rw [r.sa]; exact h)) (fun h => h2 (r.so1 _ h))
theorem Xpn {fn : Func} {Rr : Ending -> World -> Prop} {c0 : Ctx} {H0 : X0l} {act : Act} : ∀ (μ : Mu) (c : Ctx), X33 nt c0 H0 n0 c s act -> (∀ p ∈ μ, Xn9 n0 c p.1 p.2) ->
  (∀ p ∈ μ, ¬ c.Sa p.1 /\ ¬ c.So p.1 /\ (∀ o x, s.H o = some x -> (c.ρ o).blk ≠ p.1) /\ c0.w.heap.size <= p.1) -> (μ.map (·.1)).Nodup ->
  (∀ c', X33 nt c0 H0 n0 c' s act -> ∃ v, (results fn act.tmps).run P c'.w = .ok v c'.w /\ Rr (.returned v) c'.w) -> LeavesInM (FR none) 0 P fn act.tmps Rr (Xol μ) .returning c.w := by
 intro μ
 induction μ with
 | nil =>
  intro c g _ _ _ hk
  obtain ⟨v, h1, h2⟩ := hk c g
  exact ⟨v, h1, h2⟩
 | cons p μ ih =>
  intro c g hi ha hn hk
  obtain ⟨D, x⟩ := p
  have hi' : ∀ p ∈ μ, Xn9 n0 c p.1 p.2 := fun p hp => hi p (List.mem_cons_of_mem _ hp)
  have ha' := fun p hp => ha p (List.mem_cons_of_mem _ hp)
  simp only [List.map_cons, List.nodup_cons] at hn
  cases x with
  | map l => exact ih c g hi' ha' hn.2 hk
  | blk o => exact ih c g hi' ha' hn.2 hk
  | loop r nt m A => exact ih c g hi' ha' hn.2 hk
  | mark =>
   obtain ⟨a1, a2, a3, a4⟩ := ha _ List.mem_cons_self
   obtain ⟨g2, hle⟩ := g.turn (.deferred none) a1 a2 a3 a4
   have hd : c.w.heap[D]? = some (.deferred (some [])) := hi _ List.mem_cons_self
   refine ⟨by simp, .inl ⟨D, _, rfl, run_takeDeferred hd, ?_⟩⟩
   refine ih { c with w := c.w.putObj D (.deferred none) } g2 (fun p hp => ?_) ha' hn.2 hk
   exact (hi' p hp).le (World.putObj_heap_other (fun e => hn.1 (e ▸ List.mem_map.2 ⟨p, hp, rfl⟩))) (hle.weaken fun _ _ => trivial)
end
section
variable {P : Program} {T : Ty}
theorem Xbc {f : Nat} {fn : Func} {code : Code} (hfn : X2w P f fn code) {nt n0 : Nat} {s : St} {Q : X0d -> St -> Mu -> Prop} {c : Ctx} {vs : Array Value} {Rr : Ending -> World -> Prop}
  (g : X33 nt c s.H n0 c s { tmps := vs ++ Array.replicate (fn.ntmps - vs.size) undef, defers := [] }) (h : X3t P nt n0 code Q s [])
  (hQ : ∀ e s' μ, Q e s' μ -> (∀ id, e ≠ .exit id) /\ ∀ c' act', X33 nt c s.H n0 c' s' act' -> ∃ v, (results fn act'.tmps).run P c'.w = .ok v c'.w /\ Rr (.returned v) c'.w) : Calls P f vs c.w Rr := by
 refine (callsIn_wide (n := 0)).1 (callsIn_of_wp_marks hfn.here hfn.body trivial ?_)
 refine wpIn_mono (h c s.H c _ g (.nil rfl) none .none) ?_
 rintro e a w ⟨c', s', ae, μ', rfl, g', hm', rfl, hq⟩
 obtain ⟨hx, hq⟩ := hQ ae s' μ' hq
 have fin : LeavesInM Fence.wide 0 P fn a.tmps Rr a.defers .returning c'.w := by
  rw [hm'.ds]
  exact Xpn μ' c' g' hm'.is hm'.away hm'.nodup fun c2 g2 => hq c2 a g2
 cases ae with
 | exit id => exact (hx id rfl).elim
 | normal => exact fin
 | ret => exact fin
def Xp0 (T : Ty) (fn : Func) (K : AV -> X0l -> Nat -> Prop) : X0d -> St -> Mu -> Prop := fun e s _ => Xqx T fn K e s
theorem X33.argL {nt n0 : Nat} {c0 c : Ctx} {H0 H : X0l} {n : Nat} {as : List AV} {act : Act} (g : X33 nt c0 H0 n0 c ⟨Xhc as, H, n⟩ act) : X33 nt c0 H0 n0 c ⟨fr (Av.argL 0 as), H, n⟩ act := by
 refine ⟨g.inv, g.solo, fun t => ?_, fun t => ?_, g.size, g.reach, g.le0⟩
 ·show X15 c false (fr (Av.argL 0 as) t) _
  rw [Xlo]
  simp only [Nat.zero_le, if_true, Nat.sub_zero]
  have := g.frame t
  simp only [Xhc] at this
  cases hq : as[t]? with
  | none => exact .junk
  | some a => rw [hq] at this; exact this
 ·show (fr (Av.argL 0 as) t).Ok (· < n)
  rw [Xlo]
  simp only [Nat.zero_le, if_true, Nat.sub_zero]
  have := g.ok t
  simp only [Xhc] at this
  cases hq : as[t]? with
  | none => exact .junk
  | some a => rw [hq] at this; exact this
theorem HC.of_bodyM (hT : X7o P T) {f : Nat} {fn : Func} {code : Code} (hfn : X2w P f fn code) {as : List AV} {H : X0l} {n nt : Nat} {K : AV -> X0l -> Nat -> Prop} (hnt : fn.ntmps = nt)
  (hle : as.length <= nt) (h : X3t P nt n code (Xp0 T fn K) ⟨fr (argL 0 as), H, n⟩ []) : HC P f as H n K := by
 refine ⟨⟨fn, code, hfn⟩, fun c vs hI hs hv ho => ?_⟩
 have g : X33 nt c H n c ⟨Xhc as, H, n⟩ { tmps := vs ++ Array.replicate (fn.ntmps - vs.size) undef, defers := [] } := by
  refine ⟨hI, hs, fun t => X8c hv _ t, fun t => Xea ho t, ?_, .refl c H n, Nat.le_refl _⟩
  have := hv.len
  simp only [Array.size_append, Array.size_replicate]; omega
 refine Xbc hfn g.argL h ?_
 intro e s' μ hq
 have fin : (∃ rs, Xau T s' fn.results.toList rs /\ K (X9l rs) s'.H s'.n) -> ∀ c' act', X33 nt c H n c' s' act' -> ∃ v, (results fn act'.tmps).run P c'.w = .ok v c'.w /\ ∃ v' r H' n' c2, K r H' n' /\ Ending.returned v = .returned v' /\ c2.w = c'.w /\ c.Le (· < n) c2 /\ c2.Sa = c.Sa /\ (∀ b, c2.So b -> c.So b \/ c.w.heap.size <= b \/ ∃ o x, H o = some x /\ (c.ρ o).blk = b) /\
   Fr c H c'.w /\ X8i c H c2 H' /\ Inv c2 H' (· < n') /\ (∀ o x, H' o = some x -> x.solo = true /\ x.spent = false) /\ n <= n' /\ X15 c2 false r v' /\ r.Ok (· < n') := by
  rintro ⟨rs, hrs, hk⟩ c' act' g'
  obtain ⟨v, h1, h2, h3⟩ := Xgu hT g' hrs
  exact ⟨v, h1, v, _, s'.H, s'.n, c', hk, rfl, rfl, g'.reach.le, g'.reach.sa, g'.reach.so2, g'.reach.fr, g'.reach.own, g'.inv, g'.solo, g'.le0, h2, h3⟩
 cases e with
 | exit id => exact hq.elim
 | normal => exact ⟨(fun _ h => by cases h), fin hq⟩
 | ret => exact ⟨(fun _ h => by cases h), fin hq⟩
def Xnn (T : Ty) (fn : Func) (r : AV) : X0d -> St -> Mu -> Prop := fun e s _ => Xpj T fn r e s
theorem X16.of_bodyM (hT : X7o P T) {f : Nat} {fn : Func} {code : Code} (hfn : X2w P f fn code) {as : List AV} {nt : Nat} {r : AV} (hnt : fn.ntmps = nt)
  (hle : as.length <= nt) (h : X3t P nt 0 code (Xnn T fn r) ⟨fr (argL 0 as), fun _ => none, 0⟩ []) : X16 P f as r := by
 refine ⟨⟨fn, code, hfn⟩, fun w S vs hS hv => ?_⟩
 let c : Ctx := ⟨w, pl0, S, fun _ => False, w.heap.size⟩
 have hI : Inv c (fun _ => none) (· < 0) :=
  ⟨fun o x h => (by cases h), fun o o' x x' h => (by cases h), fun o x h => (by cases h), fun b hb => hb.elim (hS b) False.elim, Nat.le_refl _, fun b hb => hb.elim, fun o x h => (by cases h)⟩
 have g : X33 nt c (fun _ => none) 0 c ⟨Xhc as, fun _ => none, 0⟩ { tmps := vs ++ Array.replicate (fn.ntmps - vs.size) undef, defers := [] } := by
  refine ⟨hI, fun o x h => (by cases h), fun t => X8c hv _ t, fun t => Xea (fun a ha => ?_) t, ?_, .refl c _ 0, Nat.le_refl _⟩
  ·obtain ⟨i, hi⟩ := List.getElem?_of_mem ha
   have : i < vs.size := by rw [<- hv.len]; exact (List.getElem?_eq_some_iff.1 hi).1
   exact (hv.rel i a _ hi (Array.getElem?_eq_getElem this)).okDeep
  ·have := hv.len
   simp only [Array.size_append, Array.size_replicate]; omega
 refine Xbc (c := c) hfn g.argL h ?_
 intro e s' μ hq
 have fin : (∃ rs, Xau T s' fn.results.toList rs /\ Cv true s'.H (X9l rs) r) -> ∀ c' act', X33 nt c (fun _ => none) 0 c' s' act' ->
   ∃ v, (results fn act'.tmps).run P c'.w = .ok v c'.w /\ ∃ u, Ending.returned v = .returned u /\ X15 ⟨c'.w, pl0, S, fun b => w.heap.size <= b /\ b < c'.w.heap.size, w.heap.size⟩ true r u /\ RowKit.Below w.heap.size w c'.w := by
  rintro ⟨rs, hrs, hk⟩ c' a g'
  obtain ⟨v, h1, h2, h3⟩ := Xgu hT g' hrs
  have hr := g'.reach
  have hB : c'.B = w.heap.size := hr.B
  refine ⟨v, h1, v, rfl, ?_, ⟨hr.os, hr.tape, hr.output, hr.size, fun k hk => hr.block k hk (fun o x hx => (by cases hx))⟩⟩
  refine Xmn g'.inv (c' := ⟨c'.w, pl0, S, fun b => w.heap.size <= b /\ b < c'.w.heap.size, w.heap.size⟩) rfl (fun b hb => ?_) (fun _ b hb => ?_) (fun o x hx => ?_) hk h2
  ·rcases hb with hb | hb
   ·exact .inl ⟨rfl, by rw [<- hr.sa]; exact hb⟩
   ·exact .inr ⟨by rw [<- hB]; exact g'.inv.own b hb, g'.inv.lt b (.inr hb)⟩
  ·exact ⟨by rw [<- hB]; exact g'.inv.own b hb, g'.inv.lt b (.inr hb)⟩
  ·obtain ⟨_, ⟨⟨cur, hcb, _⟩, _⟩, _⟩ := g'.inv.obj o x hx
   exact .inr ⟨by rw [<- hB]; exact g'.inv.low o x hx, (Array.getElem?_eq_some_iff.1 hcb).1⟩
 cases e with
 | exit id => exact hq.elim
 | normal => exact ⟨(fun _ h => by cases h), fin hq⟩
 | ret => exact ⟨(fun _ h => by cases h), fin hq⟩
end
section
variable {P : Program} {nt n0 : Nat} {s : St} {μ : Mu}
theorem X33.weak' {c0 c : Ctx} {H0 : X0l} {s s' : St} {act : Act} {θ : Nat -> Nat} (g : X33 nt c0 H0 n0 c s act) (hw : Xiz θ n0 s s') :
  ∃ c', c' = { c with ρ := fun o => c.ρ (θ o) } /\ X33 nt c0 H0 n0 c' s' act := ⟨{ c with ρ := fun o => c.ρ (θ o) }, rfl, g.weakBy hw⟩
theorem X33.weakM {c0 c : Ctx} {H0 : X0l} {s s' : St} {act : Act} (g : X33 nt c0 H0 n0 c s act) (hm : MOk n0 c0 c s.H μ act) (hw : Xlp n0 s s') :
  ∃ c', c'.w = c.w /\ X33 nt c0 H0 n0 c' s' act /\ MOk n0 c0 c' s'.H μ act := by
 obtain ⟨θ, hw⟩ := hw
 obtain ⟨c', h2, h3⟩ := g.weak' hw
 exact ⟨c', by rw [h2], h3, hm.weak hw h2⟩
theorem X3t.weak {code : Code} {Q : X0d -> St -> Mu -> Prop} {s' : St} (hw : Xlp n0 s s') (h : X3t P nt n0 code Q s' μ) : X3t P nt n0 code Q s μ := by
 intro c0 H0 c act g hm R hR
 obtain ⟨c', hc, g', hm'⟩ := g.weakM hm hw
 have := h c0 H0 c' act g' hm' R hR
 rwa [hc] at this
theorem X47.weak {ops : Array Oper} {l : List Oper} {K : St -> Mu -> Prop} {s' : St} (hw : Xlp n0 s s') (h : X47 P nt n0 ops l K s' μ) : X47 P nt n0 ops l K s μ := by
 intro c0 H0 c act g hm Qx hQ R hR
 obtain ⟨c', hc, g', hm'⟩ := g.weakM hm hw
 have := h c0 H0 c' act g' hm' Qx hQ R hR
 rwa [hc] at this
end
def thL : List (Nat × Nat) -> Nat -> Nat
 | [], o => o
 | (a, b) :: r, o => bif Nat.beq o a then b else thL r o
def wkL (L : List (Nat × AV)) (θ : List (Nat × Nat)) (n : Nat) : List (Nat × AV) -> Prop
 | [] => True
 | (t, a) :: r => fr L t = a.ren (thL θ) /\ a.Ok (· < n) /\ wkL L θ n r
def wkG (G : List (Nat × Obj)) (θ : List (Nat × Nat)) (n : Nat) : List (Nat × Obj) -> Prop
 | [] => True
 | (o, x) :: r => (∃ y, hp G (thL θ o) = some y /\ y.esz = x.esz /\ y.es = x.es.map (AV.ren (thL θ))) /\ o < n /\ (∀ e ∈ x.es, ∀ a ∈ e.cells, a.Ok (· < n)) /\ x.solo = true /\ x.spent = false /\ wkG G θ n r
theorem Xk9 {L : List (Nat × AV)} {θ : List (Nat × Nat)} {n : Nat} : ∀ {L' : List (Nat × AV)}, wkL L θ n L' -> ∀ t, (fr L' t = .junk \/ fr L t = (fr L' t).ren (thL θ)) /\ (fr L' t).Ok (· < n) := by
 intro L'
 induction L' with
 | nil => intro _ t; exact ⟨.inl rfl, .junk⟩
 | cons p r ih =>
  obtain ⟨d, a⟩ := p
  rintro ⟨h1, h2, h3⟩ t
  by_cases ht : t = d
  ·subst ht
   have : fr ((t, a) :: r) t = a := by simp [fr]
   rw [this]; exact ⟨.inr h1, h2⟩
  ·have : fr ((d, a) :: r) t = fr r t := by
    have hb : Nat.beq t d = false := by rw [<- Bool.not_eq_true, Nat.beq_eq]; exact ht
    simp [fr, hb]
   rw [this]; exact ih h3 t
theorem Xka {G : List (Nat × Obj)} {θ : List (Nat × Nat)} {n : Nat} : ∀ {G' : List (Nat × Obj)}, wkG G θ n G' -> ∀ o x, hp G' o = some x ->
  (∃ y, hp G (thL θ o) = some y /\ y.esz = x.esz /\ y.es = x.es.map (AV.ren (thL θ))) /\ o < n /\ (∀ e ∈ x.es, ∀ a ∈ e.cells, a.Ok (· < n)) /\ x.solo = true /\ x.spent = false := by
 intro G'
 induction G' with
 | nil => intro _ o x h; cases h
 | cons p r ih =>
  obtain ⟨d, y⟩ := p
  rintro ⟨h1, h2, h3, h4, h5, h6⟩ o x hx
  by_cases ho : o = d
  ·subst ho
   have : hp ((o, y) :: r) o = some y := by simp [hp]
   rw [this] at hx; cases hx
   exact ⟨h1, h2, h3, h4, h5⟩
  ·have : hp ((d, y) :: r) o = hp r o := by
    have hb : Nat.beq o d = false := by rw [<- Bool.not_eq_true, Nat.beq_eq]; exact ho
    simp [hp, hb]
   rw [this] at hx
   exact ih h6 o x hx
theorem Xn4 {G : List (Nat × Obj)} {o : Nat} (h : hp G o ≠ none) : o ∈ G.map (·.1) := by
 induction G with
 | nil => exact absurd rfl h
 | cons p r ih =>
  obtain ⟨d, y⟩ := p
  by_cases ho : o = d
  ·subst ho; simp
  ·have : hp ((d, y) :: r) o = hp r o := by
    have hb : Nat.beq o d = false := by rw [<- Bool.not_eq_true, Nat.beq_eq]; exact ho
    simp [hp, hb]
   rw [this] at h
   exact List.mem_cons_of_mem _ (ih h)
def Xp4 (θ : List (Nat × Nat)) : List Nat -> Bool
 | [] => true
 | o :: r => r.all (fun q => Nat.beq o q || !Nat.beq (thL θ o) (thL θ q)) && Xp4 θ r
theorem Xog {θ : List (Nat × Nat)} : ∀ {l : List Nat}, Xp4 θ l = true -> ∀ o ∈ l, ∀ q ∈ l, thL θ o = thL θ q -> o = q := by
 intro l
 induction l with
 | nil => intro _ o h; cases h
 | cons a r ih =>
  intro h o ho q hq he
  simp only [Xp4, Bool.and_eq_true, List.all_eq_true, Bool.or_eq_true, Nat.beq_eq, Bool.not_eq_true'] at h
  have key : ∀ x ∈ r, thL θ a = thL θ x -> a = x := by
   intro x hx hax
   rcases h.1 x hx with h1 | h1
   ·exact h1
   ·rw [hax, Nat.beq_refl] at h1; cases h1
  rcases List.mem_cons.1 ho with h1 | h1
  ·rcases List.mem_cons.1 hq with h2 | h2
   ·rw [h1, h2]
   ·rw [h1] at he ⊢; exact key q h2 he
  ·rcases List.mem_cons.1 hq with h2 | h2
   ·rw [h2] at he ⊢; exact (key o h1 he.symm).symm
   ·exact ih h.2 o h1 q h2 he
def Xpu (θ : List (Nat × Nat)) (n0 : Nat) : Bool := θ.all fun p => Nat.ble n0 p.1 || Nat.beq p.1 p.2
theorem Xoi {n0 : Nat} : ∀ {θ : List (Nat × Nat)}, Xpu θ n0 = true -> ∀ o, o < n0 -> thL θ o = o := by
 intro θ
 induction θ with
 | nil => intro _ o _; rfl
 | cons p r ih =>
  obtain ⟨a, b⟩ := p
  intro h o ho
  simp only [Xpu, List.all_cons, Bool.and_eq_true, Bool.or_eq_true, Nat.ble_eq, Nat.beq_eq] at h
  simp only [thL]
  cases hb : Nat.beq o a with
  | true =>
   have : o = a := Nat.eq_of_beq_eq_true hb
   subst this
   rcases h.1 with h1 | h1
   ·omega
   ·simp only [cond_true]; exact h1.symm
  | false => simp only [cond_false]; exact ih h.2 o ho
theorem Xna {L L' : List (Nat × AV)} {G G' : List (Nat × Obj)} {n n' n0 : Nat} (θ : List (Nat × Nat)) (hb : (Xpu θ n0 && Xp4 θ (G'.map (·.1)) && Nat.ble n0 n') = true) (hL : wkL L θ n' L') (hG : wkG G θ n' G') :
  Xlp n0 ⟨fr L, hp G, n⟩ ⟨fr L', hp G', n'⟩ := by
 simp only [Bool.and_eq_true, Nat.ble_eq] at hb
 obtain ⟨⟨h1, h2⟩, h3⟩ := hb
 refine ⟨thL θ, Xoi h1, fun t => (Xk9 hL t).1, fun o x hx => ?_, fun o q ho hq he => Xog h2 o (Xn4 ho) q (Xn4 hq) he, fun t => (Xk9 hL t).2, fun o x hx => ?_, h3⟩
 ·obtain ⟨⟨y, g1, g2, g3⟩, _⟩ := Xka hG o x hx
  exact ⟨y, g1, g2, g3⟩
 ·obtain ⟨_, g1, g2, g3, g4⟩ := Xka hG o x hx
  exact ⟨g1, g2, g3, g4⟩
theorem Xav.weak {P : Program} {nt n0 : Nat} {Q : X0d -> St -> Mu -> Prop} {μ : Mu} {s s' : St} (hw : Xlp n0 s s') : ∀ (K : List Kn) (e : X0d), Xav P nt n0 Q K e s' μ -> Xav P nt n0 Q K e s μ := by
 have hloop : ∀ {b : Code} {Q' : X0d -> St -> Mu -> Prop}, X6s P nt n0 b Q' s' μ -> X6s P nt n0 b Q' s μ := by
  intro b Q' h c0 H0 c act g hm R hR
  obtain ⟨c', hc, g', hm'⟩ := g.weakM hm hw
  have := h c0 H0 c' act g' hm' R hR
  rwa [hc] at this
 intro K
 induction K with
 | nil =>
  intro e h c0 H0 c act g hm
  obtain ⟨c', hc, g', hm'⟩ := g.weakM hm hw
  obtain ⟨c2, s2, h1, h2, h3, h4⟩ := h c0 H0 c' act g' hm'
  exact ⟨c2, s2, h1.trans hc, h2, h3, h4⟩
 | cons k K ih =>
  intro e h
  cases k with
  | seq c =>
   cases e with
   | normal => exact X3t.weak hw h
   | exit i => exact ih _ h
   | ret => exact ih _ h
  | block id =>
   cases e with
   | normal => exact ih _ h
   | ret => exact ih _ h
   | exit i =>
    have h' : X6u id (Xav P nt n0 Q K) (.exit i) s' μ := h
    show X6u id (Xav P nt n0 Q K) (.exit i) s μ
    simp only [X6u] at h' ⊢
    cases hb : Nat.beq i id with
    | true => rw [hb, cond_true] at h'; exact ih _ h'
    | false => rw [hb, cond_false] at h'; exact ih _ h'
  | loop b =>
   cases e with
   | normal => exact hloop h
   | exit i => exact ih _ h
   | ret => exact ih _ h
theorem Xa.weak {P : Program} {nt n0 : Nat} {Q : X0d -> St -> Mu -> Prop} {cf : Cf} {K : List Kn} {μ : Mu} {s s' : St} (hw : Xlp n0 s s') (h : Xa P nt n0 Q cf K s' μ) : Xa P nt n0 Q cf K s μ := by
 cases cf with
 | code c => exact X3t.weak hw h
 | exit e => exact Xav.weak hw K e h
 | ops ops l => exact X47.weak hw h
 | loop b =>
  intro c0 H0 c act g hm R hR
  obtain ⟨c', hc, g', hm'⟩ := g.weakM hm hw
  have := h c0 H0 c' act g' hm' R hR
  rwa [hc] at this
theorem Xav.collapse {P : Program} {nt n0 : Nat} {Q : X0d -> St -> Mu -> Prop} : ∀ (K : List Kn) (e : X0d) (s : St) (μ : Mu), Cl nt n0 (Xav P nt n0 Q K) e s μ -> Xav P nt n0 Q K e s μ := by
 intro K
 induction K with
 | nil =>
  intro e s μ h c0 H0 c act g hm
  obtain ⟨c1, s1, h1, h2, h3, h4⟩ := h c0 H0 c act g hm
  obtain ⟨c2, s2, k1, k2, k3, k4⟩ := h4 c0 H0 c1 act h2 h3
  exact ⟨c2, s2, k1.trans h1, k2, k3, k4⟩
 | cons k K ih =>
  intro e s μ h
  cases k with
  | seq c =>
   cases e with
   | normal =>
    intro c0 H0 cx act g hm
    obtain ⟨c1, s1, h1, h2, h3, h4⟩ := h c0 H0 cx act g hm
    rw [<- h1]
    exact h4 c0 H0 c1 act h2 h3
   | exit i => exact ih (.exit i) s μ h
   | ret => exact ih .ret s μ h
  | block id =>
   cases e with
   | normal => exact ih .normal s μ h
   | ret => exact ih .ret s μ h
   | exit i =>
    show X6u id (Xav P nt n0 Q K) (.exit i) s μ
    have h' : ∀ (c0 : Ctx) (H0 : X0l) (c : Ctx) (act : Act), X33 nt c0 H0 n0 c s act -> MOk n0 c0 c s.H μ act -> ∃ c' s', c'.w = c.w /\ X33 nt c0 H0 n0 c' s' act /\ MOk n0 c0 c' s'.H μ act /\ X6u id (Xav P nt n0 Q K) (.exit i) s' μ := h
    simp only [X6u] at h' ⊢
    cases hb : Nat.beq i id with
    | true => simp only [hb, cond_true] at h' ⊢; exact ih .normal s μ h'
    | false => simp only [hb, cond_false] at h' ⊢; exact ih (.exit i) s μ h'
  | loop b =>
   cases e with
   | normal =>
    intro c0 H0 cx act g hm
    obtain ⟨c1, s1, h1, h2, h3, h4⟩ := h c0 H0 cx act g hm
    rw [<- h1]
    exact h4 c0 H0 c1 act h2 h3
   | exit i => exact ih (.exit i) s μ h
   | ret => exact ih .ret s μ h
theorem MQ.ofCl {nt n0 : Nat} {Q : X0d -> St -> Mu -> Prop} {c0 : Ctx} {H0 : X0l} : ∀ e a w, MQ nt c0 H0 n0 (Cl nt n0 Q) e a w -> MQ nt c0 H0 n0 Q e a w := by
 rintro e a w ⟨c', s', ae, μ', rfl, g', hm', rfl, hq⟩
 obtain ⟨c2, s2, h1, h2, h3, h4⟩ := hq c0 H0 c' a g' hm'
 exact ⟨c2, s2, ae, μ', h1, h2, h3, rfl, h4⟩
theorem Xa.weakTo {P : Program} {nt n0 : Nat} {Q : X0d -> St -> Mu -> Prop} {cf : Cf} {K : List Kn} {μ : Mu} {L L' : List (Nat × AV)} {G G' : List (Nat × Obj)} {n n' : Nat} (θ : List (Nat × Nat)) (h : Xa P nt n0 Q cf K ⟨fr L', hp G', n'⟩ μ)
  (hb : (Xpu θ n0 && Xp4 θ (G'.map (·.1)) && Nat.ble n0 n') = true) (hL : wkL L θ n' L') (hG : wkG G θ n' G') : Xa P nt n0 Q cf K ⟨fr L, hp G, n⟩ μ := Xa.weak (Xna θ hb hL hG) h
theorem Xa.cut {P : Program} {nt n0 : Nat} {Q : X0d -> St -> Mu -> Prop} {cf : Cf} {K : List Kn} {μ : Mu} {s : St} (h : Xa P nt n0 (Xav P nt n0 Q K) cf [] s μ) : Xa P nt n0 Q cf K s μ := by
 cases cf with
 | code c => exact X3t.ofCl h
 | exit e => exact Xav.collapse K e s μ h
 | ops ops l =>
  intro c0 H0 c act g hm Qx hQ
  refine h c0 H0 c act g hm Qx fun c' s' act' μ' g' hm' hk => ?_
  exact hQ c' s' act' μ' g' hm' (Xav.collapse K .normal s' μ' hk)
 | loop b =>
  intro c0 H0 c act g hm R hR bb k cs hro
  obtain ⟨e, a', w', hq, harr⟩ := h c0 H0 c act g hm R hR bb k cs hro
  exact ⟨e, a', w', MQ.ofCl e a' w' hq, harr⟩
theorem Xa.glue {P : Program} {nt n0 : Nat} {Q : X0d -> St -> Mu -> Prop} {e : X0d} {K : List Kn} {μ : Mu} {s : St} (h : Xa P nt n0 Q (.exit e) K s μ) : Xa P nt n0 (Xav P nt n0 Q K) (.exit e) [] s μ := Cl.mk h
theorem Xa.done {P : Program} {nt n0 : Nat} {Q : X0d -> St -> Mu -> Prop} {e : X0d} {μ : Mu} {s : St} (h : Q e s μ) : Xa P nt n0 Q (.exit e) [] s μ := Cl.mk h
def X84 : Code -> List Code
 | .loop b => b :: X84 b
 | .seq a b => X84 a ++ X84 b
 | .block _ c => X84 c
 | .scope c => X84 c
 | .cond _ a b => X84 a ++ X84 b
 | .rangeFunc _ _ a b => X84 a ++ X84 b
 | _ => []
def X7i (i : Nat) (c : Code) : Code := ((X84 c)[i]?).getD .skip
theorem X16.sym {P : Program} {T : Ty} (hT : X7o P T) {f : Nat} {fn : Func} {code : Code} (hfn : X2w P f fn code) {as : List AV} {nt : Nat} {r : AV} (hnt : fn.ntmps = nt)
  (hle : Nat.ble as.length nt = true) (h : Xa P nt 0 (Xnn T fn r) (.code code) [] ⟨fr (argL 0 as), hp [], 0⟩ []) (hok : ∀ a ∈ as, a.Ok (· < 0)) : X16 P f as r := by
 exact X16.of_bodyM hT hfn hnt (by simpa using hle) (X3t.ofCl h)
def Xm0 (T : Ty) (L : List (Nat × AV)) (G : List (Nat × Obj)) : List ResultVar -> Option (List AV)
 | [] => some []
 | .tmp t :: l => match fr L t with
  | .cond _ _ => none
  | a => X9r a fun a => match Xm0 T L G l with
   | some r => some (a :: r)
   | none => none
 | .cell p t :: l => match T t with
  | some ti => match fr L p with
   | .ptr o i k => match hp G o with
    | some y => match y.es[i]? with
     | some e => match Xgz ti e k with
      | some a => X9r a fun a => match Xm0 T L G l with
       | some r => some (a :: r)
       | none => none
      | none => none
     | none => none
    | none => none
   | _ => none
  | none => none
theorem Xhm {T : Ty} {L : List (Nat × AV)} {G : List (Nat × Obj)} {n : Nat} : ∀ (l : List ResultVar) (r : List AV), Xm0 T L G l = some r -> Xau T ⟨fr L, hp G, n⟩ l r := by
 intro l
 induction l with
 | nil => intro r h; simp [Xm0] at h; subst h; exact .nil
 | cons v l ih =>
  intro r h
  cases v with
  | tmp t =>
   simp only [Xm0] at h
   split at h
   ·cases h
   ·rename_i a hne
    rw [X5p] at h
    split at h
    ·rename_i hr
     cases h
     have : X5z (fr L t) = fr L t := by
      cases hq : fr L t with
      | cond g v => exact absurd hq (hne g v)
      | _ => rfl
     have hres : Xpw T ⟨fr L, hp G, n⟩ (.tmp t) (X5z (fr L t)) := .tmp
     rw [this] at hres
     exact .cons hres (ih _ hr)
    ·cases h
  | cell p t =>
   simp only [Xm0] at h
   split at h
   ·rename_i ht
    split at h
    ·rename_i hp1
     split at h
     ·rename_i hH
      split at h
      ·rename_i he
       split at h
       ·rename_i hl
        rw [X5p] at h
        split at h
        ·rename_i hr
         cases h
         refine .cons (.cell ht (e := _) (k := _) ?_ hl) (ih _ hr)
         show Xhe (hp G) (X5z (fr L p)) _ _
         rw [hp1]
         exact .ptr hH he
        ·cases h
       ·cases h
      ·cases h
     ·cases h
    ·cases h
   ·cases h
theorem Xa.inline {P : Program} {T : Ty} {nt n0 nt' f : Nat} {Q : X0d -> St -> Mu -> Prop} {ops : Array Oper} {l : List Oper} {o : Oper} {K : List Kn} {L : List (Nat × AV)} {G : List (Nat × Obj)} {n : Nat} {μ : Mu} {x : Operand} {args : Array Operand} {ts : Array Nat}
  {caps as : List AV} {fn : Func} {code : Code} (hT : X7o P T) (hfn : X2w P f fn code) (ho : o.op = .call { callee := .value x, args := args, argTypes := ts }) (hg : o.guard = none) (hd : Xbb nt o.dst = true) {qx qa : List Prop} (hx : rd L x = (.fn f caps, qx)) (ha : rds L args.toList = (as, qa)) (hpx : X3q qx) (hpa : X3q qa)
  (hnt : fn.ntmps = nt') (hle : Nat.ble (as ++ caps).length nt' = true)
  (h : Xa P nt' n (Xp0 T fn fun r H' n' => Xa P nt n0 Q (.ops ops l) K ⟨X81 (fr L) o.dst r, H', n'⟩ μ) (.code code) [] ⟨fr (Av.argL 0 (as ++ caps)), hp G, n⟩ []) : Xa P nt n0 Q (.ops ops (o :: l)) K ⟨fr L, hp G, n⟩ μ := by
 refine X47.plain (s := ⟨fr L, hp G, n⟩) hg (X4v hd) (OpR.call (s := ⟨fr L, hp G, n⟩) ho (X13 hx hpx) ?_) (fun a H' n' hr => hr)
 rw [Xcd ha hpa]
 exact HC.of_bodyM hT hfn hnt (by simpa using hle) (X3t.ofCl h)
theorem Xa.back {P : Program} {T : Ty} {nt n0 nt' n1 : Nat} {fn : Func} {Q : X0d -> St -> Mu -> Prop} {ops : Array Oper} {l : List Oper} {d : Option Nat} {K : List Kn} {L L1 : List (Nat × AV)} {G : List (Nat × Obj)} {n : Nat} {μ μ1 : Mu} {rs : List AV} {e : X0d} (he : ∀ id, e ≠ .exit id)
  (hr : Xm0 T L1 G fn.results.toList = some rs) (h : Xa P nt n0 Q (.ops ops l) K ⟨fr (Xm2 d (X9l rs) L), hp G, n⟩ μ) :
  Xa P nt' n1 (Xp0 T fn fun r H' n' => Xa P nt n0 Q (.ops ops l) K ⟨X81 (fr L) d r, H', n'⟩ μ) (.exit e) [] ⟨fr L1, hp G, n⟩ μ1 := by
 refine Cl.mk ?_
 have hk : ∃ rs, Xau T ⟨fr L1, hp G, n⟩ fn.results.toList rs /\ Xa P nt n0 Q (.ops ops l) K ⟨X81 (fr L) d (X9l rs), hp G, n⟩ μ := ⟨rs, Xhm _ _ hr, by rw [<- X4y]; exact h⟩
 cases e with
 | exit id => exact absurd rfl (he id)
 | normal => exact hk
 | ret => exact hk
theorem Xow.sym {P : Program} {T : Ty} (hT : X7o P T) {f : Nat} {fn : Func} {code : Code} (hfn : X2w P f fn code) {as : List AV} {nt : Nat} {r : AV} {G G' : List (Nat × Obj)} {n n' : Nat} (hnt : fn.ntmps = nt) (hle : Nat.ble as.length nt = true)
  (h : Xa P nt n (Xp0 T fn fun r2 H2 n2 => r2 = r /\ H2 = hp G' /\ n2 = n') (.code code) [] ⟨fr (Av.argL 0 as), hp G, n⟩ []) : Xow P f as G n r G' n' :=
 ⟨HC.of_bodyM hT hfn hnt (by simpa using hle) (X3t.ofCl h)⟩
theorem Xa.fin {P : Program} {T : Ty} {nt n0 : Nat} {fn : Func} {r : AV} {L : List (Nat × AV)} {G : List (Nat × Obj)} {n : Nat} {μ : Mu} {rs : List AV} {e : X0d} (he : ∀ id, e ≠ .exit id) (hr : Xm0 T L G fn.results.toList = some rs) (hc : X9l rs = r) :
  Xa P nt n0 (Xp0 T fn fun r2 H2 n2 => r2 = r /\ H2 = hp G /\ n2 = n) (.exit e) [] ⟨fr L, hp G, n⟩ μ := by
 refine Cl.mk ?_
 have hk : ∃ rs, Xau T ⟨fr L, hp G, n⟩ fn.results.toList rs /\ (X9l rs = r /\ hp G = hp G /\ n = n) := ⟨rs, Xhm _ _ hr, hc, rfl, rfl⟩
 cases e with
 | exit id => exact absurd rfl (he id)
 | normal => exact hk
 | ret => exact hk
theorem X8 {P : Program} {T : Ty} {nt n0 : Nat} {fn : Func} {r : AV} {L : List (Nat × AV)} {G : List (Nat × Obj)} {n : Nat} {μ : Mu} {rs : List AV} (hr : Xm0 T L G fn.results.toList = some rs) (hc : Cv true (hp G) (X9l rs) r) :
  Xa P nt n0 (Xnn T fn r) (.exit .ret) [] ⟨fr L, hp G, n⟩ μ := Cl.mk ⟨rs, Xhm _ _ hr, hc⟩
end Go.Av


namespace Go.Av
def X8j (e : AV) : Prop := ∀ a ∈ e.cells, ∃ v, a = .sc v
theorem X4 {H : X0l} {own : Bool} {es : List AV} (h : ∀ e ∈ es, X8j e) : Cv false H (.list own es) (.list false es) := by
 refine .listD rfl rfl (fun i e e' he he' => by rw [he] at he'; cases he'; rfl) (fun i e e' k a b he he' ha hb => ?_)
 rw [he] at he'; cases he'
 rw [ha] at hb; cases hb
 obtain ⟨v, rfl⟩ := h e (List.mem_of_getElem? he) a (List.mem_of_getElem? ha)
 exact .sc
theorem X1b {m : Bool} {H : X0l} {o n : Nat} {x : Obj} {es : List AV} (hH : H o = some x) (he : x.es = es) (hn : n = es.length) (h : ∀ e ∈ es, X8j e) : Cv m H (.ref o 0 n) (.list m es) := by
 subst he hn
 refine .ref hH (by omega) rfl (fun i e e' he he' => ?_) (fun i e e' k a b he he' ha hb => ?_)
 ·rw [Nat.zero_add] at he; rw [he] at he'; cases he'; rfl
 ·rw [Nat.zero_add] at he; rw [he] at he'; cases he'
  rw [ha] at hb; cases hb
  obtain ⟨v, rfl⟩ := h e (List.mem_of_getElem? he) a (List.mem_of_getElem? ha)
  exact .sc
theorem Cvs.nil {m : Bool} {H : X0l} : Cvs m H [] [] := ⟨rfl, fun i a b h => by simp at h⟩
theorem Cvs.cons {m : Bool} {H : X0l} {a b : AV} {as bs : List AV} (h : Cv m H a b) (hs : Cvs m H as bs) : Cvs m H (a :: as) (b :: bs) := by
 refine ⟨by simp [hs.len], fun i x y hx hy => ?_⟩
 cases i with
 | zero => simp at hx hy; subst hx hy; exact h
 | succ i => simp at hx hy; exact hs.rel i x y hx hy
theorem X22.none {P : Program} {f : Nat} {H : X0l} {as bs : List AV} {r : AV} (hp : X16 P f bs r) (h : Cvs false (fun _ => none) as bs) : X22 P f H as bs r :=
 ⟨hp, fun _ => .none, h, (fun _ _ h => by cases h), .inr fun _ => rfl⟩
theorem X22.lent {P : Program} {f : Nat} {H : X0l} {as bs : List AV} {r : AV} (hp : X16 P f bs r) (h : Cvs false H as bs) (hr : Xfh r) : X22 P f H as bs r :=
 ⟨hp, H, h, fun _ _ h => h, .inl hr⟩
theorem Xx {es : List AV} (h : ∀ e ∈ es, X8j e) : Xfh (.list true es) :=
 .list fun e he a ha => by obtain ⟨v, rfl⟩ := h e he a ha; exact .sc
theorem wrap_i64 {z : Int} (h1 : -9223372036854775808 <= z) (h2 : z <= 9223372036854775807) : IntKind.i64.wrap z = z := IntWalk.i64_in z ⟨h1, h2⟩
theorem Xpq {α : Type} {enc : α -> AV} {l : List α} {k : Nat} {x : α} (h : l[k]? = some x) : (l.map enc)[((k : Nat) : Int).toNat]? = some (enc x) := by
 rw [Int.toNat_natCast, List.getElem?_map, h]; rfl
def Xcm (e : AV) : Prop := ∀ θ, e.ren θ = e
theorem X1 {es : List AV} (h : ∀ e ∈ es, Xcm e) (θ : Nat -> Nat) : es = es.map (AV.ren θ) := by
 conv => lhs; rw [<- List.map_id es]
 exact List.map_congr_left fun e he => (h e he θ).symm
theorem X08 {p : AV -> Prop} : ∀ e ∈ ([] : List AV), p e := fun _ h => by cases h
theorem X6 {p : AV -> Prop} {a : AV} {l : List AV} (h : p a) (hl : ∀ e ∈ l, p e) : ∀ e ∈ a :: l, p e := fun e he => by
 rcases List.mem_cons.1 he with h1 | h1
 ·rw [h1]; exact h
 ·exact hl e h1
theorem X06 {v : Value} : X8j (.sc v) := fun a ha => ⟨v, List.mem_singleton.1 ha⟩
theorem X61 {v : Value} : Xcm (.sc v) := fun _ => rfl
theorem X04 {m : Bool} {H : X0l} {as bs : List AV} (h : Cvs m H as bs) : Cv m H (.tup as) (.tup bs) := .tup h.len h.rel
end Go.Av


namespace Go.D
def X98 {α : Type} (l : List α) (i : Int) : Option α := if 0 <= i then l[i.toNat]? else none
def Xdr {α : Type} (l : List α) (a b : Int) : Option (List α) := if 0 <= a /\ a <= b /\ b.toNat <= l.length then some ((l.drop a.toNat).take (b.toNat - a.toNat)) else none
def X50 (n b : Nat) : Option Unit := if n * b <= 140737488355328 then some () else none
def X7j (n : Nat) : Option Unit := if n <= 140737488355328 then some () else none
def Xon (b : Int) : Option Unit := if b ≠ 0 then some () else none
def Xps {α : Type} (l : List α) (i : Int) (x : α) (b : Nat) : Option (List α) := if 0 <= i /\ i.toNat < l.length /\ (l.length + 1) * b <= 140737488355328 then some (l.take i.toNat ++ x :: l.drop i.toNat) else none
def Xqr (l : List Nat) : ByteArray := ⟨(l.map UInt8.ofNat).toArray⟩
def FU : Nat := 100000
structure V2 (α : Type) where
 e0 : α
 e1 : α
 deriving DecidableEq, Inhabited
end Go.D
namespace Go.Av
open Go.D
abbrev aI (k : IntKind) (z : Int) : AV := .sc (.int k z)
abbrev aB (b : Bool) : AV := .sc (.bool b)
theorem brE {α : Type} {c : Bool} {a b : Option α} {r : α} {G : Prop} (h : (bif c then a else b) = some r) (h1 : c = true -> a = some r -> G) (h2 : c = false -> b = some r -> G) : G := by
 cases c with
 | true => exact h1 rfl h
 | false => exact h2 rfl h
theorem X3 {α β : Type} {x : Option α} {f : α -> Option β} {r : β} {G : Prop} (h : x.bind f = some r) (k : ∀ v, x = some v -> f v = some r -> G) : G := by
 cases x with
 | none => cases h
 | some v => exact k v rfl h
theorem X6z {α : Type} {l : List α} {i : Int} {x : α} (h : X98 l i = some x) : 0 <= i := by
 unfold X98 at h; split at h
 ·assumption
 ·cases h
theorem Xda {α : Type} {l : List α} {i : Int} {x : α} (h : X98 l i = some x) : l[i.toNat]? = some x := by
 unfold X98 at h; split at h
 ·exact h
 ·cases h
theorem Xg4 {α : Type} {l : List α} {i : Int} {x : α} {f : α -> AV} (h : X98 l i = some x) : (l.map f)[i.toNat]? = some (f x) := by
 rw [List.getElem?_map, Xda h]; rfl
theorem Xh3 {α : Type} {l : List α} {i : Int} {x : α} {f : α -> AV} (h : X98 l i = some x) : (l.map f)[0 + i.toNat]? = some (f x) := by
 rw [Nat.zero_add]; exact Xg4 h
theorem X18 {α : Type} {l : List α} {i : Int} {x : α} (h : X98 l i = some x) : i < (l.length : Int) := by
 have h1 := X6z h
 have h2 := (List.getElem?_eq_some_iff.1 (Xda h)).1
 omega
theorem Xa7 {α : Type} {l : List α} {i : Int} {x : α} (h : X98 l i = some x) : i.toNat < l.length := (List.getElem?_eq_some_iff.1 (Xda h)).1
theorem X20 {α : Type} {l xs : List α} {k : Nat} {x : α} (h : l.drop k = x :: xs) : k < l.length /\ l[k]? = some x /\ l.drop (k + 1) = xs := by
 have hk : k < l.length := by
  rcases Nat.lt_or_ge k l.length with h1 | h1
  ·exact h1
  ·rw [List.drop_of_length_le h1] at h; cases h
 rw [List.drop_eq_getElem_cons hk] at h
 injection h with h1 h2
 exact ⟨hk, by rw [List.getElem?_eq_getElem hk, h1], h2⟩
theorem X2m {α : Type} {l : List α} {k : Nat} (h : l.drop k = []) : l.length <= k := by
 simpa using h
theorem ixm {α : Type} {l : List α} {k : Nat} {x : α} {f : α -> AV} (h : l[k]? = some x) : (l.map f)[((k : Nat) : Int).toNat]? = some (f x) := Xpq h
theorem Xix {n b : Nat} {u : Unit} (h : X50 n b = some u) : n * b <= 140737488355328 := by
 unfold X50 at h; split at h
 ·assumption
 ·cases h
theorem X1w {n : Nat} {u : Unit} (h : X7j n = some u) : n <= 140737488355328 := by
 unfold X7j at h; split at h
 ·assumption
 ·cases h
theorem Xml {b : Int} {u : Unit} (h : Xon b = some u) : b ≠ 0 := by
 unfold Xon at h; split at h
 ·assumption
 ·cases h
theorem X3o {α : Type} {l m : List α} {a b : Int} (h : Xdr l a b = some m) : 0 <= a /\ a <= b /\ b.toNat <= l.length /\ m = (l.drop a.toNat).take (b.toNat - a.toNat) := by
 unfold Xdr at h; split at h
 ·rename_i hc; cases h; exact ⟨hc.1, hc.2.1, hc.2.2, rfl⟩
 ·cases h
theorem Xof {α : Type} {l m : List α} {i : Int} {x : α} {b : Nat} (h : Xps l i x b = some m) : 0 <= i /\ i.toNat < l.length /\ (l.length + 1) * b <= 140737488355328 /\ m = l.take i.toNat ++ x :: l.drop i.toNat := by
 unfold Xps at h; split at h
 ·rename_i hc; cases h; exact ⟨hc.1, hc.2.1, hc.2.2, rfl⟩
 ·cases h
theorem X89 {α : Type} {l m : List α} {a b : Int} (h : Xdr l a b = some m) : b.toNat - a.toNat = m.length := by
 obtain ⟨h1, h2, h3, rfl⟩ := X3o h
 simp; omega
theorem X88 {α : Type} {m : List α} {a b : Int} (h : Xdr ([] : List α) a b = some m) : m = [] := by
 obtain ⟨h1, h2, h3, rfl⟩ := X3o h
 simp
theorem X30 {α : Type} {m : List α} (h : List.isEmpty m = true) : m.length = 0 := by
 rw [List.isEmpty_iff.1 h]; rfl
theorem X11 {α : Type} {m : List α} (h : List.isEmpty m = false) : 0 < m.length := by
 cases m with
 | nil => cases h
 | cons a m => simp
theorem Xbo {α : Type} {l m : List α} {off n : Nat} {i : Int} {x : α} {f : α -> AV} (q : m = (l.drop off).take n) (h : X98 m i = some x) : (l.map f)[off + i.toNat]? = some (f x) := by
 have h1 := Xda h
 rw [q, List.getElem?_take] at h1
 split at h1
 ·rw [List.getElem?_drop] at h1
  rw [List.getElem?_map, h1]; rfl
 ·cases h1
theorem X71 {α : Type} {l m : List α} {n : Nat} {f : α -> AV} (q : m = (l.drop 0).take n) : ∃ k, m.map f = (l.map f).take k := ⟨n, by rw [q]; simp [List.map_take]⟩
theorem Xmq {α : Type} {f : α -> AV} {n : Nat} (h : ∀ x, (f x).cells.length = n) (l : List α) : ∀ e ∈ l.map f, e.cells.length = n := by
 intro e he
 obtain ⟨x, _, rfl⟩ := List.mem_map.1 he
 exact h x
theorem X0 {α : Type} {f : α -> AV} (h : ∀ x, X8j (f x)) (l : List α) : ∀ e ∈ l.map f, X8j e := by
 intro e he
 obtain ⟨x, _, rfl⟩ := List.mem_map.1 he
 exact h x
theorem X5 {α : Type} {f : α -> AV} (h : ∀ x, Xcm (f x)) (l : List α) : ∀ e ∈ l.map f, Xcm e := by
 intro e he
 obtain ⟨x, _, rfl⟩ := List.mem_map.1 he
 exact h x
def X94 (e : AV) : Prop := ∀ M : Nat -> Prop, e.Ok M /\ ∀ a ∈ e.cells, a.Ok M
theorem X2f {α : Type} {f : α -> AV} (h : ∀ x, X94 (f x)) (l : List α) (M : Nat -> Prop) : ∀ e ∈ l.map f, ∀ a ∈ e.cells, a.Ok M := by
 intro e he
 obtain ⟨x, _, rfl⟩ := List.mem_map.1 he
 exact (h x M).2
theorem X42 {e : AV} (h : X8j e) (hw : e.whole = true) : X94 e := fun M => by
 have h2 : ∀ a ∈ e.cells, a.Ok M := fun a ha => by obtain ⟨v, rfl⟩ := h a ha; exact .sc
 refine ⟨?_, h2⟩
 cases e with
 | agg cs => exact .agg h2
 | _ => first | exact h2 _ (List.mem_singleton.2 rfl)
theorem Xrb {i n m : Nat} (h : n = m) : [AV.ref i 0 n] = [AV.ref i 0 m] := h ▸ rfl
def Nb {α : Type} (l : List α) : Type := { b : Bool // b = true -> l = [] }
def nbF {α : Type} {l : List α} : Nb l := ⟨false, fun h => by cases h⟩
def nbT {α : Type} {l : List α} (h : l = []) : Nb l := ⟨true, fun _ => h⟩
def slE (nb : Bool) (id : Nat) (es : List AV) : AV := bif nb then .nils else .ref id 0 es.length
def opE (nb : Bool) (id esz : Nat) (es : List AV) : List (Nat × Obj) := bif nb then [] else [(id, { es := es, esz := esz })]
theorem Xa.joinF {P : Program} {nt n0 : Nat} {Q : X0d -> St -> Mu -> Prop} {cf : Cf} {K : List Kn} {μ : Mu} {s : St} {ι : Type} (s' : ι -> St) (h1 : ∀ i, Xa P nt n0 Q (.exit .normal) K (s' i) μ)
  (h2 : (∀ i, Xa P nt n0 Q (.exit .normal) K (s' i) μ) -> Xa P nt n0 Q cf K s μ) : Xa P nt n0 Q cf K s μ := h2 h1
theorem Xa.joinOpF {P : Program} {nt n0 : Nat} {Q : X0d -> St -> Mu -> Prop} {ops : Array Oper} {o : Oper} {l : List Oper} {K : List Kn} {μ : Mu} {s : St} {ι : Type} (s' : ι -> St) (h1 : ∀ i, Xa P nt n0 Q (.ops ops l) K (s' i) μ)
  (h2 : (∀ i, Xa P nt n0 Q (.ops ops l) K (s' i) μ) -> Xa P nt n0 Q (.ops ops (o :: l)) K s μ) : Xa P nt n0 Q (.ops ops (o :: l)) K s μ := h2 h1
theorem Xa.join {P : Program} {nt n0 : Nat} {Q : X0d -> St -> Mu -> Prop} {cf : Cf} {K : List Kn} {μ : Mu} {s s' : St} (h1 : Xa P nt n0 Q (.exit .normal) K s' μ)
  (h2 : Xa P nt n0 Q (.exit .normal) K s' μ -> Xa P nt n0 Q cf K s μ) : Xa P nt n0 Q cf K s μ := h2 h1
theorem Xa.joinOp {P : Program} {nt n0 : Nat} {Q : X0d -> St -> Mu -> Prop} {ops : Array Oper} {o : Oper} {l : List Oper} {K : List Kn} {μ : Mu} {s s' : St} (h1 : Xa P nt n0 Q (.ops ops l) K s' μ)
  (h2 : Xa P nt n0 Q (.ops ops l) K s' μ -> Xa P nt n0 Q (.ops ops (o :: l)) K s μ) : Xa P nt n0 Q (.ops ops (o :: l)) K s μ := h2 h1
theorem X1x {v : Value} {P : List AV} (h : ∀ a ∈ P, ∃ v, a = .sc v) : ∀ a ∈ (.sc v :: P), ∃ v, a = .sc v := fun a ha => by
 rcases List.mem_cons.1 ha with rfl | ha
 ·exact ⟨_, rfl⟩
 ·exact h a ha
theorem Xd3 : ∀ a ∈ ([] : List AV), ∃ v, a = .sc v := fun _ h => by cases h
theorem Xl7 {v : Value} : X94 (.sc v) := fun _ => ⟨.sc, fun a ha => by rw [List.mem_singleton.1 ha]; exact .sc⟩
theorem Xiq {cs : List AV} (h : ∀ M : Nat -> Prop, ∀ a ∈ cs, a.Ok M) : X94 (.agg cs) := fun M => ⟨.agg (h M), h M⟩
theorem X2e {e : AV} (h : X94 e) (M : Nat -> Prop) : ∀ e' ∈ [e], ∀ a ∈ e'.cells, a.Ok M := fun e' he => by rw [List.mem_singleton.1 he]; exact (h M).2
def Xt8 {α : Type} (o : Bool) (f : α -> AV) (l : List α) : AV := .list o (l.map f)
theorem Xe0 {α : Type} {o : Bool} {f : α -> AV} {l : List α} : X94 (Xt8 o f l) := fun _ => ⟨.list, fun a ha => by rw [List.mem_singleton.1 ha]; exact .list⟩
theorem X9u {m : Bool} {H : X0l} {e : AV} (h : X8j e) (hw : e.whole = true := by rfl) : Cv m H e e := by
 cases e with
 | agg cs =>
  refine .agg rfl fun i a b ha hb => ?_
  rw [ha] at hb; cases hb
  obtain ⟨v, rfl⟩ := h a (List.mem_of_getElem? ha)
  exact .sc
 | sc v => exact .sc
 | _ => obtain ⟨v, hv⟩ := h _ (List.mem_singleton.2 rfl); cases hv
theorem Xae {l : List AV} (h : ∀ a ∈ l, Xfh a) : Xfh (.tup l) := .tup h
theorem X0i {m : Bool} {H : X0l} {as bs : List AV} (h : Cvs m H as bs) : Cv m H (.agg as) (.agg bs) := .agg h.len h.rel
theorem Xu {m : Bool} {H : X0l} {es : List AV} (h : es = []) : Cv m H .nils (.list m es) := by rw [h]; exact .nils
theorem Xiy {b : Bool} {P : Prop} (h : b = false) : b = true -> P := fun a => Bool.noConfusion (a.symm.trans h)
theorem Xaa {b : Bool} {P : Prop} (h : b = true) : (!b) = true -> P := fun a => by rw [h] at a; cases a
theorem X2p {m n b c : Nat} {u : Unit} (h : X50 n c = some u) (hb : b = c) (hm : m = n) : m * b <= 140737488355328 := by subst hb hm; exact Xix h
theorem X1e {m n c : Nat} {u : Unit} (h : X50 n c = some u) (hc : 0 < c) (hm : m = n) : m <= maxLen := by
 subst hm
 have := Xix h
 have h2 : m * 1 <= m * c := Nat.mul_le_mul_left _ hc
 unfold maxLen; omega
theorem Xy {c x y b : Bool} (h : c = true) (hx : x = b) : (bif c then x else y) = b := by rw [h]; exact hx
theorem X1s {c x y b : Bool} (h : c = false) (hy : y = b) : (bif c then x else y) = b := by rw [h]; exact hy
theorem Xq9 {c : Bool} (h : c = true) : (!c) = false := by rw [h]; rfl
theorem Xqa {c : Bool} (h : c = false) : (!c) = true := by rw [h]; rfl
theorem X0o {c b : Bool} (h : c = b) : (!c) = !b := by rw [h]
theorem Xe8 {m : Bool} {H : X0l} {u v : Value} (h : u = v) : Cv m H (.sc u) (.sc v) := by rw [h]; exact .sc
theorem Xkp {f : Nat} {M : Nat -> Prop} : (AV.fn f []).Ok M := .fn fun _ h => by cases h
theorem X00 {P : Prop} (h : P := by
 first
  | exact trivial
  | exact fun h => h
  | rfl
  | assumption
  | (apply X6z; assumption; done)
  | (apply Xg4; assumption; done)
  | (apply Xh3; assumption; done)
  | (apply ixm; assumption; done)
  | (apply ixm0; assumption; done)
  | (apply getI_mapc; assumption; done)
  | (apply getI_mapc0; assumption; done)
  | (apply ixmc; assumption; done)
  | (apply ixmc0; assumption; done)
  | (apply Xml; assumption; done)
  | (apply shOk_le; assumption; done)
  | (intro a; rw [a]; done)
  | (intro a; rw [a]; rfl)
  | exact wrap_i64 (by omega) (by omega)
  | (refine Xmq ?_ _; intro x; rfl)
  | exact ex_head rfl
  | (refine cell_len_td ?_ _ _ _; intro x; rfl)
  | (refine cell_len_c ?_ _ _; intro x; rfl)
  | (refine take_full ?_; first | rfl | (simp; done) | (simp; omega) | (simp [*]; done))
  | exact Nat.le_of_ble_eq_true rfl
  | (exact decide_eq_true (by omega))
  | (exact decide_eq_false (by omega))
  | (simp only [maxLen, List.length_append, List.length_map, List.length_cons, List.length_nil, List.length_replicate, Int.toNat_natCast]; done)
  | (simp only [maxLen, List.length_append, List.length_map, List.length_cons, List.length_nil, List.length_replicate, Int.toNat_natCast] at *; omega)
  | (simp only [List.length_map]; first | done | assumption | rfl)
  | (simp only [List.length_map]; first | (apply X6z; assumption; done) | (apply Xg4; assumption; done) | (apply Xh3; assumption; done) | (apply getI_mapc; assumption; done) | (apply getI_mapc0; assumption; done))
  | (refine congrArg (fun z => AV.sc (Value.int IntKind.i64 z)) ?_; simp only [List.length_map, List.length_cons, List.length_append]; done)
  | (refine congrArg (fun z => AV.sc (Value.int IntKind.i64 z)) ?_; first | (simp; done) | (simp; omega) | (simp [*]; done))
  | (intro e he; rw [List.mem_singleton.1 he]; rfl)
  | exact andL
  | exact andR
  | (refine Xq9 ?_; assumption)
  | (refine Xqa ?_; assumption)
  | (refine Xiy ?_; assumption)
  | (refine Xaa ?_; assumption)
  | omega
  | (simp; done)
  | (simp [*]; done)
  | (intros; simp_all; done)) : P := h
end Go.Av


namespace Go.Av
theorem Xib {P : Program} {t et : Nat} {p : Option Addr} {n m : Nat} (hu : P.underlying t = some (.slice et)) (w : World) (d : Nat) :
  (Op.equalIn (d + 1) t (.slice p n m) (.slice none 0 0)).run P w = .ok p.isNone w := by
 unfold Op.equalIn
 rw [Sem.run_bind, run_underlying hu w]
 cases p <;> rfl
theorem Xgr {P : Program} {t : Nat} {et : Nat} {x : Operand} {p : Option Addr} {n m : Nat} (hu : P.underlying t = some (.slice et)) (w : World) (y : Operand) :
  ((do eqGuard .eql t x y (.slice p n m) (.slice none 0 0); binOp .eql t (.slice p n m) (.slice none 0 0) : Sem Value)).run P w = .ok (.bool p.isNone) w := by
 have h1 : (eqGuard .eql t x y (.slice p n m) (.slice none 0 0)).run P w = .ok () w := rfl
 have h2 : (binOp .eql t (.slice p n m) (.slice none 0 0)) = (do pure (.bool (<- Op.equalIn (9999 + 1) t (.slice p n m) (.slice none 0 0))) : Sem Value) := rfl
 rw [Sem.run_bind, h1, Result.andThen_ok, h2, Sem.run_bind, Xib hu w 9999]
 rfl
def X4k : AV -> Option Bool
 | .list _ es => some es.isEmpty
 | .nils => some true
 | .ref _ _ _ => some false
 | _ => none
theorem Xkq {c : Ctx} {a : AV} {v : Value} {b : Bool} (h : X15 c false a v) (hn : X4k a = some b) : ∃ p n m, v = .slice p n m /\ (b = false -> p.isNone = false) := by
 cases h with
 | listNil => simp [X4k] at hn; subst hn; exact ⟨_, _, _, rfl, fun h => by cases h⟩
 | list vf hne =>
  rename_i es b off cap esz n hS hn' hcap hsz hcell h1 h
  exact ⟨_, _, _, rfl, fun _ => rfl⟩
 | nils => simp [X4k] at hn; subst hn; exact ⟨_, _, _, rfl, fun h => by cases h⟩
 | ref => exact ⟨_, _, _, rfl, fun _ => rfl⟩
 | _ => cases hn
theorem Xa.eqNil {P : Program} {T : Ty} {nt n0 : Nat} {Q : X0d -> St -> Mu -> Prop} {ops : Array Oper} {l : List Oper} {o : Oper} {K : List Kn} {L : List (Nat × AV)} {G : List (Nat × Obj)} {n : Nat} {μ : Mu} {t yt : Nat} {x : Operand} {ti : TI} {et : Nat}
  {a : AV} {q : List Prop} {may : Bool} (hT : X7o P T) (ho : o.op = .binOp .eql t x (.const (.slice none 0 0)) yt) (hg : o.guard = none) (hd : Xbb nt o.dst = true) (ht : T t = some ti) (hk : ti.kind = .slice et) (hx : rd L x = (a, q)) (hq : X3q q)
  (hm : X4k a = some may) (h : ∀ b : Bool, (may = false -> b = false) -> Xa P nt n0 Q (.ops ops l) K ⟨fr (Xm2 o.dst (.sc (.bool b)) L), hp G, n⟩ μ) : Xa P nt n0 Q (.ops ops (o :: l)) K ⟨fr L, hp G, n⟩ μ := by
 refine X47.plain (s := ⟨fr L, hp G, n⟩) hg (X4v hd) (R := fun a' H' n' => (∃ b : Bool, (may = false -> b = false) /\ a' = .sc (.bool b)) /\ H' = hp G /\ n' = n) ?_ ?_
 ·intro c0 H0 n0' c act g K' Q' hK R
  have hv := g.ev x
  rw [show evA (St.A ⟨fr L, hp G, n⟩) x = a from X13 hx hq] at hv
  obtain ⟨p, m1, m2, hv', hp'⟩ := Xkq hv hm
  refine Oper.wpR (fun d hd => by rw [hd] at ho; cases ho) ?_
  unfold Oper.wp
  have hr : (execOp act.eval o).run P c.w = .ok (.value (.bool p.isNone)) c.w := by
   obtain ⟨dst, op, type, pos, after, guard⟩ := o
   simp only at ho
   subst ho
   have := Xgr (P := P) (t := t) (x := x) (p := p) (n := m1) (m := m2) (X2o (hT t ti ht) hk) c.w (.const (.slice none 0 0))
   have hc : act.eval (.const (.slice none 0 0)) = .slice none 0 0 := rfl
   simp only [execOp, hv', hc]
   rw [Sem.run_bind, this]; rfl
  rw [hr]
  exact hK c (.sc (.bool p.isNone)) (hp G) n (.bool p.isNone) ⟨⟨_, hp', rfl⟩, rfl, rfl⟩ fun dst hd => g.next hd (.refl c) rfl (fun b hb => .inl hb) (.refl c (hp G)) (fun q x hx => .inr ⟨q, x, hx, rfl⟩) g.inv g.solo (Nat.le_refl _) .sc .sc
 ·rintro a' H' n' ⟨⟨b, hb, rfl⟩, rfl, rfl⟩
  have := h b hb
  rw [X4y] at this
  exact this
theorem Xa.inlineG {P : Program} {T : Ty} {nt n0 nt' f j t : Nat} {want g : Bool} {Q : X0d -> St -> Mu -> Prop} {ops : Array Oper} {l : List Oper} {o : Oper} {K : List Kn} {L : List (Nat × AV)} {G : List (Nat × Obj)} {n : Nat} {μ : Mu} {x : Operand} {args : Array Operand} {ts : Array Nat}
  {caps as : List AV} {fn : Func} {code : Code} (hT : X7o P T) (hfn : X2w P f fn code) (ho : o.op = .call { callee := .value x, args := args, argTypes := ts }) (hg : o.guard = some (j, want)) (hj : (ops[j]?).bind (·.dst) = some t) (ht : Nat.blt t nt = true) (hgd : gdS want (fr L t) = some g)
  (hd : Xbb nt o.dst = true) {qx qa : List Prop} (hx : rd L x = (.fn f caps, qx)) (ha : rds L args.toList = (as, qa)) (hnt : fn.ntmps = nt') (hle : Nat.ble (as ++ caps).length nt' = true) (hgt : g = true) (hpx : X3q qx) (hpa : X3q qa)
  (h : Xa P nt' n (Xp0 T fn fun r H' n' => Xa P nt n0 Q (.ops ops l) K ⟨X81 (fr L) o.dst r, H', n'⟩ μ) (.code code) [] ⟨fr (Av.argL 0 (as ++ caps)), hp G, n⟩ []) : Xa P nt n0 Q (.ops ops (o :: l)) K ⟨fr L, hp G, n⟩ μ := by
 subst hgt
 refine X47.step (s := ⟨fr L, hp G, n⟩) (fun c0 c H0 act gd => X9e (s := ⟨fr L, hp G, n⟩) hg hj ht hgd gd) (X4v hd) (OpR.call (s := ⟨fr L, hp G, n⟩) ho (X13 hx hpx) ?_) (fun a H' n' hr => hr)
 rw [Xcd ha hpa]
 exact HC.of_bodyM hT hfn hnt (by simpa using hle) (X3t.ofCl h)
end Go.Av


namespace Go.Av
open MapKept
noncomputable def Xj4 (k v : Value) : List (Value × Value) -> List (Value × Value)
 | [] => [(k, v)]
 | (a, b) :: r => open Classical in if a = k then (k, v) :: r else (a, b) :: Xj4 k v r
noncomputable def Xp5 (k : Value) : List (Value × Value) -> Option Value
 | [] => none
 | (a, b) :: r => open Classical in if a = k then some b else Xp5 k r
theorem Xnd {k v : Value} : ∀ (l : List (Value × Value)) (j : Nat) (p : Value × Value), l[j]? = some p -> p.1 = k -> (∀ i q, i < j -> l[i]? = some q -> q.1 ≠ k) -> Xj4 k v l = l.set j (k, v) /\ Xp5 k l = some p.2 := by
 intro l
 induction l with
 | nil => intro j p h; simp at h
 | cons a r ih =>
  obtain ⟨a1, a2⟩ := a
  intro j p h hk hn
  cases j with
  | zero => simp at h; subst h; simp only at hk; simp [Xj4, Xp5, hk]
  | succ j =>
   have h0 : a1 ≠ k := hn 0 (a1, a2) (Nat.succ_pos j) rfl
   obtain ⟨h1, h2⟩ := ih j p (by simpa using h) hk (fun i q hi hq => hn (i + 1) q (Nat.succ_lt_succ hi) (by simpa using hq))
   simp [Xj4, Xp5, h0, h1, h2]
theorem Xlz {k v : Value} : ∀ (l : List (Value × Value)), (∀ q ∈ l, q.1 ≠ k) -> Xj4 k v l = l ++ [(k, v)] /\ Xp5 k l = none := by
 intro l
 induction l with
 | nil => intro _; exact ⟨rfl, rfl⟩
 | cons a r ih =>
  obtain ⟨a1, a2⟩ := a
  intro hn
  have h0 : a1 ≠ k := hn (a1, a2) (by simp)
  obtain ⟨h1, h2⟩ := ih (fun q hq => hn q (List.mem_cons_of_mem _ hq))
  simp [Xj4, Xp5, h0, h1, h2]
theorem Xg6 {d : TypeDesc} {k : Value} (hk : IsKey d k) : ∀ (l : List MapEntry) (i : Nat), (∀ x ∈ l, IsKey d x.key) ->
  (Instr.findNow d k l i = some none /\ ∀ x ∈ l, x.key ≠ k) \/ ∃ j e, Instr.findNow d k l i = some (some (i + j, e.val)) /\ l[j]? = some e /\ e.key = k /\ ∀ m x, m < j -> l[m]? = some x -> x.key ≠ k := by
 intro l
 induction l with
 | nil => intro i _; exact .inl ⟨rfl, by simp⟩
 | cons e es ih =>
  intro i h
  obtain ⟨r, hr, hiff⟩ := sameNow_of_keys hk (h e (by simp))
  cases r with
  | true => exact .inr ⟨0, e, by simp [Instr.findNow, hr], rfl, (hiff.1 rfl).symm, fun m x hm => absurd hm (Nat.not_lt_zero m)⟩
  | false =>
   have hne : e.key ≠ k := fun q => by have := hiff.2 q.symm; cases this
   rcases ih (i + 1) (fun x hx => h x (List.mem_cons_of_mem _ hx)) with ⟨h1, h2⟩ | ⟨j, e', h1, h2, h3, h4⟩
   ·exact .inl ⟨by simp [Instr.findNow, hr, h1], fun x hx => by
     rcases List.mem_cons.1 hx with rfl | hx
     ·exact hne
     ·exact h2 x hx⟩
   ·refine .inr ⟨j + 1, e', by simp [Instr.findNow, hr, h1]; omega, by simpa using h2, h3, fun m x hm hx => ?_⟩
    cases m with
    | zero => simp at hx; subst hx; exact hne
    | succ m => exact h4 m x (by omega) (by simpa using hx)
theorem Xgt {d : TypeDesc} {k : Value} (hk : IsKey d k) (n : Nat) : Instr.sameBits (n + 1) k k = true := by
 cases d <;> cases k <;> simp_all [IsKey, Instr.sameBits, bytes_beq]
theorem Xcw {P : Program} {w : World} {b : Nat} {l : List (Value × Value)} {t kt et : TypeId} {d : TypeDesc} {k v : Value} (hm : P.underlying t = some (.map kt et)) (hd : P.underlying kt = some d)
  (hM : Xk0 w b l) (hk : IsKey d k) (hks : ∀ p ∈ l, IsKey d p.1) :
  ∃ o', (Instr.mapUpdate t (.map (some b)) k v).run P w = .ok () { w with heap := w.heap.setIfInBounds b o' } /\ Xk0 { w with heap := w.heap.setIfInBounds b o' } b (Xj4 k v l) := by
 obtain ⟨es, clock, hb, hl, hp, hc⟩ := hM
 have hes : ∀ x ∈ es.toList, IsKey d x.key := fun x hx => hks (x.key, x.val) (by rw [<- hl]; exact List.mem_map.2 ⟨x, hx, rfl⟩)
 have hset : ∀ o', (w.heap.setIfInBounds b o')[b]? = some o' := fun o' => (heap_set (o' := o') hb).1
 rcases Xg6 hk es.toList 0 hes with ⟨h1, h2⟩ | ⟨j, e, h1, h2, h3, h4⟩
 ·refine ⟨.map (es.push { key := k, val := v, born := clock }) (clock + 1), ?_, es.push { key := k, val := v, born := clock }, clock + 1, hset _, ?_, ?_, ?_⟩
  ·simp [Instr.mapUpdate, run_underlying hm, MapKept.run_getObj_map hb, run_checkKey hd hk, run_findKey hd h1, MapKept.run_setObj_map _ hb]
  ·rw [Array.toList_push, List.map_append, hl]
   rw [(Xlz (v := v) l (fun q hq => by
    rw [<- hl] at hq
    obtain ⟨x, hx, rfl⟩ := List.mem_map.1 hq
    exact h2 x hx)).1]
   rfl
  ·rw [Array.toList_push]
   exact List.pairwise_append.2 ⟨hp, List.pairwise_singleton _ _, fun a ha b' hb' => by rw [List.mem_singleton.1 hb']; exact hc a ha⟩
  ·intro x hx
   rw [Array.toList_push, List.mem_append] at hx
   rcases hx with hx | hx
   ·exact Nat.lt_succ_of_lt (hc x hx)
   ·rw [List.mem_singleton.1 hx]; exact Nat.lt_succ_self _
 ·have he : es[j]? = some e := by simpa using h2
  have hlj : l[j]? = some (e.key, e.val) := by rw [<- hl, List.getElem?_map, h2]; rfl
  have hm2 : (es.modify j fun e => { e with key := k, val := v }).toList = es.toList.modify j fun e => { e with key := k, val := v } := by simp
  refine ⟨.map (es.modify j fun e => { e with key := k, val := v }) clock, ?_, es.modify j fun e => { e with key := k, val := v }, clock, hset _, ?_, ?_, ?_⟩
  ·have hst : (Instr.keyThatStays k k).run P w = .ok k w := by simp [Instr.keyThatStays, Xgt hk]
   simp only [Nat.zero_add] at h1
   simp [Instr.mapUpdate, run_underlying hm, MapKept.run_getObj_map hb, run_checkKey hd hk, run_findKey hd h1, he, h3, hst, MapKept.run_setObj_map _ hb]
  ·rw [hm2, (Xnd (v := v) l j _ hlj h3 (fun i q hi hq => by
    rw [<- hl, List.getElem?_map] at hq
    cases hx : es.toList[i]? with
    | none => rw [hx] at hq; cases hq
    | some x => rw [hx] at hq; cases hq; exact h4 i x hi hx)).1, <- hl]
   apply List.ext_getElem?
   intro i
   simp only [List.getElem?_map, List.getElem?_modify, List.getElem?_set]
   by_cases hij : j = i
   ·subst hij
    have hlt : j < es.toList.length := (List.getElem?_eq_some_iff.1 h2).1
    simp [he] at *
    simpa using hlt
   ·simp [hij]
  ·rw [hm2]
   refine List.pairwise_iff_getElem.2 fun i i' hi hi' hlt => ?_
   have := List.pairwise_iff_getElem.1 hp i i' (by simpa using hi) (by simpa using hi') hlt
   simp only [List.getElem_modify]
   split <;> split <;> exact this
  ·intro x hx
   rw [hm2] at hx
   obtain ⟨i, hi⟩ := List.getElem?_of_mem hx
   rw [List.getElem?_modify] at hi
   cases hy : es.toList[i]? with
   | none => rw [hy] at hi; simp at hi
   | some y =>
    rw [hy] at hi
    have := hc y (List.mem_of_getElem? hy)
    by_cases hij : j = i
    ·simp [hij] at hi; rw [<- hi]; exact this
    ·simp [hij] at hi; rw [<- hi]; exact this
theorem Inv.aside {c : Ctx} {H : X0l} {M : Nat -> Prop} (hI : Inv c H M) {b : Nat} {w' : World} (hsz : w'.heap.size = c.w.heap.size) (hw : ∀ q, q ≠ b -> w'.heap[q]? = c.w.heap[q]?) (hsa : ¬ c.Sa b /\ ¬ c.So b) (hob : ∀ o x, H o = some x -> (c.ρ o).blk ≠ b) :
  c.Le M { c with w := w' } /\ Inv { c with w := w' } H M := by
 have hle : c.Le M { c with w := w' } := ⟨fun _ _ => rfl, fun _ h => h, fun _ h => h, fun q hq => hw q (fun e => by subst e; exact hq.elim hsa.1 hsa.2), rfl⟩
 refine ⟨hle, ⟨?_, hI.sep, hI.stab, fun q hq => by have := hI.lt q hq; simp only [hsz]; exact this, by have := hI.base; simp only [hsz]; exact this, hI.own, hI.low⟩⟩
 intro p x hx
 obtain ⟨h1, ⟨⟨cur, hb, hs, hc⟩, h3, h4, h5⟩, h6⟩ := hI.obj p x hx
 refine ⟨h1, ⟨⟨cur, ?_, hs, ?_⟩, h3, h4, h5⟩, h6⟩
 ·show w'.heap[(c.ρ p).blk]? = _
  rw [hw _ (hob p x hx)]; exact hb
 ·intro i e he
  obtain ⟨g1, g2⟩ := hc i e he
  exact ⟨g1, fun k a ha => by obtain ⟨v, hv, hr, h7⟩ := g2 k a ha; exact ⟨v, hv, hr.mono hle (.inr (h6 e (List.mem_of_getElem? he) a (List.mem_of_getElem? ha))), h7⟩⟩
section
variable {P : Program} {nt n0 : Nat} {Q : X0d -> St -> Mu -> Prop} {ops : Array Oper} {l : List Oper} {o : Oper} {K : List Kn} {L : List (Nat × AV)} {G : List (Nat × Obj)} {n : Nat} {μ : Mu}
theorem Xc9 {P : Program} (t : TypeId) (w : World) : (Instr.makeMap t none).run P w = .ok (.map (some w.heap.size)) (w.alloc (.map #[] 0)) := rfl
theorem Xa.mapNew {t : Nat} (ho : o.op = .makeMap t none) (hg : o.guard = none) (hd : Xbb nt o.dst = true)
  (h : ∀ b, Xa P nt n0 Q (.ops ops l) K ⟨fr (Xm2 o.dst (.sc (.map (some b))) L), hp G, n⟩ ((b, .map []) :: μ)) : Xa P nt n0 Q (.ops ops (o :: l)) K ⟨fr L, hp G, n⟩ μ := by
 intro c0 H0 c act g hm Qx hQ R hR
 refine X34 fun K' hK' => ?_
 rw [if_pos (by simp [Region.wanted, hg])]
 have hrun : (execOp act.eval o).run P c.w = .ok (.value (.map (some c.w.heap.size))) (c.w.alloc (.map #[] 0)) := by
  obtain ⟨dst, op, type, pos, after, guard⟩ := o
  simp only at ho
  subst ho
  simp only [execOp, Sem.run_bind, Xc9]
  rfl
 refine Oper.wpR (fun d hd => by rw [hd] at ho; cases ho) ?_
 unfold Oper.wp
 rw [hrun]
 obtain ⟨h1, h2, h3⟩ := g.inv.waste (w' := c.w.alloc (.map #[] 0)) (.map #[] 0) rfl rfl rfl rfl
 have g2 := (g.rebase).next (c' := { c with w := c.w.alloc (.map #[] 0) }) (dst := o.dst) (a := .sc (.map (some c.w.heap.size))) (v := .map (some c.w.heap.size)) (X4v hd) h1 rfl (fun b hb => .inl hb) h3 (fun q x hx => .inr ⟨q, x, hx, rfl⟩) h2 g.solo (Nat.le_refl _) .sc .sc
 have hk := hm.kept g2.reach
 have hnew : (c.w.alloc (.map #[] 0)).heap[c.w.heap.size]? = some (.map #[] 0) := (heap_alloc c.w _).1
 have hb := h c.w.heap.size
 rw [X4y] at hb
 refine hK' _ _ (hb c0 H0 { c with w := c.w.alloc (.map #[] 0) } _ (.join g.reach g2) ⟨?_, ?_, ?_, (put_defers _ _ _).trans hm.ds⟩ Qx hQ R hR)
 ·intro p hp
  rcases List.mem_cons.1 hp with rfl | hp
  ·exact ⟨#[], 0, hnew, rfl, List.Pairwise.nil, fun e he => by simp at he⟩
  ·exact hk.is p hp
 ·intro p hp
  rcases List.mem_cons.1 hp with rfl | hp
  ·refine ⟨fun hs => Nat.lt_irrefl _ (g.inv.lt _ (.inl hs)), fun hs => Nat.lt_irrefl _ (g.inv.lt _ (.inr hs)), fun q x hx he => ?_, g.reach.size⟩
   obtain ⟨_, ⟨⟨cur, hcb, _⟩, _, _, _⟩, _⟩ := g.inv.obj q x hx
   have he' : (c.ρ q).blk = c.w.heap.size := he
   rw [he'] at hcb
   simp at hcb
  ·exact hk.away p hp
 ·refine List.nodup_cons.2 ⟨fun hmem => ?_, hk.nodup⟩
  obtain ⟨p, hp, he⟩ := List.mem_map.1 hmem
  have := (hm.is p hp).lt
  simp only at he
  omega
theorem Xa.mapUpd {T : Ty} {t b kt et : Nat} {m k x : Operand} {qm qk qx : List Prop} {kv xv : Value} {es : List (Value × Value)} {ti : TI} {d : TypeDesc} (hT : X7o P T) (ho : o.op = .mapUpdate t m k x) (hg : o.guard = none) (hd : o.dst = none)
  (ht : T t = some ti) (hkd : ti.kind = .map kt et) (hu : P.underlying kt = some d)
  (hm : rd L m = (.sc (.map (some b)), qm)) (hk : rd L k = (.sc kv, qk)) (hx : rd L x = (.sc xv, qx)) (hqm : X3q qm) (hqk : X3q qk) (hqx : X3q qx) (hik : IsKey d kv) (hks : ∀ p ∈ es, IsKey d p.1)
  (h : Xa P nt n0 Q (.ops ops l) K ⟨fr L, hp G, n⟩ ((b, Xj4 kv xv es) :: μ)) : Xa P nt n0 Q (.ops ops (o :: l)) K ⟨fr L, hp G, n⟩ ((b, es) :: μ) := by
 intro c0 H0 c act g hM Qx hQ R hR
 refine X34 fun K' hK' => ?_
 rw [if_pos (by simp [Region.wanted, hg])]
 have em : act.eval m = .map (some b) := by have := g.ev m; rw [show evA (St.A ⟨fr L, hp G, n⟩) m = _ from X13 hm hqm] at this; exact this.sc_inv
 have ek : act.eval k = kv := by have := g.ev k; rw [show evA (St.A ⟨fr L, hp G, n⟩) k = _ from X13 hk hqk] at this; exact this.sc_inv
 have ex : act.eval x = xv := by have := g.ev x; rw [show evA (St.A ⟨fr L, hp G, n⟩) x = _ from X13 hx hqx] at this; exact this.sc_inv
 have hu1 : P.underlying t = some (.map kt et) := by
  obtain ⟨i, dd, _, hdd, _, hkk, _⟩ := X29 (hT t ti ht)
  rw [hkd] at hkk
  cases dd <;> simp [X0c] at hkk
  obtain ⟨rfl, rfl⟩ := hkk
  exact hdd
 obtain ⟨o', hrun, hmap⟩ := Xcw (v := xv) hu1 hu (hM.is (b, es) (by simp)) hik hks
 have hex : (execOp act.eval o).run P c.w = .ok .skip { c.w with heap := c.w.heap.setIfInBounds b o' } := by
  obtain ⟨dst, op, type, pos, after, guard⟩ := o
  simp only at ho
  subst ho
  simp only [execOp, em, ek, ex, Sem.run_bind, hrun]
  rfl
 refine Oper.wpR (fun d hd => by rw [hd] at ho; cases ho) ?_
 unfold Oper.wp
 rw [hex]
 obtain ⟨a1, a2, a3, a4⟩ := hM.away (b, es) (by simp)
 obtain ⟨es0, cl, hb0, _⟩ := hM.is (b, es) (by simp)
 have hoth : ∀ q, q ≠ b -> ({ c.w with heap := c.w.heap.setIfInBounds b o' } : World).heap[q]? = c.w.heap[q]? := (heap_set (o' := o') hb0).2
 obtain ⟨h1, h2⟩ := g.inv.aside (w' := { c.w with heap := c.w.heap.setIfInBounds b o' }) (by simp) hoth ⟨a1, a2⟩ a3
 have g2 : X33 nt c0 H0 n0 { c with w := { c.w with heap := c.w.heap.setIfInBounds b o' } } ⟨fr L, hp G, n⟩ act := by
  refine ⟨h2, g.solo, fun q => (g.frame q).mono h1 (.inr (g.ok q)), g.ok, g.size, ?_, g.le0⟩
  have r := g.reach
  refine ⟨r.rho, r.os, r.tape, r.output, by simpa using r.size, fun q hq hn => ?_, fun q hq => ?_, r.sa, r.so1, r.so2, r.B, r.own⟩
  ·exact (hoth q (fun e => by subst e; exact absurd hq (Nat.not_lt.2 a4))).trans (r.block q hq hn)
  ·refine (hoth q (fun e => ?_)).trans (r.stable q hq)
   subst e
   rcases hq with hq | hq
   ·exact a1 (by rw [r.sa]; exact hq)
   ·exact a2 (r.so1 _ hq)
 have hact : act.put o.dst undef = act := by rw [hd]; rfl
 have hMs : MOk n0 c0 { c with w := { c.w with heap := c.w.heap.setIfInBounds b o' } } (hp G) ((b, Xj4 kv xv es) :: μ) act := by
  refine ⟨fun p hp => ?_, fun p hp => ?_, ?_, hM.ds⟩
  ·rcases List.mem_cons.1 hp with rfl | hp
   ·exact hmap
   ·have hne : p.1 ≠ b := fun e => (List.nodup_cons.1 hM.nodup).1 (List.mem_map.2 ⟨p, hp, e⟩)
    exact (hM.is p (List.mem_cons_of_mem _ hp)).le (hoth _ hne) (h1.weaken fun q hq => Nat.lt_of_lt_of_le hq g.le0)
  ·rcases List.mem_cons.1 hp with rfl | hp
   ·exact hM.away (b, es) (by simp)
   ·exact hM.away p (List.mem_cons_of_mem _ hp)
  ·exact hM.nodup
 have := hK' act { c.w with heap := c.w.heap.setIfInBounds b o' } (h c0 H0 _ act g2 hMs Qx hQ R hR)
 show K' (act.put o.dst undef) _
 rw [hact]; exact this
theorem Xa.mapLen {T : Ty} {t b kt et : Nat} {x : Operand} {qx : List Prop} {es : List (Value × Value)} {ti : TI} (hT : X7o P T) (ho : o.op = .call { callee := .builtin .len, args := #[x], argTypes := #[t] }) (hg : o.guard = none) (hd : Xbb nt o.dst = true)
  (ht : T t = some ti) (hkd : ti.kind = .map kt et) (hx : rd L x = (.sc (.map (some b)), qx)) (hqx : X3q qx)
  (h : Xa P nt n0 Q (.ops ops l) K ⟨fr (Xm2 o.dst (.sc (.int .i64 es.length)) L), hp G, n⟩ ((b, es) :: μ)) : Xa P nt n0 Q (.ops ops (o :: l)) K ⟨fr L, hp G, n⟩ ((b, es) :: μ) := by
 intro c0 H0 c act g hM Qx hQ R hR
 refine X34 fun K' hK' => ?_
 rw [if_pos (by simp [Region.wanted, hg])]
 have ex : act.eval x = .map (some b) := by have := g.ev x; rw [show evA (St.A ⟨fr L, hp G, n⟩) x = _ from X13 hx hqx] at this; exact this.sc_inv
 have hu1 : P.underlying t = some (.map kt et) := by
  obtain ⟨i, dd, _, hdd, _, hkk, _⟩ := X29 (hT t ti ht)
  rw [hkd] at hkk
  cases dd <;> simp [X0c] at hkk
  obtain ⟨rfl, rfl⟩ := hkk
  exact hdd
 obtain ⟨es0, cl, hb0, hl, _⟩ := hM.is (b, es) (by simp)
 have hsz : es0.size = es.length := by have hl' : es0.toList.map (fun e => (e.key, e.val)) = es := hl; rw [<- hl']; simp
 have hex : (execOp act.eval o).run P c.w = .ok (.value (.int .i64 es.length)) c.w := by
  obtain ⟨dst, op, type, pos, after, guard⟩ := o
  simp only at ho
  subst ho
  simp [execOp, resolve, invoke, builtin, Builtin.len_, ex, run_underlying hu1, MapKept.run_getObj_map hb0, goInt, hsz]
 refine Oper.wpR (fun d hd => by rw [hd] at ho; cases ho) ?_
 unfold Oper.wp
 rw [hex]
 have g2 := g.next (c' := c) (dst := o.dst) (a := .sc (.int .i64 es.length)) (v := .int .i64 es.length) (X4v hd) (.refl c) rfl (fun b hb => .inl hb) (.refl c (hp G)) (fun q x hx => .inr ⟨q, x, hx, rfl⟩) g.inv g.solo (Nat.le_refl _) .sc .sc
 rw [X4y] at h
 exact hK' _ _ (h c0 H0 c _ g2 hM.act Qx hQ R hR)
end
end Go.Av
namespace Go.D
def Xga (ks : List Int) (z : Int) : List Int := if z ∈ ks then ks else ks ++ [z]
def Xe6 (ks : List Int) : List Int -> List Int
 | [] => ks
 | z :: zs => Xe6 (Xga ks z) zs
end Go.D
namespace Go.Av
def Xet (z : Int) : Value × Value := (.int .i64 z, .bool true)
end Go.Av


namespace Go.Av
theorem Oper.wp_mono2 {P : Program} {o : Oper} {a : Act} {w : World} {K K' : Act -> World -> Prop} {Q Q' : Exit -> Act -> World -> Prop} (h : ∀ a w, K a w -> K' a w) (hq : ∀ e a w, e ≠ .normal -> Q e a w -> Q' e a w)
  (hh : o.wp P a w K Q) : o.wp P a w K' Q' := by
 unfold Oper.wp at *
 generalize (execOp a.eval o).run P w = r at *
 cases r with
 | ok n w' =>
  cases n with
  | enter f args =>
   simp only [Oper.upon] at hh ⊢
   refine Calls.mono hh (fun e w'' he => ?_)
   cases e with
   | returned v => exact h _ _ he
   | panicked ch => exact hq _ _ _ (by intro h; cases h) he
   | outgrown => obtain ⟨a0, w0, h0⟩ := he; exact ⟨a0, w0, hq _ _ _ (by intro h; cases h) h0⟩
  | row row args => simp only [Oper.upon] at hh ⊢; exact Rows.mono hh (fun _ _ he => h _ _ he)
  | _ => simp only [Oper.upon] at hh ⊢ <;> exact h _ _ hh
 | halt x w' => cases x <;> simp only [Oper.upon] at hh ⊢ <;> first | exact hh | exact hq _ _ _ (by intro h; cases h) hh
section
variable {P : Program} {ops : Array Oper} {Q : Exit -> Act -> World -> Prop}
theorem Xf4 : ∀ (f : Nat) (listed : Array Bool) (a : Act) (w : World), wpAny P .any ops Q f listed a w -> wpAny P .any ops Q (f + 1) listed a w
 | 0, listed, a, w, h => ⟨fun _ => h.2, fun i hi => by rw [h.1] at hi; cases hi⟩
 | f + 1, listed, a, w, h => ⟨h.1, fun i hi => wpOp_mono (fun a' w' h' => Xf4 f _ a' w' h') (h.2 i hi)⟩
theorem Xhi (n : Nat) : ∀ (f : Nat) (listed : Array Bool) (a : Act) (w : World), wpAny P .any ops Q f listed a w -> wpAny P .any ops Q (f + n) listed a w := by
 induction n with
 | zero => intro f l a w h; exact h
 | succ n ih => intro f l a w h; exact Xf4 (f + n) l a w (ih f l a w h)
def Xhb (j : Nat) (l : List Oper) : Bool := (List.range l.length).all fun i => Nat.blt i j || (List.range i).all fun q => ((X1d l).getD i 0).testBit q
def Xa6 (l : List Oper) : Bool := l.all fun o => match o.guard with
 | some (j, _) => Nat.blt j l.length
 | none => true
theorem Xfg {j : Nat} {l : List Oper} (h : Xhb j l = true) {i q : Nat} (hi : i < l.length) (hj : j <= i) (hq : q < i) : ((X1d l).getD i 0).testBit q = true := by
 have := List.all_eq_true.1 h i (List.mem_range.2 hi)
 simp only [Bool.or_eq_true, Nat.blt_eq] at this
 rcases this with h1 | h1
 ·omega
 ·exact List.all_eq_true.1 h1 q (List.mem_range.2 hq)
theorem X5j {listed : Array Bool} {i : Nat} {o : Oper} (hi : i ∈ Region.ready .any ops listed) (ho : ops.toList[i]? = some o) : ∀ j ∈ X6o o, listed.getD j false = true := by
 rw [X1n] at hi
 obtain ⟨_, _, h3⟩ := hi
 have ho' : ops[i]? = some o := by simpa using ho
 rw [ho'] at h3
 simp only [Option.map_some, Option.getD_some] at h3
 intro j hj
 obtain ⟨e, he, rfl⟩ := List.mem_map.1 hj
 obtain ⟨he1, he2⟩ := List.mem_filter.1 he
 rw [Array.all_eq_true_iff_forall_mem] at h3
 have := h3 e (by simpa using he1)
 rw [he2] at this
 simpa using this
theorem X4m {listed : Array Bool} {i : Nat} {o : Oper} (hsz : listed.size = ops.size) (ho : ops.toList[i]? = some o) (hl : listed.getD i false = false) (h : ∀ j ∈ X6o o, listed.getD j false = true) : i ∈ Region.ready .any ops listed := by
 have hi : i < ops.size := by have := (List.getElem?_eq_some_iff.1 ho).1; simpa using this
 rw [X1n]
 refine ⟨hi, ?_, ?_⟩
 ·have hil : i < listed.size := by omega
  simp only [Array.getD_eq_getD_getElem?, Array.getElem?_eq_getElem hil, Option.getD_some] at hl ⊢
  exact hl
 ·have ho' : ops[i]? = some o := by simpa using ho
  rw [ho']
  simp only [Option.map_some, Option.getD_some]
  rw [Array.all_eq_true_iff_forall_mem]
  intro e he
  cases hb : Region.binds .any e with
  | false => rfl
  | true => simpa using h e.on (List.mem_map.2 ⟨e, List.mem_filter.2 ⟨by simpa using he, hb⟩, rfl⟩)
def Xaw (ops : Array Oper) (listed : Array Bool) : Prop := ∀ (i : Nat) o, ops.toList[i]? = some o -> listed.getD i false = true -> ∀ j ∈ X6o o, listed.getD j false = true
theorem Xb1 (hpre : X4d 0 ops.toList = true) {listed : Array Bool} (hc : Xaw ops listed) {i : Nat} (hi : i ∈ Region.ready .any ops listed) {q : Nat} (hq : ((X1d ops.toList).getD i 0).testBit q = true) : listed.getD q false = true := by
 have hlt := (X1n.1 hi).1
 have ho : ops.toList[i]? = some ops[i] := by simp [hlt]
 have hp : ∀ (i : Nat) o, ops.toList[i]? = some o -> ∀ j ∈ X6o o, j < i := fun i o ho j hj => by have := X53 _ 0 hpre i o ho j hj; omega
 exact (Xcj (S := fun k => listed.getD k false) hp hc i _ ho (X5j hi ho) q hq).1
theorem X38 {listed : Array Bool} {i k : Nat} (hi : i < listed.size) : (listed.setIfInBounds i true).getD k false = (listed.getD k false || Nat.beq k i) := by
 simp only [Array.getD_eq_getD_getElem?]
 by_cases h : k = i
 ·subst h; simp [hi]
 ·have : Nat.beq k i = false := by rw [<- Bool.not_eq_true, Nat.beq_eq]; exact h
  rw [Array.getElem?_setIfInBounds_ne (fun e => h e.symm), this, Bool.or_false]
theorem Xgl (hpre : X4d 0 ops.toList = true) {j : Nat} (hbar : Xhb j ops.toList = true) : ∀ (f m : Nat) (listed : Array Bool) (a : Act) (w : World), listed.size = ops.size -> j <= m -> m + f = ops.size -> (∀ k, k < ops.size -> (listed.getD k false = true ↔ k < m)) ->
  wpList P ops Q (ops.toList.drop m) a w -> wpAny P .any ops Q f listed a w := by
 have hlen : ops.toList.length = ops.size := Array.length_toList
 intro f
 induction f with
 | zero =>
  intro m listed a w hsz hj hm hl h
  refine ⟨?_, ?_⟩
  ·rw [List.eq_nil_iff_forall_not_mem]
   intro i hi
   obtain ⟨h1, h2, _⟩ := X1n.1 hi
   have := (hl i h1).2 (by omega)
   have hil : i < listed.size := by omega
   simp only [Array.getD_eq_getD_getElem?, Array.getElem?_eq_getElem hil, Option.getD_some] at h2 this
   rw [h2] at this; cases this
  ·rw [List.drop_of_length_le (by omega)] at h; exact h
 | succ f ih =>
  intro m listed a w hsz hj hm hl h
  have hmo : ops.toList[m]? = some (ops.toList[m]'(by omega)) := List.getElem?_eq_getElem (by omega)
  have hc : Xaw ops listed := fun i o ho hi q hq => by
   have hio : i < ops.size := by have := (List.getElem?_eq_some_iff.1 ho).1; omega
   have h1 := X53 _ 0 hpre i o ho q hq
   have h2 := (hl i hio).1 hi
   exact (hl q (by omega)).2 (by omega)
  have hrm : m ∈ Region.ready .any ops listed := by
   refine X4m hsz hmo ?_ fun q hq => ?_
   ·rw [<- Bool.not_eq_true]; exact fun e => by have := (hl m (by omega)).1 e; omega
   ·have h1 := X53 _ 0 hpre m _ hmo q hq
    exact (hl q (by omega)).2 (by omega)
  refine ⟨fun hr => (by rw [hr] at hrm; cases hrm), fun i hi => ?_⟩
  have him : i = m := by
   obtain ⟨h1, h2, _⟩ := X1n.1 hi
   have hil : i < listed.size := by omega
   have hge : m <= i := by
    rcases Nat.lt_or_ge i m with h3 | h3
    ·have := (hl i h1).2 h3
     simp only [Array.getD_eq_getD_getElem?, Array.getElem?_eq_getElem hil, Option.getD_some] at h2 this
     rw [h2] at this; cases this
    ·exact h3
   rcases Nat.lt_or_eq_of_le hge with h3 | h3
   ·have := Xb1 hpre hc hi (Xfg hbar (by omega) (by omega) h3)
    have := (hl m (by omega)).1 this
    omega
   ·exact h3.symm
  subst him
  rw [List.drop_eq_getElem_cons (by omega)] at h
  unfold wpList at h
  unfold wpOp
  have ho' : ops[i]? = some (ops.toList[i]'(by omega)) := by simpa using hmo
  rw [ho']
  simp only
  have hnext : ∀ a' w', wpList P ops Q (ops.toList.drop (i + 1)) a' w' -> wpAny P .any ops Q f (listed.setIfInBounds i true) a' w' := fun a' w' h' =>
   ih (i + 1) _ a' w' (by simpa using hsz) (by omega) (by omega) (fun k hk => by
    rw [X38 (by omega), Bool.or_eq_true, hl k hk, Nat.beq_eq]; omega) h'
  by_cases hw : Region.wanted (ops.toList[i]'(by omega)) (yielded ops a.tmps) = true
  ·rw [if_pos hw] at h ⊢
   exact h.imp (Oper.wp_mono hnext) id
  ·rw [if_neg hw] at h ⊢
   exact hnext _ _ h
theorem Xj6 {j i : Nat} {o : Oper} (h : (ops.toList.take j)[i]? = some o) : ops.toList[i]? = some o /\ i < j := by
 rw [List.getElem?_take] at h
 split at h
 ·exact ⟨h, by assumption⟩
 ·cases h
theorem Xgm {R : Exit -> Act -> World -> Prop} {j : Nat} {pre : Array Oper} (hp : pre.toList = ops.toList.take j) (hjl : j <= ops.size) (hpre : X4d 0 ops.toList = true) (hbar : Xhb j ops.toList = true) (hgd : Xa6 (ops.toList.take j) = true)
  (hRQ : ∀ e a w, e ≠ .normal -> R e a w -> Q e a w) (r : Nat)
  (hend : ∀ listed a w, listed.size = ops.size -> (∀ k, k < ops.size -> (listed.getD k false = true ↔ k < j)) -> R .normal a w -> wpAny P .any ops Q r listed a w) :
  ∀ (f : Nat) (lp lo : Array Bool) (a : Act) (w : World), lp.size = pre.size -> lo.size = ops.size -> (∀ k, lo.getD k false = (lp.getD k false && Nat.blt k j)) -> Xaw pre lp ->
   wpAny P .any pre R f lp a w -> wpAny P .any ops Q (f + r) lo a w := by
 have hlen : ops.toList.length = ops.size := Array.length_toList
 have hps : pre.size = j := by rw [<- Array.length_toList, hp, List.length_take]; omega
 have hpp : X4d 0 pre.toList = true := by
  have key : ∀ (l : List Oper) (i k : Nat), X4d i l = true -> X4d i (l.take k) = true := by
   intro l
   induction l with
   | nil => intro i k _; simp [X4d]
   | cons a l ih =>
    intro i k h
    cases k with
    | zero => rfl
    | succ k =>
     simp only [X4d, Bool.and_eq_true, List.take_succ_cons] at h ⊢
     exact ⟨h.1, ih _ _ h.2⟩
  rw [hp]; exact key _ _ _ hpre
 have same : ∀ (k : Nat) o, ops.toList[k]? = some o -> k < j -> pre.toList[k]? = some o := fun k o ho hk => by rw [hp, List.getElem?_take, if_pos hk]; exact ho
 have full : ∀ (lp : Array Bool), lp.size = pre.size -> Region.ready .any pre lp = [] -> ∀ k, k < j -> lp.getD k false = true := by
  intro lp hs hr k
  induction k using Nat.strongRecOn with
  | _ k ih =>
   intro hk
   cases hl : lp.getD k false with
   | true => rfl
   | false =>
    have hko : pre.toList[k]? = some (pre.toList[k]'(by rw [Array.length_toList]; omega)) := List.getElem?_eq_getElem _
    have := X4m hs hko hl fun q hq => by
     have h1 := X53 _ 0 hpp k _ hko q hq
     exact ih q (by omega) (by omega)
    rw [hr] at this; cases this
 have yl : ∀ (tmps : Array Value) (q : Nat), q < j -> yielded ops tmps q = yielded pre tmps q := by
  intro tmps q hq
  have : ops[q]? = pre[q]? := by
   have h1 : ops.toList[q]? = pre.toList[q]? := by rw [hp, List.getElem?_take, if_pos hq]
   simpa using h1
  unfold yielded
  rw [this]
 intro f
 induction f with
 | zero =>
  intro lp lo a w hs1 hs2 hrel hcl h
  obtain ⟨h1, h2⟩ := h
  rw [Nat.zero_add]
  refine hend lo a w hs2 (fun k hk => ?_) h2
  rw [hrel]
  constructor
  ·intro h3; simp only [Bool.and_eq_true, Nat.blt_eq] at h3; exact h3.2
  ·intro h3; simp only [Bool.and_eq_true, Nat.blt_eq]; exact ⟨full lp hs1 h1 k h3, h3⟩
 | succ f ih =>
  intro lp lo a w hs1 hs2 hrel hcl h
  obtain ⟨h1, h2⟩ := h
  by_cases hr : Region.ready .any pre lp = []
  ·have : wpAny P .any ops Q r lo a w := hend lo a w hs2 (fun k hk => by
    rw [hrel]
    constructor
    ·intro h3; simp only [Bool.and_eq_true, Nat.blt_eq] at h3; exact h3.2
    ·intro h3; simp only [Bool.and_eq_true, Nat.blt_eq]; exact ⟨full lp hs1 hr k h3, h3⟩) (h1 hr)
   have := Xhi (f + 1) r lo a w this
   rwa [Nat.add_comm] at this
  ·have hclo : Xaw ops lo := by
    intro i o ho hi q hq
    rw [hrel] at hi ⊢
    simp only [Bool.and_eq_true, Nat.blt_eq] at hi ⊢
    have hq2 := X53 _ 0 hpre i o ho q hq
    exact ⟨hcl i o (same i o ho hi.2) hi.1 q hq, by omega⟩
   obtain ⟨p, hpr⟩ := List.exists_mem_of_ne_nil _ hr
   have hpj : p < j := by have := (X1n.1 hpr).1; omega
   have hnl : lo.getD p false = false := by
    rw [hrel]
    have h3 := (X1n.1 hpr).2.1
    have hpl : p < lp.size := by omega
    simp only [Array.getD_eq_getD_getElem?, Array.getElem?_eq_getElem hpl, Option.getD_some] at h3 ⊢
    rw [h3]; rfl
   have low : ∀ i, i ∈ Region.ready .any ops lo -> i < j := by
    intro i hi
    rcases Nat.lt_or_ge i j with h3 | h3
    ·exact h3
    ·have := Xb1 hpre hclo hi (Xfg hbar (by have := (X1n.1 hi).1; omega) h3 (show p < i by omega))
     rw [hnl] at this; cases this
   rw [show f + 1 + r = (f + r) + 1 by omega]
   refine ⟨fun hro => ?_, fun i hi => ?_⟩
   ·exfalso
    have hpo : pre.toList[p]? = some (pre.toList[p]'(by rw [Array.length_toList]; omega)) := List.getElem?_eq_getElem _
    have hpo2 : ops.toList[p]? = some (pre.toList[p]'(by rw [Array.length_toList]; omega)) := (Xj6 (by rw [<- hp]; exact hpo)).1
    have : p ∈ Region.ready .any ops lo := X4m hs2 hpo2 hnl fun q hq => by
     have h3 := X5j hpr hpo q hq
     have h4 := X53 _ 0 hpre p _ hpo2 q hq
     rw [hrel, h3]; simp; omega
    rw [hro] at this; cases this
   ·have hij := low i hi
    have hio : ops.toList[i]? = some (ops.toList[i]'(by omega)) := List.getElem?_eq_getElem _
    have hip := same i _ hio hij
    have hli : lp.getD i false = false := by
     have h3 := (X1n.1 hi).2.1
     have hil : i < lo.size := by omega
     have h5 : lo.getD i false = false := by
      simp only [Array.getD_eq_getD_getElem?, Array.getElem?_eq_getElem hil, Option.getD_some] at h3 ⊢
      exact h3
     rw [hrel] at h5
     have : Nat.blt i j = true := by simpa using hij
     rw [this, Bool.and_true] at h5
     exact h5
    have hir : i ∈ Region.ready .any pre lp := X4m hs1 hip hli fun q hq => by
     have h3 := X5j hi hio q hq
     rw [hrel] at h3
     simp only [Bool.and_eq_true] at h3
     exact h3.1
    have hk := h2 i hir
    unfold wpOp at hk ⊢
    have e1 : ops[i]? = some (ops.toList[i]'(by omega)) := by simpa using hio
    have e2 : pre[i]? = some (ops.toList[i]'(by omega)) := by simpa using hip
    rw [e2] at hk
    rw [e1]
    simp only at hk ⊢
    have hw : Region.wanted (ops.toList[i]'(by omega)) (yielded ops a.tmps) = Region.wanted (ops.toList[i]'(by omega)) (yielded pre a.tmps) := by
     unfold Region.wanted
     cases hgu : (ops.toList[i]'(by omega)).guard with
     | none => rfl
     | some g =>
      obtain ⟨gj, want⟩ := g
      have h5 := List.all_eq_true.1 hgd (ops.toList[i]'(by omega)) (List.mem_of_getElem? (i := i) (by rw [List.getElem?_take, if_pos hij]; exact hio))
      rw [hgu] at h5
      simp only [Nat.blt_eq, List.length_take] at h5
      simp only [yl a.tmps gj (by omega)]
    rw [hw]
    have hnext : ∀ a' w', wpAny P .any pre R f (lp.setIfInBounds i true) a' w' -> wpAny P .any ops Q (f + r) (lo.setIfInBounds i true) a' w' := by
     intro a' w' h'
     refine ih _ _ a' w' (by simpa using hs1) (by simpa using hs2) (fun k => ?_) ?_ h'
     ·rw [X38 (by omega), X38 (by omega), hrel]
      by_cases hki : k = i
      ·subst hki
       have : Nat.blt k j = true := by simpa using hij
       simp [this]
      ·have : Nat.beq k i = false := by rw [<- Bool.not_eq_true, Nat.beq_eq]; exact hki
       simp [this]
     ·intro k o ho hk q hq
      rw [X38 (by omega)] at hk ⊢
      rcases Bool.or_eq_true_iff.1 hk with hk | hk
      ·rw [hcl k o ho hk q hq]; rfl
      ·have : k = i := by simpa using hk
       subst this
       rw [X5j hir ho q hq]; rfl
    by_cases hwt : Region.wanted (ops.toList[i]'(by omega)) (yielded pre a.tmps) = true
    ·rw [if_pos hwt] at hk ⊢
     rcases hk with hk | ⟨hk, a0, w0, hl⟩
     ·exact .inl (Oper.wp_mono2 hnext hRQ hk)
     ·exact .inr ⟨hk, a0, w0, hRQ _ _ _ (by intro h; cases h) hl⟩
    ·rw [if_neg hwt] at hk ⊢
     exact hnext _ _ hk
end
theorem X3t.drawnCut {P : Program} {T : Ty} {nt n0 id j n : Nat} {ops : Array Oper} {L L' : List (Nat × AV)} {G G' : List (Nat × Obj)} {Q : X0d -> St -> Mu -> Prop} {μ : Mu} (hT : X7o P T /\ P.follows .mixedOrders = true) (hpre : X4d 0 ops.toList = true)
  (hjl : Nat.ble j ops.size = true) (hbar : Xhb j ops.toList = true) (hgd : Xa6 (ops.toList.take j) = true) (hs : List X4g) {hs' : List X4g} {ps' : List Prop}
  (h : Xc3 P T nt n ⟨ops.toList.take j⟩ (X1d (ops.toList.take j)) ((X1d (ops.toList.take j)).zip ((ops.toList.take j).map fun o => X1h o.op)) 0 (ops.toList.take j) L G [] hs [] = some (L', G', hs', ps')) (hp' : X3q ps')
  (k : X47 P nt n0 ops (ops.toList.drop j) (fun s μ => Q .normal s μ) ⟨fr L', hp G', n + j⟩ μ) (hμ : Xaf μ = true := by rfl) : X3t P nt n0 (.region id ops true) Q ⟨fr L, hp G, n⟩ μ := by
 have hjl' : j <= ops.size := by simpa using hjl
 obtain ⟨_, hrun⟩ := Xg9 _ _ _ _ _ _ _ _ _ _ _ h hp'
 obtain ⟨rs, hall, hA, hH⟩ := hrun.all (fr L) (hp G) [] (Nat.zero_le _) rfl rfl rfl rfl rfl (fun k o r _ hr => by simp at hr)
 have hpl : X4d 0 (ops.toList.take j) = true := by
  have key : ∀ (l : List Oper) (i k : Nat), X4d i l = true -> X4d i (l.take k) = true := by
   intro l
   induction l with
   | nil => intro i k _; simp [X4d]
   | cons a l ih =>
    intro i k h
    cases k with
    | zero => rfl
    | succ k =>
     simp only [X4d, Bool.and_eq_true, List.take_succ_cons] at h ⊢
     exact ⟨h.1, ih _ _ h.2⟩
  exact key _ _ _ hpre
 have hlenp : (ops.toList.take j).length = j := by rw [List.length_take, Array.length_toList]; omega
 intro c0 HH c act g0 hm R0 hR0
 have g := g0.rebase.drew
 obtain rfl := hR0 rfl
 refine X6v.2 (wp_region_any hT.2 ?_)
 have hz : ∀ m k, (Array.replicate m false).getD k false = false := by
  intro m k
  simp only [Array.getD_eq_getD_getElem?, Array.getElem?_replicate]
  split <;> rfl
 have hfn : ∀ m, (fun k => (Array.replicate m false).getD k false) = (fun _ => false) := fun m => funext (hz m)
 have hM : ∀ q, q < n -> AtS n (fun _ => false) q := fun q h => .inl h
 have hdg := Xg8 (n0 := n0) (Q := fun e s => e = .normal /\ s = ⟨fr L', hp G', n + j⟩) hT.1 (ops := ⟨ops.toList.take j⟩) hpl hall ⟨rfl, by rw [hA, hH]; congr 1; simp only [hlenp]⟩ (c0 := c) (HH := hp G) g.le0 j (Array.replicate j false) (List.range j)
  { c with w := { c.w with drawn := c.w.drawn + 1 } } act (by simp [hlenp]) (by simp) (fun k hk _ => List.mem_range.2 (by simpa [hlenp] using hk)) (fun i o _ h => by rw [hz] at h; cases h) (by
   rw [hfn, X69, X69]
   exact ⟨g.inv.more hM, g.solo, g.frame, fun t => (g.ok t).mono hM, g.size, g.reach, fun q hq => hM q (Nat.lt_of_lt_of_le hq g.le0)⟩) rfl
 have := Xgm (Q := MQ nt c0 HH n0 Q) (pre := ⟨ops.toList.take j⟩) (R := CQ nt c (hp G) n0 act.defers (fun e s => e = .normal /\ s = ⟨fr L', hp G', n + j⟩)) (j := j) rfl hjl' hpre hbar hgd
  (by rintro e a w hne ⟨c', s', ae, _, _, _, rfl, rfl, _⟩; exact absurd rfl hne) (ops.size - j) (by
   rintro listed a w hsz hl ⟨c', s', ae, rfl, g', hd', _, rfl, rfl⟩
   refine Xgl hpre hbar (ops.size - j) j listed a c'.w hsz (Nat.le_refl _) (by omega) hl ?_
   exact k c0 HH c' a (.join g0.reach g') (hm.kept g'.reach hd') _ (fun c2 s2 a2 μ2 g2 hm2 hq => ⟨c2, s2, .normal, μ2, rfl, g2, hm2, rfl, hq⟩) none (fun _ => hμ))
  j (Array.replicate j false) (Array.replicate ops.size false) act { c.w with drawn := c.w.drawn + 1 } (by simp [hlenp]) (by simp) (fun k => by rw [hz, hz]; rfl) (fun i o _ h => by rw [hz] at h; cases h) hdg
 rwa [show j + (ops.size - j) = ops.size by omega] at this
theorem Xa.drawnCut {P : Program} {T : Ty} {nt n0 id n : Nat} {ops : Array Oper} {L L' : List (Nat × AV)} {G G' : List (Nat × Obj)} {K : List Kn} {Q : X0d -> St -> Mu -> Prop} {μ : Mu} (j : Nat) (hT : X7o P T /\ P.follows .mixedOrders = true) (hs : List X4g) {hs' : List X4g} {ps' : List Prop} (hpre : X4d 0 ops.toList = true)
  (hjl : Nat.ble j ops.size = true) (hbar : Xhb j ops.toList = true) (hgd : Xa6 (ops.toList.take j) = true)
  (h : Xc3 P T nt n ⟨ops.toList.take j⟩ (X1d (ops.toList.take j)) ((X1d (ops.toList.take j)).zip ((ops.toList.take j).map fun o => X1h o.op)) 0 (ops.toList.take j) L G [] hs [] = some (L', G', hs', ps')) (hp' : X3q ps')
  (k : Xa P nt n0 Q (.ops ops (ops.toList.drop j)) K ⟨fr L', hp G', n + j⟩ μ) (hμ : Xaf μ = true := by rfl) : Xa P nt n0 Q (.code (.region id ops true)) K ⟨fr L, hp G, n⟩ μ :=
 X3t.drawnCut hT hpre hjl hbar hgd hs h hp' k hμ
end Go.Av
namespace Go.Av
end Go.Av


namespace Go.Av
def Xpv : AV -> AV
 | .nils => .list true []
 | a => a
def denil : AV -> AV
 | .agg cs => .agg (cs.map Xpv)
 | a => Xpv a
theorem Xe7 (e : AV) : (denil e).cells = e.cells.map Xpv := by
 cases e <;> rfl
theorem Xmm {c : Ctx} {d : Bool} {a : AV} {v : Value} (h : X15 c d a v) : X15 c d (Xpv a) v := by
 cases a with
 | nils => obtain ⟨p, rfl⟩ := h.nils_inv; exact .listNil
 | _ => exact h
theorem Xoo {M : Nat -> Prop} {a : AV} (h : a.Ok M) : (Xpv a).Ok M := by
 cases a with
 | nils => exact .list
 | _ => exact h
theorem Xlf {c : Ctx} {p : Pl} {y : Obj} (h : Xhd c p y) : Xhd c p { y with es := y.es.map denil } := by
 obtain ⟨⟨cur, h1, h2, h3⟩, h4, h5, h6⟩ := h
 refine ⟨⟨cur, h1, h2, fun i e he => ?_⟩, by simpa using h4, h5, h6⟩
 simp only [List.getElem?_map, Option.map_eq_some_iff] at he
 obtain ⟨e0, he0, rfl⟩ := he
 obtain ⟨g1, g2⟩ := h3 i e0 he0
 rw [Xe7]
 refine ⟨by simpa using g1, fun k a ha => ?_⟩
 simp only [List.getElem?_map, Option.map_eq_some_iff] at ha
 obtain ⟨a0, ha0, rfl⟩ := ha
 obtain ⟨v, v1, v2, v3⟩ := g2 k a0 ha0
 exact ⟨v, v1, Xmm v2, v3⟩
theorem Xa.denil {P : Program} {nt n0 n : Nat} {Q : X0d -> St -> Mu -> Prop} {cf : Cf} {K : List Kn} {μ : Mu} {L : List (Nat × AV)} {G : List (Nat × Obj)} {y : Obj} (q : Nat) (es' : List AV) (hy : hp G q = some y) (he : y.es.map denil = es')
  (h : Xa P nt n0 Q cf K ⟨fr L, hp ((q, { y with es := es' }) :: G), n⟩ μ) : Xa P nt n0 Q cf K ⟨fr L, hp G, n⟩ μ := by
 subst he
 have hd : ∀ o x', hp ((q, { y with es := y.es.map Go.Av.denil }) :: G) o = some x' -> ∃ x, hp G o = some x /\ x'.esz = x.esz /\ x'.solo = x.solo /\ x'.spent = x.spent /\ x'.es.length = x.es.length /\ (x' = x \/ (o = q /\ x = y /\ x' = { y with es := y.es.map Go.Av.denil })) := by
  intro o x' hx
  by_cases ho : o = q
  ·subst ho
   rw [show hp ((o, { y with es := y.es.map Go.Av.denil }) :: G) o = some { y with es := y.es.map Go.Av.denil } by simp [hp]] at hx
   cases hx
   exact ⟨y, hy, rfl, rfl, rfl, by simp, .inr ⟨rfl, rfl, rfl⟩⟩
  ·have : hp ((q, { y with es := y.es.map Go.Av.denil }) :: G) o = hp G o := by
    have hb : Nat.beq o q = false := by rw [<- Bool.not_eq_true, Nat.beq_eq]; exact ho
    simp [hp, hb]
   rw [this] at hx
   exact ⟨x', hx, rfl, rfl, rfl, rfl, .inl rfl⟩
 refine Xa.sub (s' := ⟨fr L, hp ((q, { y with es := y.es.map Go.Av.denil }) :: G), n⟩) (fun c0 H0 c act μ g hm => ⟨?_, ?_⟩) h
 ·refine ⟨⟨fun o x' hx => ?_, fun o o' x1 x2 h1 h2 hne hb => ?_, fun o x' hx => ?_, g.inv.lt, g.inv.base, g.inv.own, fun o x' hx => ?_⟩, fun o x' hx => ?_, g.frame, g.ok, g.size, ?_, g.le0⟩
  ·obtain ⟨x, hx0, _, _, _, _, hc⟩ := hd o x' hx
   obtain ⟨i1, i2, i3⟩ := g.inv.obj o x hx0
   rcases hc with rfl | ⟨rfl, rfl, rfl⟩
   ·exact ⟨i1, i2, i3⟩
   ·refine ⟨i1, Xlf i2, fun e he a ha => ?_⟩
    obtain ⟨e0, he0, rfl⟩ := List.mem_map.1 he
    rw [Xe7] at ha
    obtain ⟨a0, ha0, rfl⟩ := List.mem_map.1 ha
    exact Xoo (i3 e0 he0 a0 ha0)
  ·obtain ⟨y1, hy1, e1, s1, p1, l1, _⟩ := hd o x1 h1
   obtain ⟨y2, hy2, e2, s2, p2, l2, _⟩ := hd o' x2 h2
   have := g.inv.sep o o' y1 y2 hy1 hy2 hne hb
   rw [s1, p1, p2, l1, l2, e1, e2]; exact this
  ·obtain ⟨x, hx0, _⟩ := hd o x' hx; exact g.inv.stab o x hx0
  ·obtain ⟨x, hx0, _⟩ := hd o x' hx; exact g.inv.low o x hx0
  ·obtain ⟨x, hx0, _, s1, p1, _⟩ := hd o x' hx; rw [s1, p1]; exact g.solo o x hx0
  ·have r := g.reach
   exact ⟨r.rho, r.os, r.tape, r.output, r.size, r.block, r.stable, r.sa, r.so1, r.so2, r.B, fun o x' hx => by obtain ⟨x, hx0, _⟩ := hd o x' hx; exact r.own o x hx0⟩
 ·exact ⟨hm.is, fun p hp => by
   obtain ⟨a1, a2, a3, a4⟩ := hm.away p hp
   exact ⟨a1, a2, fun o x' hx => by obtain ⟨x, hx0, _⟩ := hd o x' hx; exact a3 o x hx0, a4⟩, hm.nodup, hm.ds⟩
end Go.Av


namespace Go.Av
structure Xlt (c : Ctx) (H : X0l) (b : Nat) : Prop where
 sa : ¬ c.Sa b
 so : ¬ c.So b
 ob : ∀ o x, H o = some x -> (c.ρ o).blk ≠ b
theorem Xlt.kept {c c' : Ctx} {H H' : X0l} {n b : Nat} (h : Xlt c H b) (hb : b < c.w.heap.size) (r : Reach c H n c' H') : Xlt c' H' b := by
 refine ⟨by rw [r.sa]; exact h.sa, fun hs => ?_, fun o x hx he => ?_⟩
 ·rcases r.so2 _ hs with h1 | h1 | ⟨o, x, h1, h2⟩
  ·exact h.so h1
  ·omega
  ·exact h.ob o x h1 h2
 ·rcases r.own o x hx with h1 | ⟨o', x', h1, h2⟩
  ·omega
  ·exact h.ob o' x' h1 (h2.trans he)
theorem Reach.weaken {c c' : Ctx} {H H' : X0l} {n n' : Nat} (r : Reach c H n c' H') (h : n' <= n) : Reach c H n' c' H' :=
 ⟨fun o ho => r.rho o (Nat.lt_of_lt_of_le ho h), r.os, r.tape, r.output, r.size, r.block, r.stable, r.sa, r.so1, r.so2, r.B, r.own⟩
theorem X33.turn0 {nt n0 : Nat} {c0 c : Ctx} {H0 : X0l} {s : St} {act : Act} {b : Nat} (o : Go.Obj) (g : X33 nt c0 H0 n0 c s act) (h : Xlt c s.H b) :
  X33 nt { c with w := c.w.putObj b o } s.H n0 { c with w := c.w.putObj b o } s act /\ c.Le (fun _ => True) { c with w := c.w.putObj b o } := by
 have hother : ∀ k, k ≠ b -> (c.w.putObj b o).heap[k]? = c.w.heap[k]? := fun k hk => World.putObj_heap_other hk
 have hle : c.Le (fun _ => True) { c with w := c.w.putObj b o } :=
  ⟨fun _ _ => rfl, fun _ h => h, fun _ h => h, fun k hk => hother k (fun e => by subst e; exact hk.elim h.sa h.so), rfl⟩
 have all : ∀ {a : AV} {M : Nat -> Prop}, a.Ok M -> a.Ok (fun _ => True) := fun h => h.mono fun _ _ => trivial
 refine ⟨⟨⟨fun q x hx => ?_, g.inv.sep, g.inv.stab, fun k hk => ?_, ?_, g.inv.own, g.inv.low⟩, g.solo, fun t => (g.frame t).mono hle (.inr (all (g.ok t))), g.ok, g.size, .refl _ _ _, g.le0⟩, hle⟩
 ·obtain ⟨i1, ⟨⟨cur, hb, hs, hc⟩, i3, i4, i5⟩, i6⟩ := g.inv.obj q x hx
  refine ⟨i1, ⟨⟨cur, (hother _ (h.ob q x hx)).trans hb, hs, fun i e he => ?_⟩, i3, i4, i5⟩, i6⟩
  obtain ⟨g1, g2⟩ := hc i e he
  exact ⟨g1, fun k a ha => by obtain ⟨v, hv, hr, h7⟩ := g2 k a ha; exact ⟨v, hv, hr.mono hle (.inr (all (i6 e (List.mem_of_getElem? he) a (List.mem_of_getElem? ha)))), h7⟩⟩
 ·show k < (c.w.putObj b o).heap.size
  rw [World.putObj_size]; exact g.inv.lt k hk
 ·show c.B <= (c.w.putObj b o).heap.size
  rw [World.putObj_size]; exact g.inv.base
theorem Reach.turnBack {c c1 c2 : Ctx} {H H1 H2 : X0l} {n b : Nat} {o0 o1 : Go.Obj} (r1 : Reach c H n c1 H1) (r2 : Reach { c1 with w := c1.w.putObj b o1 } H1 n c2 H2) (hb : c.w.heap[b]? = some o0) (h : Xlt c H b) :
  Reach c H n { c2 with w := c2.w.putObj b o0 } H2 := by
 have hlt : b < c.w.heap.size := (Array.getElem?_eq_some_iff.1 hb).1
 have hs2 : c.w.heap.size <= c2.w.heap.size := by
  have h1 := r1.size
  have h2 : (c1.w.putObj b o1).heap.size <= c2.w.heap.size := r2.size
  rw [World.putObj_size] at h2; omega
 refine ⟨fun o ho => (r2.rho o ho).trans (r1.rho o ho), r2.os.trans r1.os, r2.tape.trans r1.tape, r2.output.trans r1.output, ?_, fun k hk hn => ?_, fun k hk => ?_, r2.sa.trans r1.sa, fun k hk => r2.so1 k (r1.so1 k hk), fun k hk => ?_, r2.B.trans r1.B, fun o x hx => ?_⟩
 ·show c.w.heap.size <= (c2.w.putObj b o0).heap.size
  rw [World.putObj_size]; exact hs2
 ·show (c2.w.putObj b o0).heap[k]? = _
  by_cases e : k = b
  ·subst e; rw [World.putObj_heap_same (by omega)]; exact hb.symm
  ·rw [World.putObj_heap_other e]
   have h2 : c2.w.heap[k]? = (c1.w.putObj b o1).heap[k]? := r2.block k (by show k < (c1.w.putObj b o1).heap.size; rw [World.putObj_size]; exact Nat.lt_of_lt_of_le hk r1.size) fun o x hx he => by
    rcases r1.own o x hx with h1 | ⟨o', x', h1, h2⟩
    ·have he' : (c1.ρ o).blk = k := he
     omega
    ·exact hn o' x' h1 (h2.trans he)
   rw [h2, World.putObj_heap_other e]
   exact r1.block k hk hn
 ·show (c2.w.putObj b o0).heap[k]? = _
  have e : k ≠ b := fun e => by subst e; exact hk.elim h.sa h.so
  rw [World.putObj_heap_other e]
  have h2 : c2.w.heap[k]? = (c1.w.putObj b o1).heap[k]? := r2.stable k (hk.imp (fun x => by show c1.Sa k; rw [r1.sa]; exact x) (r1.so1 k))
  rw [h2, World.putObj_heap_other e]
  exact r1.stable k hk
 ·rcases r2.so2 k hk with h1 | h1 | ⟨q, y, h1, h2⟩
  ·exact r1.so2 k h1
  ·right; left
   have h3 : (c1.w.putObj b o1).heap.size <= k := h1
   rw [World.putObj_size] at h3
   exact Nat.le_trans r1.size h3
  ·have h2' : (c1.ρ q).blk = k := h2
   rcases r1.own q y h1 with h3 | ⟨q', y', h3, h4⟩
   ·exact .inr (.inl (by omega))
   ·exact .inr (.inr ⟨q', y', h3, h4.trans h2'⟩)
 ·rcases r2.own o x hx with h1 | ⟨q, y, h1, h2⟩
  ·left
   have h3 : (c1.w.putObj b o1).heap.size <= (c2.ρ o).blk := h1
   rw [World.putObj_size] at h3
   exact Nat.le_trans r1.size h3
  ·rcases r1.own q y h1 with h3 | ⟨q', y', h3, h4⟩
   ·left
    have : (c1.ρ q).blk = (c2.ρ o).blk := h2
    show c.w.heap.size <= (c2.ρ o).blk
    omega
   ·exact .inr ⟨q', y', h3, h4.trans h2⟩
def Xp7 : List Nat -> List AV -> List (Nat × AV) -> List (Nat × AV)
 | p :: ps, a :: as, L => Xp7 ps as ((p, a) :: L)
 | _, _, L => L
theorem Xlu {c : Ctx} {n : Nat} : ∀ (ps : List Nat) (as : List AV) (vs : List Value) (L : List (Nat × AV)) (tmps : Array Value), as.length = vs.length -> (∀ (i : Nat) a v, as[i]? = some a -> vs[i]? = some v -> X15 c false a v /\ a.Ok (· < n)) ->
  (∀ p ∈ ps, p < tmps.size) -> (∀ t, X15 c false (fr L t) (tmps.getD t undef) /\ (fr L t).Ok (· < n)) ->
  (∀ t, X15 c false (fr (Xp7 ps as L) t) (((ps.zip vs).foldl (fun t (p, v) => t.setIfInBounds p v) tmps).getD t undef) /\ (fr (Xp7 ps as L) t).Ok (· < n)) /\ ((ps.zip vs).foldl (fun t (p, v) => t.setIfInBounds p v) tmps).size = tmps.size := by
 intro ps
 induction ps with
 | nil => intro as vs L tmps _ _ _ h; cases as <;> exact ⟨h, rfl⟩
 | cons p ps ih =>
  intro as vs L tmps hl ha hp h
  cases as with
  | nil =>
   have : vs = [] := List.eq_nil_of_length_eq_zero (by rw [<- hl]; rfl)
   subst this
   exact ⟨h, rfl⟩
  | cons a as =>
   cases vs with
   | nil => simp at hl
   | cons v vs =>
    have h0 := ha 0 a v rfl rfl
    obtain ⟨k1, k2⟩ := ih as vs ((p, a) :: L) (tmps.setIfInBounds p v) (by simpa using hl) (fun i a v h1 h2 => ha (i + 1) a v (by simpa using h1) (by simpa using h2)) (fun q hq => by simpa using hp q (List.mem_cons_of_mem _ hq)) (fun t => by
     rw [Xg5 (hp p List.mem_cons_self)]
     by_cases ht : t = p
     ·subst ht; rw [if_pos rfl]
      have : fr ((t, a) :: L) t = a := by simp [fr]
      rw [this]; exact h0
     ·rw [if_neg ht]
      have : fr ((p, a) :: L) t = fr L t := by
       have hb : Nat.beq t p = false := by rw [<- Bool.not_eq_true, Nat.beq_eq]; exact ht
       simp [fr, hb]
      rw [this]; exact h t)
    exact ⟨k1, by simpa using k2⟩
def Xr5 (P : Program) (nt n : Nat) (body : Code) (RQ : X0d -> St -> Mu -> Prop) : X0d -> St -> Mu -> Prop := fun e s μ => e = .normal /\ μ = [] /\ X3t P nt n body RQ s []
theorem Xa.asg {P : Program} {nt n : Nat} {body : Code} {RQ : X0d -> St -> Mu -> Prop} {s : St} (h : Xa P nt n RQ (.code body) [] s []) : Xa P nt n (Xr5 P nt n body RQ) (.exit .normal) [] s [] :=
 Cl.mk ⟨rfl, rfl, X3t.ofCl h⟩
theorem Xj8 {μ : Mu} {b : Nat} {r : Loop} {nt m : Nat} {A : Nat -> AV} (h : (b, .loop r nt m A) ∈ μ) : Xaf μ = false := by
 induction μ with
 | nil => cases h
 | cons p μ ih =>
  obtain ⟨q, x⟩ := p
  rcases List.mem_cons.1 h with h | h2
  ·cases h; rfl
  ·cases x with
   | loop => rfl
   | mark => exact ih h2
   | map => exact ih h2
   | blk => exact ih h2
def Xqv (P : Program) (nt n0 : Nat) (Q : X0d -> St -> Mu -> Prop) (ops : Array Oper) (l : List Oper) (K : List Kn) (L : List (Nat × AV)) (d : Option Nat) (μ : Mu) : X0d -> St -> Mu -> Prop :=
 fun e s _ => e = .normal /\ Xa P nt n0 Q (.ops ops l) K ⟨X81 (fr L) d (.sc (.bool true)), s.H, s.n⟩ μ
theorem Xa.rndEnd {P : Program} {nt n0 nt' n1 : Nat} {Q : X0d -> St -> Mu -> Prop} {ops : Array Oper} {l : List Oper} {K : List Kn} {L L1 : List (Nat × AV)} {d : Option Nat} {μ μ1 : Mu} {G : List (Nat × Obj)} {n : Nat}
  (h : Xa P nt n0 Q (.ops ops l) K ⟨fr (Xm2 d (.sc (.bool true)) L), hp G, n⟩ μ) : Xa P nt' n1 (Xqv P nt n0 Q ops l K L d μ) (.exit .normal) [] ⟨fr L1, hp G, n⟩ μ1 :=
 Cl.mk ⟨rfl, by show Xa P nt n0 Q (.ops ops l) K ⟨X81 (fr L) d (.sc (.bool true)), hp G, n⟩ μ; rw [<- X4y]; exact h⟩
theorem Xa.yield {P : Program} {nt n0 n b ntc m : Nat} {Q : X0d -> St -> Mu -> Prop} {ops : Array Oper} {l : List Oper} {o : Oper} {K : List Kn} {L Lc : List (Nat × AV)} {G : List (Nat × Obj)} {μ : Mu} {x : Operand} {args : Array Operand} {ts : Array Nat} {r : Loop}
  {as : List AV} {qx qa : List Prop} {ps : Array Nat} {assign body : Code} (ho : o.op = .call { callee := .value x, args := args, argTypes := ts }) (hg : o.guard = none) (hd : Xbb nt o.dst = true)
  (hx : rd L x = (.sc (.func (.yield b) #[] #[]), qx)) (ha : rds L args.toList = (as, qa)) (hqx : X3q qx) (hqa : X3q qa)
  (hμ : (b, .loop r ntc m (fr Lc)) ∈ μ) (h1 : r.state = .ready) (h2 : r.pending = none) (h3 : r.params = ps) (h4 : r.assign = assign) (h5 : r.body = body)
  (hps : (Nat.beq as.length ps.size && ps.toList.all fun p => Nat.blt p ntc) = true) (ht : (X5y assign || X5y body) = false)
  (h : Xa P ntc n (Xr5 P ntc n body (Xqv P nt n0 Q ops l K L o.dst μ)) (.code assign) [] ⟨fr (Xp7 ps.toList as Lc), hp G, n⟩ []) : Xa P nt n0 Q (.ops ops (o :: l)) K ⟨fr L, hp G, n⟩ μ := by
 subst h3 h4 h5
 simp only [Bool.and_eq_true, Nat.beq_eq, List.all_eq_true, Nat.blt_eq] at hps
 obtain ⟨hp1, hp2⟩ := hps
 simp only [Bool.or_eq_false_iff] at ht
 intro c0 H0 c act g hm Qx hQ R hR
 cases R with
 | none => rw [Xj8 hμ] at hR; exact absurd (hR rfl) (by simp)
 | some R =>
 refine X34 fun K' hK' => ?_
 rw [if_pos (by simp [Region.wanted, hg])]
 obtain ⟨⟨hrec, hsz⟩, hmn, hAok, hA⟩ := hm.is _ hμ
 obtain ⟨w1, w2, w3, w4⟩ := hm.away _ hμ
 have haw : Xlt c (hp G) b := ⟨w1, w2, w3⟩
 have hlt : b < c.w.heap.size := (Array.getElem?_eq_some_iff.1 hrec).1
 have ex : act.eval x = .func (.yield b) #[] #[] := by have := g.ev x; rw [show evA (St.A ⟨fr L, hp G, n⟩) x = _ from X13 hx hqx] at this; exact this.sc_inv
 have hargs : args.toList.map (evA (fr L)) = as := Xcd ha hqa
 have hlen : as.length = args.size := by rw [<- hargs]; simp
 have hy := run_yield (P := P) (args := args.map act.eval) hrec (by rw [Array.size_map, <- hlen]; exact hp1)
 have hrun : (execOp act.eval o).run P c.w = .ok (.round b r.fn ((r.params.zip (args.map act.eval)).foldl (fun tmps (t, a) => tmps.setIfInBounds t a) r.tmps) r.assign r.body) c.w := by
  simp only [execOp, ho, resolve, ex, Deferred.ofValue, Sem.run_bind, Sem.run_pure, Result.andThen_ok, invoke, Array.empty_append, Array.append_empty]
  exact hy
 show Oper.wpIn (FR R) 0 P o act c.w K' Qx
 refine ⟨fun _ _ => trivial, ?_⟩
 rw [Oper.semAt_eq _ _ _ (fun d hd => by rw [hd] at ho; cases ho), hrun, Oper.uponIn_round]
 refine ⟨fun h => Bool.noConfusion h, roundIn_of_wpIn trivial ?_⟩
 have hz : (r.params.zip (args.map act.eval)).foldl (fun tmps (t, a) => tmps.setIfInBounds t a) r.tmps = (r.params.toList.zip (args.toList.map act.eval)).foldl (fun t (p, v) => t.setIfInBounds p v) r.tmps := by
  rw [<- Array.foldl_toList]; simp
 have hzip := Xlu (c := c) (n := n) r.params.toList as (args.toList.map act.eval) Lc r.tmps (by rw [<- hargs]; simp) (fun i a v h1 h2 => by
   rw [<- hargs, List.getElem?_map] at h1
   rw [List.getElem?_map] at h2
   cases hq : args.toList[i]? with
   | none => simp [hq] at h1
   | some q =>
    simp only [hq, Option.map_some, Option.some.injEq] at h1 h2
    subst h1 h2
    exact ⟨g.ev q, g.evOk q⟩) (fun p hp => by rw [hsz]; exact hp2 p hp) (fun t => ⟨hA t, (hAok t).mono fun q hq => Nat.lt_of_lt_of_le hq (Nat.le_trans hmn g.le0)⟩)
 rw [<- hz] at hzip
 have gB : X33 ntc c (hp G) n c ⟨fr (Xp7 r.params.toList as Lc), hp G, n⟩ { tmps := (r.params.zip (args.map act.eval)).foldl (fun tmps (t, a) => tmps.setIfInBounds t a) r.tmps, defers := [] } :=
  ⟨g.inv, g.solo, fun t => (hzip.1 t).1, fun t => (hzip.1 t).2, hzip.2.trans hsz, .refl _ _ _, Nat.le_refl _⟩
 refine wpIn_mono (X3t.ofCl h c (hp G) c _ gB (.nil rfl) (some b) (fun h => by rw [ht.1] at h; cases h)) ?_
 rintro e a1 w' ⟨c1, s1, ae, μ1, rfl, g1, hm1, rfl, rfl, rfl, hbody⟩
 have hrec1 : c1.w.heap[b]? = some (.loop r) := (g1.reach.block b hlt haw.ob).trans hrec
 refine ⟨_, run_beginRound hrec1 h1, ?_⟩
 have aw1 : Xlt c1 s1.H b := haw.kept hlt g1.reach
 obtain ⟨g1', _⟩ := g1.turn0 (.loop { r with state := .busy }) aw1
 refine wpIn_mono (hbody _ s1.H _ a1 g1' (.nil hm1.ds) (some b) (fun h => by rw [ht.2] at h; cases h)) ?_
 rintro e a2 w' ⟨c2, s2, ae, μ2, rfl, g2, hm2, rfl, rfl, hk⟩
 have hlt1 : b < c1.w.heap.size := (Array.getElem?_eq_some_iff.1 hrec1).1
 have hrec2 : c2.w.heap[b]? = some (.loop { r with state := .busy }) :=
  (g2.reach.block b (by show b < (c1.w.putObj b _).heap.size; rw [World.putObj_size]; exact hlt1) aw1.ob).trans (World.putObj_heap_same hlt1)
 have hr : ({ r with state := .ready, pending := none } : Loop) = r := by
  obtain ⟨st, pe, fn, tm, pa, asg, bd, de⟩ := r
  simp only at h1 h2
  subst h1 h2; rfl
 have hend := run_endRound (P := P) none hrec2
 simp only [Option.isNone_none, if_true] at hend
 rw [hr] at hend
 refine ⟨_, _, hend, ?_⟩
 have aw2 : Xlt c2 s2.H b := (Xlt.mk aw1.sa aw1.so aw1.ob : Xlt { c1 with w := c1.w.putObj b (.loop { r with state := .busy }) } s1.H b).kept (by show b < (c1.w.putObj b _).heap.size; rw [World.putObj_size]; exact hlt1) g2.reach
 obtain ⟨g3, _⟩ := g2.turn0 (.loop r) aw2
 have rt : Reach c (hp G) n { c2 with w := c2.w.putObj b (.loop r) } s2.H := Reach.turnBack g1.reach g2.reach hrec haw
 have gf := g.next (X4v hd) rt.le rt.sa rt.so2 rt.fr rt.own g3.inv g3.solo g3.le0 (a := .sc (.bool true)) (v := .bool true) .sc .sc
 exact hK' _ _ (hk c0 H0 _ _ gf (hm.kept (rt.weaken g.le0)) Qx hQ (some R) (fun h => by cases h))
def Xen : Code -> List (Array Nat × Code × Code)
 | .loop b => Xen b
 | .seq a b => Xen a ++ Xen b
 | .block _ c => Xen c
 | .scope c => Xen c
 | .cond _ a b => Xen a ++ Xen b
 | .rangeFunc _ ps a b => (ps, a, b) :: (Xen a ++ Xen b)
 | _ => []
def rfB (i : Nat) (c : Code) : Array Nat × Code × Code := ((Xen c)[i]?).getD (#[], .skip, .skip)
def Xeo (slots : List Nat) (L : List (Nat × AV)) : List (Nat × AV) := slots.map fun t => (t, fr L t)
theorem Xih (L : List (Nat × AV)) : ∀ (slots : List Nat) (t : Nat), fr (Xeo slots L) t = fr L t \/ fr (Xeo slots L) t = .junk := by
 intro slots
 induction slots with
 | nil => intro t; exact .inr rfl
 | cons q r ih =>
  intro t
  show fr ((q, fr L q) :: Xeo r L) t = _ \/ fr ((q, fr L q) :: Xeo r L) t = _
  simp only [fr]
  cases hb : Nat.beq t q with
  | true => rw [Nat.eq_of_beq_eq_true hb]; exact .inl rfl
  | false => exact ih t
theorem Xa.keepL {P : Program} {nt n0 n : Nat} {Q : X0d -> St -> Mu -> Prop} {cf : Cf} {K : List Kn} {L : List (Nat × AV)} {G : List (Nat × Obj)} {μ : Mu} (slots : List Nat) (h : Xa P nt n0 Q cf K ⟨fr (Xeo slots L), hp G, n⟩ μ) : Xa P nt n0 Q cf K ⟨fr L, hp G, n⟩ μ := by
 refine Xa.sub (s' := ⟨fr (Xeo slots L), hp G, n⟩) (fun c0 H0 c act μ g hm => ⟨⟨g.inv, g.solo, fun t => ?_, fun t => ?_, g.size, g.reach, g.le0⟩, hm⟩) h
 ·rcases Xih L slots t with h | h
  ·show X15 c false (fr (Xeo slots L) t) _; rw [h]; exact g.frame t
  ·show X15 c false (fr (Xeo slots L) t) _; rw [h]; exact .junk
 ·rcases Xih L slots t with h | h
  ·show (fr (Xeo slots L) t).Ok _; rw [h]; exact g.ok t
  ·show (fr (Xeo slots L) t).Ok _; rw [h]; exact .junk
def rfQ (P : Program) (nt n0 : Nat) (Q : X0d -> St -> Mu -> Prop) (K : List Kn) (L : List (Nat × AV)) (μ : Mu) (D : Nat) (μi : Mu) : X0d -> St -> Mu -> Prop :=
 fun e s μ' => (∀ id, e ≠ .exit id) /\ μ' = μi /\ Xa P nt n0 Q (.exit .normal) K ⟨fr L, s.H, s.n⟩ ((D, .mark) :: μ)
theorem Xa.rfEnd {P : Program} {nt n0 nt' n1 : Nat} {Q : X0d -> St -> Mu -> Prop} {K : List Kn} {L L1 : List (Nat × AV)} {μ μi : Mu} {D : Nat} {G : List (Nat × Obj)} {n : Nat} {e : X0d} (he : ∀ id, e ≠ .exit id)
  (h : Xa P nt n0 Q (.exit .normal) K ⟨fr L, hp G, n⟩ ((D, .mark) :: μ)) : Xa P nt' n1 (rfQ P nt n0 Q K L μ D μi) (.exit e) [] ⟨fr L1, hp G, n⟩ μi :=
 Cl.mk ⟨he, rfl, h⟩
theorem X33.alloc {nt n0 : Nat} {c0 c : Ctx} {H0 : X0l} {s : St} {act : Act} (o : Go.Obj) (g : X33 nt c0 H0 n0 c s act) : X33 nt c0 H0 n0 { c with w := c.w.alloc o } s act := by
 obtain ⟨h1, h2, h3⟩ := g.inv.waste (w' := c.w.alloc o) o rfl rfl rfl rfl
 have := g.next (c' := { c with w := c.w.alloc o }) (dst := none) (a := .sc undef) (v := undef) (fun d h => by cases h) h1 rfl (fun b hb => .inl hb) h3 (fun q x hx => .inr ⟨q, x, hx, rfl⟩) h2 g.solo (Nat.le_refl _) .sc .sc
 exact this
theorem Xa.rangeFunc {P : Program} {nt n0 n gf nti : Nat} {Q : X0d -> St -> Mu -> Prop} {K : List Kn} {L : List (Nat × AV)} {G : List (Nat × Obj)} {μ : Mu} {g : Operand} {ps : Array Nat} {assign body codeI : Code} {fnI : Func} {caps : List AV} {q : List Prop}
  (hg : rd L g = (.fn gf caps, q)) (hq : X3q q) (hfn : X2w P gf fnI codeI) (hnt : fnI.ntmps = nti) (hle : Nat.ble (caps.length + 1) nti = true) (hres : fnI.results = #[])
  (h : ∀ (b D : Nat) (r : Loop), r.state = .ready -> r.pending = none -> r.params = ps -> r.assign = assign -> r.body = body ->
   Xa P nti n (rfQ P nt n0 Q K L μ D [(b, .loop r nt n (fr L)), (D, .blk (.deferred (some [])))]) (.code codeI) [] ⟨fr (argL 0 (.sc (.func (.yield b) #[] #[]) :: caps)), hp G, n⟩ [(b, .loop r nt n (fr L)), (D, .blk (.deferred (some [])))]) :
  Xa P nt n0 Q (.code (.rangeFunc g ps assign body)) K ⟨fr L, hp G, n⟩ μ := by
 intro c0 H0 c act gd hm R hR
 obtain rfl := hR rfl
 have hv := gd.ev g
 rw [show evA (St.A ⟨fr L, hp G, n⟩) g = _ from X13 hg hq] at hv
 have hvo := gd.evOk g
 rw [show evA (St.A ⟨fr L, hp G, n⟩) g = _ from X13 hg hq] at hvo
 obtain ⟨cv, hcv, hcl, hcr⟩ := hv.fn_inv
 refine wpIn_rangeFunc ?_
 intro fn _
 let D := c.w.heap.size
 let b := c.w.heap.size + 1
 let rec0 : Loop := { state := .ready, pending := none, fn, tmps := act.tmps, params := ps, assign, body, defers := c.w.heap.size }
 let W1 : World := (c.w.alloc (.deferred (some []))).alloc (.loop rec0)
 let c1 : Ctx := { c with w := W1 }
 have hL1 : W1.heap[b]? = some (.loop rec0) := by
  have := World.alloc_heap_new (c.w.alloc (.deferred (some []))) (.loop rec0); rwa [World.size_alloc] at this
 have hK1 : W1.heap[D]? = some (.deferred (some [])) := (RowKit.Below.heap_alloc _ _ _ (by simp [D])).trans (World.alloc_heap_new c.w _)
 have hs1 : W1.heap.size = c.w.heap.size + 2 := by simp [W1]
 have g1 : X33 nt c (hp G) n0 c1 ⟨fr L, hp G, n⟩ act := (gd.rebase.alloc (.deferred (some []))).alloc (.loop rec0)
 have hold : ∀ k, k < c.w.heap.size -> W1.heap[k]? = c.w.heap[k]? := fun k hk => (RowKit.Below.heap_alloc _ _ _ (by simp; omega)).trans (RowKit.Below.heap_alloc _ _ _ hk)
 have r1 : Reach c (hp G) n c1 (hp G) := ⟨fun _ _ => rfl, rfl, rfl, rfl, by show c.w.heap.size <= W1.heap.size; omega, fun k hk _ => hold k hk, fun k hk => hold k (gd.inv.lt k hk), rfl, fun _ h => h, fun _ h => .inl h, rfl, fun o x hx => .inr ⟨o, x, hx, rfl⟩⟩
 have hob : ∀ o x, hp G o = some x -> (c.ρ o).blk < c.w.heap.size := fun o x hx => by
  obtain ⟨_, ⟨⟨cur, hcb, _⟩, _⟩, _⟩ := gd.inv.obj o x hx
  exact (Array.getElem?_eq_some_iff.1 hcb).1
 let vs : Array Value := #[.func (.yield b) #[] #[]] ++ cv
 have hvs : vs.size = caps.length + 1 := by simp [vs, <- hcl]; omega
 have gI : X33 nti c (hp G) n c1 ⟨fr (argL 0 (.sc (.func (.yield b) #[] #[]) :: caps)), hp G, n⟩ { tmps := vs ++ Array.replicate (fnI.ntmps - vs.size) undef, defers := [] } := by
  have hrel : Xd5 c1 false (.sc (.func (.yield b) #[] #[]) :: caps) vs := by
   refine ⟨by rw [hvs]; simp, fun i a v ha hv => ?_⟩
   cases i with
   | zero =>
    have hv' : vs[0]? = some (.func (.yield b) #[] #[]) := by simp only [vs]; rw [Array.getElem?_append_left (by simp)]; rfl
    rw [hv'] at hv
    simp only [List.getElem?_cons_zero, Option.some.injEq] at ha hv
    subst ha hv; exact .sc
   | succ i =>
    have hv' : cv[i]? = some v := by
     simp only [vs] at hv
     rw [Array.getElem?_append_right (by simp)] at hv
     simpa using hv
    simp only [List.getElem?_cons_succ] at ha
    refine (hcr i a v ha hv').mono r1.le (.inr ?_)
    cases hvo with | fn hvo => exact hvo a (List.mem_of_getElem? ha)
  have hok : ∀ a ∈ (.sc (.func (.yield b) #[] #[]) :: caps : List AV), a.Ok (· < n) := by
   intro a ha
   rcases List.mem_cons.1 ha with rfl | ha
   ·exact .sc
   ·cases hvo with | fn hvo => exact hvo a ha
  have : X33 nti c (hp G) n c1 ⟨Xhc (.sc (.func (.yield b) #[] #[]) :: caps), hp G, n⟩ { tmps := vs ++ Array.replicate (fnI.ntmps - vs.size) undef, defers := [] } :=
   ⟨g1.inv, g1.solo, fun t => X8c hrel _ t, fun t => Xea hok t, by have := Nat.le_of_ble_eq_true hle; simp only [Array.size_append, Array.size_replicate]; omega, r1, Nat.le_refl _⟩
  exact this.argL
 have mI : MOk n c c1 (hp G) [(b, .loop rec0 nt n (fr L)), (D, .blk (.deferred (some [])))] { tmps := vs ++ Array.replicate (fnI.ntmps - vs.size) undef, defers := [] } := by
  refine ⟨fun p hp => ?_, fun p hp => ?_, by simp [b, D], rfl⟩
  ·simp only [List.mem_cons, List.not_mem_nil, or_false] at hp
   rcases hp with rfl | rfl
   ·exact ⟨⟨hL1, gd.size⟩, Nat.le_refl _, fun t => gd.ok t, fun t => g1.frame t⟩
   ·exact hK1
  ·simp only [List.mem_cons, List.not_mem_nil, or_false] at hp
   have key : ∀ k, c.w.heap.size <= k -> ¬ c1.Sa k /\ ¬ c1.So k /\ (∀ o x, Av.hp G o = some x -> (c1.ρ o).blk ≠ k) /\ c.w.heap.size <= k := fun k hk =>
    ⟨fun hs => by have := gd.inv.lt k (.inl hs); omega, fun hs => by have := gd.inv.lt k (.inr hs); omega, fun o x hx e => by have h1 := hob o x hx; have h2 : (c.ρ o).blk = k := e; omega, hk⟩
   rcases hp with rfl | rfl
   ·exact key b (by simp [b])
   ·exact key D (Nat.le_refl _)
 refine ⟨b, [{ target := .collected D, args := #[] }], W1, { target := .fn (.func gf) cv, args := #[.func (.yield b) #[] #[]] }, W1, gf, vs, W1, run_enterLoop_outer _ _ _ _ _, ?_, fun _ _ => trivial, ?_, fun h => Bool.noConfusion h, ?_⟩
 ·simp only [resolve, hcv]
  simp [go_sem]
 ·simp only [invoke, callFunc, Sem.run_bind, run_program, Result.andThen_ok, hfn.here, hfn.name, hfn.body, Option.isNone_some, Bool.false_eq_true, if_false]
  rfl
 refine callsIn_of_wp hfn.here hfn.body trivial ?_ rfl
 refine wpIn_mono (X3t.ofCl (h b D rec0 rfl rfl rfl rfl rfl) c (hp G) c1 _ gI mI none .none) ?_
 rintro e a w' ⟨c2, s2, ae, μ2, rfl, g2, hm2, rfl, hne, rfl, hk⟩
 have hds : a.defers = [] := hm2.ds
 have fin : a.defers = [] /\ ∃ v, (results fnI a.tmps).run P c2.w = .ok v c2.w /\ rangePost (FR none) 0 P b (MQ nt c0 H0 n0 (Xav P nt n0 Q K)) { act with defers := [{ target := .collected D, args := #[] }] ++ act.defers } (.returned v) c2.w := by
  obtain ⟨⟨hrec, _⟩, _⟩ := hm2.is (b, .loop rec0 nt n (fr L)) (by simp)
  have hDk : c2.w.heap[D]? = some (.deferred (some [])) := hm2.is (D, .blk (.deferred (some []))) (by simp)
  obtain ⟨x1, x2, x3, x4⟩ := hm2.away (b, .loop rec0 nt n (fr L)) (by simp)
  obtain ⟨y1, y2, y3, y4⟩ := hm2.away (D, .blk (.deferred (some []))) (by simp)
  obtain ⟨g3, hle3⟩ := g2.turn (.loop { rec0 with state := .exhausted }) x1 x2 x3 x4
  refine ⟨hds, .tuple #[], by simp [results, hres, go_sem], ?_⟩
  refine ⟨none, _, run_endLoop hrec (by simp [rec0]), ?_⟩
  have rt := g3.reach
  have gc := gd.next (dst := none) (a := .sc undef) (v := undef) (fun d h => by cases h) rt.le rt.sa rt.so2 rt.fr rt.own g3.inv g3.solo g3.le0 .sc .sc
  have gc2 : X33 nt c0 H0 n0 { c2 with w := c2.w.putObj b (.loop { rec0 with state := .exhausted }) } ⟨fr L, s2.H, s2.n⟩ { act with defers := [{ target := .collected D, args := #[] }] ++ act.defers } :=
   ⟨gc.inv, gc.solo, gc.frame, gc.ok, gc.size, gc.reach, gc.le0⟩
  have hmk := hm.kept (rt.weaken gd.le0) (act' := act) rfl
  refine ⟨_, ⟨fr L, s2.H, s2.n⟩, .normal, (D, .mark) :: μ, rfl, gc2, ⟨fun p hp => ?_, fun p hp => ?_, ?_, ?_⟩, rfl, hk⟩
  ·rcases List.mem_cons.1 hp with rfl | hp
   ·exact (World.putObj_heap_other (by simp [b, D])).trans hDk
   ·exact hmk.is p hp
  ·rcases List.mem_cons.1 hp with rfl | hp
   ·exact ⟨y1, y2, y3, Nat.le_trans gd.reach.size y4⟩
   ·exact hmk.away p hp
  ·refine List.nodup_cons.2 ⟨fun hmem => ?_, hm.nodup⟩
   obtain ⟨p, hp, he⟩ := List.mem_map.1 hmem
   have := (hm.is p hp).lt
   simp only [D] at he
   omega
  ·show [_] ++ act.defers = _ :: Xol μ
   rw [hm.ds]; rfl
 cases ae with
 | exit id => exact (hne id rfl).elim
 | normal => exact fin
 | ret => exact fin
end Go.Av


namespace Go.Av
def Xq4 (nt n0 : Nat) (s s' : St) : Prop := ∀ (c0 : Ctx) (H0 : X0l) (c : Ctx) (act : Act) (μ : Mu), X33 nt c0 H0 n0 c s act -> MOk n0 c0 c s.H μ act -> ∃ c', c'.w = c.w /\ X33 nt c0 H0 n0 c' s' act /\ MOk n0 c0 c' s'.H μ act
section
variable {P : Program} {nt n0 : Nat} {s s' : St} {Q : X0d -> St -> Mu -> Prop} {μ : Mu}
theorem Xq4.loop (hw : Xq4 nt n0 s s') {b : Code} (h : X6s P nt n0 b Q s' μ) : X6s P nt n0 b Q s μ := by
 intro c0 H0 c act g hm R hR
 obtain ⟨c', hc, g', hm'⟩ := hw c0 H0 c act μ g hm
 have := h c0 H0 c' act g' hm' R hR
 rwa [hc] at this
theorem Xq4.semM (hw : Xq4 nt n0 s s') {c : Code} (h : X3t P nt n0 c Q s' μ) : X3t P nt n0 c Q s μ := by
 intro c0 H0 c act g hm R hR
 obtain ⟨c', hc, g', hm'⟩ := hw c0 H0 c act μ g hm
 have := h c0 H0 c' act g' hm' R hR
 rwa [hc] at this
end
end Go.Av


namespace Go.Av
theorem Xa.copyS {P : Program} {T : Ty} {nt n0 : Nat} {Q : X0d -> St -> Mu -> Prop} {ops : Array Oper} {l : List Oper} {o : Oper} {K : List Kn} {L : List (Nat × AV)} {G : List (Nat × Obj)} {n : Nat} {μ : Mu} {d x : Operand} {t t' q off len et : Nat} {y : Obj} {xa : AV} {xs : List AV} {te ti : TI} {qd qx : List Prop}
  (es' : List AV) (m : Nat) (hT : X7o P T) (ho : o.op = .call { callee := .builtin .copy, args := #[d, x], argTypes := #[t, t'] }) (hg : o.guard = none) (hdst : Xbb nt o.dst = true) (hd : rd L d = (.ref q off len, qd)) (hqd : X3q qd) (hH : hp G q = some y) (hle : Nat.ble (off + len) y.es.length = true)
  (hx : rd L x = (xa, qx)) (hqx : X3q qx) (hsrc : Xhf (hp G) xa xs) (hm : min xs.length len = m) (hn0 : Nat.ble 1 m = true) (ht : T t = some ti) (hk : ti.kind = .slice et) (hte : T et = some te) (hsz : (xs.all fun e => Nat.beq e.cells.length te.size) = true) (hes : y.esz = te.size)
  (hsp : splice y.es off (xs.take m) = es')
  (h : Xa P nt n0 Q (.ops ops l) K ⟨fr (Xm2 o.dst (.sc (.int .i64 m)) L), hp ((q, { y with es := es' }) :: G), n⟩ μ) : Xa P nt n0 Q (.ops ops (o :: l)) K ⟨fr L, hp G, n⟩ μ := by
 subst hm hsp
 refine X47.plain (s := ⟨fr L, hp G, n⟩) hg (X4v hdst) (OpR.copy (s := ⟨fr L, hp G, n⟩) hT ho (X13 hd hqd) hH (by simpa using hle) (by rw [show evA (St.A ⟨fr L, hp G, n⟩) x = _ from X13 hx hqx]; exact hsrc) (by simp at hn0; omega) ht hk hte (fun e he => by
  have := List.all_eq_true.1 hsz e he
  simpa using this) hes) ?_
 rintro _ _ _ ⟨rfl, rfl, rfl⟩
 rw [X4y] at h
 have e : goInt (min (xs.length : Int) (len : Int)) = .int .i64 ((min xs.length len : Nat) : Int) := by unfold goInt; congr 1; omega
 rw [e]
 exact h
end Go.Av


namespace Go.Av
open Go
def Xck (o : Oper) : Oper := { o with after := o.after.push { on := 0, ground := .data } }
def X0z (ops : Array Oper) (c : Nat) : Array Oper := ops.modify c Xck
theorem X9k (o : Oper) : ∀ j, j ∈ X6o (Xck o) ↔ j ∈ X6o o \/ j = 0 := by
 intro j
 simp only [X6o, Xck, Array.toList_push, List.filter_append, List.map_append, List.mem_append]
 constructor
 ·rintro (h | h)
  ·exact .inl h
  ·right
   obtain ⟨e, he, rfl⟩ := List.mem_map.1 h
   rw [List.mem_singleton.1 (List.mem_filter.1 he).1]
 ·rintro (h | rfl)
  ·exact .inl h
  ·right
   exact List.mem_map.2 ⟨_, List.mem_filter.2 ⟨List.mem_singleton.2 rfl, rfl⟩, rfl⟩
section
variable {P : Program} {ops : Array Oper} {Q : Exit -> Act -> World -> Prop}
theorem Oper.wp_put {o : Oper} {a a2 : Act} {w : World} {K K2 : Act -> World -> Prop} (hQ : (∀ ch a w, ¬ Q (.panic ch) a w) /\ ∀ a w, ¬ Q .outgrown a w) (he : execOp a2.eval o = execOp a.eval o) (hr : ∀ n w', (execOp a.eval o).run P w = .ok n w' -> ∃ v, n = .value v) (hK : ∀ v w', K (a2.put o.dst v) w' -> K2 (a.put o.dst v) w')
  (hh : o.wp P a2 w K Q) : o.wp P a w K2 Q := by
 unfold Oper.wp at *
 rw [he] at hh
 generalize (execOp a.eval o).run P w = r at *
 cases r with
 | ok n w' =>
  obtain ⟨v, rfl⟩ := hr n w' rfl
  simp only [Oper.upon] at hh ⊢
  exact hK _ _ hh
 | halt x w' => cases x <;> simp only [Oper.upon] at hh ⊢ <;> first | exact hh | exact absurd hh (hQ.1 _ _ _) | exact absurd hh (hQ.2 _ _)
theorem Xgk {o : Oper} {a : Act} {w : World} {K : Act -> World -> Prop} (h : (Xck o).wp P a w K Q) : o.wp P a w K Q := h
theorem Xfi {i : Nat} {o : Oper} {K : Act -> World -> Prop} {a : Act} {w : World} (hQ : (∀ ch a w, ¬ Q (.panic ch) a w) /\ ∀ a w, ¬ Q .outgrown a w) (ho : ops[i]? = some o) (hg : o.guard = none) (h : wpOp P ops Q i K a w) : o.wp P a w K Q := by
 unfold wpOp at h; rw [ho] at h; simp only at h
 rw [if_pos (by simp [Region.wanted, hg])] at h
 rcases h with h | ⟨_, a0, w0, h⟩
 ·exact h
 ·exact absurd h (hQ.2 _ _)
theorem Xfj {i : Nat} {o : Oper} {K : Act -> World -> Prop} {a : Act} {w : World} (ho : ops[i]? = some o) (hg : o.guard = none) (h : o.wp P a w K Q) : wpOp P ops Q i K a w := by
 unfold wpOp; rw [ho]; simp only
 rw [if_pos (by simp [Region.wanted, hg])]
 exact .inl h
theorem Xb9 {c : Nat} {oc : Oper} (hc : ops[c]? = some oc) (i : Nat) : (X0z ops c)[i]? = if i = c then some (Xck oc) else ops[i]? := by
 unfold X0z
 rw [Array.getElem?_modify]
 by_cases h : i = c
 ·subst h; simp [hc]
 ·rw [if_neg (fun e => h e.symm), if_neg h]
theorem Xov (a : Act) {d d' : Nat} (v v' : Value) (h : d ≠ d') : (a.put (some d) v).put (some d') v' = (a.put (some d') v').put (some d) v := by
 simp only [Act.put]
 rw [Array.setIfInBounds_comm _ _ (by exact h)]
theorem Xhj {c d0 dc src : Nat} {o0 oc : Oper} (hQ : (∀ ch a w, ¬ Q (.panic ch) a w) /\ ∀ a w, ¬ Q .outgrown a w) (hpre : X4d 0 ops.toList = true)
  (h0 : ops[0]? = some o0) (hop : o0.op = .move (.tmp src)) (hg0 : o0.guard = none) (hd0 : o0.dst = some d0) (hp0 : X6o o0 = []) (hc : ops[c]? = some oc) (hc0 : c ≠ 0) (hgc : oc.guard = none) (hdc : oc.dst = some dc) (hne : dc ≠ d0) (hns : dc ≠ src)
  (hg : ∀ (i : Nat) (o : Oper), ops[i]? = some o -> o.guard = none) (hres : ∀ (a : Act) w n w', (execOp a.eval oc).run P w = .ok n w' -> ∃ v, n = .value v)
  (hex : ∀ (a : Act) v, execOp (a.put (some d0) v).eval oc = execOp a.eval oc)
  (hall : ∀ i, i < ops.size -> i ≠ 0 -> i ≠ c -> ((X1d ops.toList).getD c 0).testBit i = true \/ ((X1d ops.toList).getD i 0).testBit 0 = true) :
  ∀ (f : Nat) (L : Array Bool) (a : Act) (w : World), L.size = ops.size -> Xaw ops L -> wpAny P .any (X0z ops c) Q f L a w -> wpAny P .any ops Q f L a w := by
 have hsz' : (X0z ops c).size = ops.size := by simp [X0z]
 have hlt0 : 0 < ops.size := (Array.getElem?_eq_some_iff.1 h0).1
 have hltc : c < ops.size := (Array.getElem?_eq_some_iff.1 hc).1
 have h0' : (X0z ops c)[0]? = some o0 := by rw [Xb9 hc, if_neg (Ne.symm hc0)]; exact h0
 have hc' : (X0z ops c)[c]? = some (Xck oc) := by rw [Xb9 hc, if_pos rfl]
 have rd : ∀ (L : Array Bool) i, L.size = ops.size -> i ∈ Region.ready .any ops L -> (i = c -> L.getD 0 false = true) -> i ∈ Region.ready .any (X0z ops c) L := by
  intro L i hL hi hic
  have hio := (X1n.1 hi).1
  have ho : ops.toList[i]? = some ops[i] := by simp [hio]
  have hnl : L.getD i false = false := by
   have h1 := (X1n.1 hi).2.1
   have hil : i < L.size := by omega
   simp only [Array.getD_eq_getD_getElem?, Array.getElem?_eq_getElem hil, Option.getD_some] at h1 ⊢
   exact h1
  have hp := X5j hi ho
  by_cases h : i = c
  ·subst h
   refine X4m (o := Xck oc) (by omega) (by simpa using hc') hnl fun j hj => ?_
   rcases (X9k oc j).1 hj with h1 | rfl
   ·have : ops[i] = oc := by have := hc; rw [Array.getElem?_eq_getElem hio] at this; exact Option.some.inj this
    rw [this] at hp; exact hp j h1
   ·exact hic rfl
  ·refine X4m (o := ops[i]) (by omega) ?_ hnl hp
   have := Xb9 hc i
   rw [if_neg h] at this
   simpa [hio] using this
 have rd0 : ∀ (L : Array Bool), L.size = ops.size -> L.getD 0 false = false -> 0 ∈ Region.ready .any ops L /\ 0 ∈ Region.ready .any (X0z ops c) L := by
  intro L hL hl
  have h1 : 0 ∈ Region.ready .any ops L := X4m (o := o0) hL (by simpa using h0) hl (fun j hj => by rw [hp0] at hj; cases hj)
  exact ⟨h1, rd L 0 hL h1 (fun e => absurd e.symm hc0)⟩
 have hmove : ∀ (a : Act) (w : World), (execOp a.eval o0).run P w = .ok (.value (a.eval (.tmp src))) w := by
  intro a w
  obtain ⟨dst, op, type, pos, after, guard⟩ := o0
  simp only at hop
  subst hop
  simp [execOp]
 have mv : ∀ (opsx : Array Oper) (K : Act -> World -> Prop) (a : Act) (w : World), opsx[0]? = some o0 -> (wpOp P opsx Q 0 K a w ↔ K (a.put (some d0) (a.eval (.tmp src))) w) := by
  intro opsx K a w hx
  constructor
  ·intro h
   have h1 := Xfi hQ hx hg0 h
   unfold Oper.wp at h1
   rw [hmove] at h1
   have h2 : K (a.put o0.dst (a.eval (.tmp src))) w := h1
   rwa [hd0] at h2
  ·intro h
   refine Xfj hx hg0 ?_
   unfold Oper.wp
   rw [hmove]
   show K (a.put o0.dst (a.eval (.tmp src))) w
   rw [hd0]; exact h
 have hcl : ∀ (L : Array Bool) i, L.size = ops.size -> Xaw ops L -> i ∈ Region.ready .any ops L -> Xaw ops (L.setIfInBounds i true) := by
  intro L i hL hC hi k o ho hk q hq
  have hio := (X1n.1 hi).1
  rw [X38 (by omega)] at hk ⊢
  rcases Bool.or_eq_true_iff.1 hk with hk | hk
  ·rw [hC k o ho hk q hq]; rfl
  ·have : k = i := by simpa using hk
   subst this
   rw [X5j hi ho q hq]; rfl
 intro f
 induction f using Nat.strongRecOn with
 | _ f ih =>
  intro L a w hL hC h
  cases f with
  | zero =>
   obtain ⟨h1, h2⟩ := h
   refine ⟨?_, h2⟩
   rw [List.eq_nil_iff_forall_not_mem]
   intro i hi
   cases hl0 : L.getD 0 false with
   | true => have := rd L i hL hi (fun _ => hl0); rw [h1] at this; cases this
   | false => have := (rd0 L hL hl0).2; rw [h1] at this; cases this
  | succ f =>
   obtain ⟨h1, h2⟩ := h
   refine ⟨fun hr => h1 ?_, fun i hi => ?_⟩
   ·rw [List.eq_nil_iff_forall_not_mem]
    intro i hi
    have hio := (X1n.1 hi).1
    have hnl : L.getD i false = false := by
     have h3 := (X1n.1 hi).2.1
     have hil : i < L.size := by omega
     simp only [Array.getD_eq_getD_getElem?, Array.getElem?_eq_getElem hil, Option.getD_some] at h3 ⊢
     exact h3
    have : i ∈ Region.ready .any ops L := by
     by_cases hic : i = c
     ·subst hic
      refine X4m (o := oc) hL (by simpa using hc) hnl fun j hj => ?_
      exact X5j hi (by simpa using hc') j ((X9k oc j).2 (.inl hj))
     ·have hx := Xb9 hc i
      rw [if_neg hic] at hx
      have hlt : i < ops.size := by omega
      refine X4m (o := ops[i]) hL (by simp [hlt]) hnl fun j hj => ?_
      exact X5j hi (o := ops[i]) (by rw [Array.getElem?_toList, hx]; simp [hlt]) j hj
    rw [hr] at this; cases this
   ·have hio := (X1n.1 hi).1
    by_cases hs : i = c /\ L.getD 0 false = false
    ·obtain ⟨rfl, hl0⟩ := hs
     obtain ⟨_, r0⟩ := rd0 L hL hl0
     have s1 := (mv _ _ a w h0').1 (h2 0 r0)
     have hL0 : (L.setIfInBounds 0 true).size = ops.size := by simpa using hL
     have hi0 : i ∈ Region.ready .any (X0z ops i) (L.setIfInBounds 0 true) := by
      have ho : ops.toList[i]? = some oc := by simpa using hc
      refine X4m (o := Xck oc) (by omega) (by simpa using hc') ?_ fun j hj => ?_
      ·rw [X38 (by omega)]
       have h3 := (X1n.1 hi).2.1
       have hil : i < L.size := by omega
       simp only [Array.getD_eq_getD_getElem?, Array.getElem?_eq_getElem hil, Option.getD_some] at h3 ⊢
       have hb : Nat.beq i 0 = false := by rw [<- Bool.not_eq_true, Nat.beq_eq]; exact hc0
       rw [h3, hb]; rfl
      ·rw [X38 (by omega)]
       rcases (X9k oc j).1 hj with h3 | rfl
       ·rw [X5j hi ho j h3]; rfl
       ·simp
     cases f with
     | zero => exact absurd hi0 (by rw [s1.1]; exact fun h => by cases h)
     | succ f =>
      have s2 := Xfi hQ hc' (by exact hgc) (s1.2 i hi0)
      refine Xfj hc hgc (Oper.wp_put hQ (a2 := a.put (some d0) (a.eval (.tmp src))) (hex _ _) (hres a w) (fun v w' hk => ?_) (Xgk s2))
      rw [hdc] at hk ⊢
      have hLi : (L.setIfInBounds i true).size = ops.size := by simpa using hL
      have hCi := hcl L i hL hC hi
      have hl0i : (L.setIfInBounds i true).getD 0 false = false := by
       have hb : Nat.beq 0 i = false := by rw [<- Bool.not_eq_true, Nat.beq_eq]; exact Ne.symm hc0
       rw [X38 (by omega), hl0, hb]; rfl
      refine ⟨fun hr => (by have := (rd0 _ hLi hl0i).1; rw [hr] at this; cases this), fun k hk2 => ?_⟩
      have hk0 : k = 0 := by
       refine Classical.byContradiction fun hk0 => ?_
       have hks := (X1n.1 hk2).1
       have hki : k ≠ i := by
        rintro rfl
        have h3 := (X1n.1 hk2).2.1
        have hil : k < L.size := by omega
        simp [Array.getD_eq_getD_getElem?, hil] at h3
       rcases hall k hks hk0 hki with h3 | h3
       ·have h4 := Xb1 hpre hC hi h3
        have h5 := (X1n.1 hk2).2.1
        have hkl : k < L.size := by omega
        rw [Array.getD_eq_getD_getElem?, Array.getElem?_setIfInBounds_ne (fun e => hki e.symm), Array.getElem?_eq_getElem hkl] at h5
        rw [Array.getD_eq_getD_getElem?, Array.getElem?_eq_getElem hkl] at h4
        simp only [Option.getD_some] at h4 h5
        rw [h4] at h5; cases h5
       ·have h4 := Xb1 hpre hCi hk2 h3
        rw [hl0i] at h4; cases h4
      subst hk0
      refine (mv _ _ _ _ h0).2 ?_
      have hev : (a.put (some dc) v).eval (.tmp src) = a.eval (.tmp src) := by
       simp [Act.put, Act.eval, Array.getD_eq_getD_getElem?, Array.getElem?_setIfInBounds_ne hns]
      rw [hev, Xov _ _ _ hne]
      have hco : (L.setIfInBounds i true).setIfInBounds 0 true = (L.setIfInBounds 0 true).setIfInBounds i true := by rw [Array.setIfInBounds_comm _ _ hc0]
      rw [hco]
      refine ih f (by omega) _ _ _ (by simpa using hL) ?_ hk
      rw [<- hco]
      exact hcl _ 0 hLi hCi (rd0 _ hLi hl0i).1
    ·have hr' := rd L i hL hi (fun e => by
      cases hl0 : L.getD 0 false with
      | true => rfl
      | false => exact absurd ⟨e, hl0⟩ hs)
     have h3 := h2 i hr'
     have hgo : ops[i].guard = none := hg i _ (by simp [hio])
     have hLi : (L.setIfInBounds i true).size = ops.size := by simpa using hL
     have hio' : ops[i]? = some ops[i] := by simp [hio]
     by_cases hic : i = c
     ·subst hic
      have hoc : ops[i] = oc := by rw [hio'] at hc; exact Option.some.inj hc
      refine Xfj hc hgc (Oper.wp_mono (fun v w' hk => ih f (by omega) _ _ _ hLi (hcl L i hL hC hi) hk) (Xgk (Xfi hQ hc' (by exact hgc) h3)))
     ·have hx := Xb9 hc i
      rw [if_neg hic, hio'] at hx
      refine Xfj hio' hgo (Oper.wp_mono (fun v w' hk => ih f (by omega) _ _ _ hLi (hcl L i hL hC hi) hk) (Xfi hQ hx hgo h3))
end
theorem Xqt {nt n0 : Nat} {c0 : Ctx} {H0 : X0l} {Q : X0d -> St -> Mu -> Prop} : (∀ ch a w, ¬ MQ nt c0 H0 n0 Q (.panic ch) a w) /\ ∀ a w, ¬ MQ nt c0 H0 n0 Q .outgrown a w := by
 constructor
 ·rintro ch a w ⟨c, s, ae, μ, _, _, _, h, _⟩; cases ae <;> cases h
 ·rintro a w ⟨c, s, ae, μ, _, _, _, h, _⟩; cases ae <;> cases h
theorem Xou {P : Program} {T : Ty} {nt n0 j n : Nat} {ops : Array Oper} {L L' : List (Nat × AV)} {G G' : List (Nat × Obj)} {Q : X0d -> St -> Mu -> Prop} {μ : Mu} (hT : X7o P T /\ P.follows .mixedOrders = true) (hpre : X4d 0 ops.toList = true)
  (hjl : Nat.ble j ops.size = true) (hbar : Xhb j ops.toList = true) (hgd : Xa6 (ops.toList.take j) = true) (hs : List X4g) {hs' : List X4g} {ps' : List Prop}
  (h : Xc3 P T nt n ⟨ops.toList.take j⟩ (X1d (ops.toList.take j)) ((X1d (ops.toList.take j)).zip ((ops.toList.take j).map fun o => X1h o.op)) 0 (ops.toList.take j) L G [] hs [] = some (L', G', hs', ps')) (hp' : X3q ps')
  (k : X47 P nt n0 ops (ops.toList.drop j) (fun s μ => Q .normal s μ) ⟨fr L', hp G', n + j⟩ μ) (hμ : Xaf μ = true) : ∀ (c0 : Ctx) (HH : X0l) (c : Ctx) (act : Act), X33 nt c0 HH n0 c ⟨fr L, hp G, n⟩ act -> MOk n0 c0 c (hp G) μ act -> wpAny P .any ops (MQ nt c0 HH n0 Q) ops.size (Array.replicate ops.size false) act { c.w with drawn := c.w.drawn + 1 } := by
 have hjl' : j <= ops.size := by simpa using hjl
 obtain ⟨_, hrun⟩ := Xg9 _ _ _ _ _ _ _ _ _ _ _ h hp'
 obtain ⟨rs, hall, hA, hH⟩ := hrun.all (fr L) (hp G) [] (Nat.zero_le _) rfl rfl rfl rfl rfl (fun k o r _ hr => by simp at hr)
 have hpl : X4d 0 (ops.toList.take j) = true := by
  have key : ∀ (l : List Oper) (i k : Nat), X4d i l = true -> X4d i (l.take k) = true := by
   intro l
   induction l with
   | nil => intro i k _; simp [X4d]
   | cons a l ih =>
    intro i k h
    cases k with
    | zero => rfl
    | succ k =>
     simp only [X4d, Bool.and_eq_true, List.take_succ_cons] at h ⊢
     exact ⟨h.1, ih _ _ h.2⟩
  exact key _ _ _ hpre
 have hlenp : (ops.toList.take j).length = j := by rw [List.length_take, Array.length_toList]; omega
 intro c0 HH c act g0 hm
 have g := g0.rebase.drew
 have hz : ∀ m k, (Array.replicate m false).getD k false = false := by
  intro m k
  simp only [Array.getD_eq_getD_getElem?, Array.getElem?_replicate]
  split <;> rfl
 have hfn : ∀ m, (fun k => (Array.replicate m false).getD k false) = (fun _ => false) := fun m => funext (hz m)
 have hM : ∀ q, q < n -> AtS n (fun _ => false) q := fun q h => .inl h
 have hdg := Xg8 (n0 := n0) (Q := fun e s => e = .normal /\ s = ⟨fr L', hp G', n + j⟩) hT.1 (ops := ⟨ops.toList.take j⟩) hpl hall ⟨rfl, by rw [hA, hH]; congr 1; simp only [hlenp]⟩ (c0 := c) (HH := hp G) g.le0 j (Array.replicate j false) (List.range j)
  { c with w := { c.w with drawn := c.w.drawn + 1 } } act (by simp [hlenp]) (by simp) (fun k hk _ => List.mem_range.2 (by simpa [hlenp] using hk)) (fun i o _ h => by rw [hz] at h; cases h) (by
   rw [hfn, X69, X69]
   exact ⟨g.inv.more hM, g.solo, g.frame, fun t => (g.ok t).mono hM, g.size, g.reach, fun q hq => hM q (Nat.lt_of_lt_of_le hq g.le0)⟩) rfl
 have := Xgm (Q := MQ nt c0 HH n0 Q) (pre := ⟨ops.toList.take j⟩) (R := CQ nt c (hp G) n0 act.defers (fun e s => e = .normal /\ s = ⟨fr L', hp G', n + j⟩)) (j := j) rfl hjl' hpre hbar hgd
  (by rintro e a w hne ⟨c', s', ae, _, _, _, rfl, rfl, _⟩; exact absurd rfl hne) (ops.size - j) (by
   rintro listed a w hsz hl ⟨c', s', ae, rfl, g', hd', _, rfl, rfl⟩
   refine Xgl hpre hbar (ops.size - j) j listed a c'.w hsz (Nat.le_refl _) (by omega) hl ?_
   exact k c0 HH c' a (.join g0.reach g') (hm.kept g'.reach hd') _ (fun c2 s2 a2 μ2 g2 hm2 hq => ⟨c2, s2, .normal, μ2, rfl, g2, hm2, rfl, hq⟩) none (fun _ => hμ))
  j (Array.replicate j false) (Array.replicate ops.size false) act { c.w with drawn := c.w.drawn + 1 } (by simp [hlenp]) (by simp) (fun k => by rw [hz, hz]; rfl) (fun i o _ h => by rw [hz] at h; cases h) hdg
 rwa [show j + (ops.size - j) = ops.size by omega] at this
theorem X3t.drawnCutF {P : Program} {T : Ty} {nt n0 id j n : Nat} {ops0 : Array Oper} {L L' : List (Nat × AV)} {G G' : List (Nat × Obj)} {Q : X0d -> St -> Mu -> Prop} {μ : Mu} (hT : X7o P T /\ P.follows .mixedOrders = true)
  {d0 dc src x y : Nat} {o0 oc : Oper} {ts : Array TypeId} (hpre0 : X4d 0 ops0.toList = true) (h0 : ops0[0]? = some o0) (hop : o0.op = .move (.tmp src)) (hg0 : o0.guard = none) (hd0 : o0.dst = some d0) (hp0 : X6o o0 = [])
  (hc : ops0[j]? = some oc) (hc0 : j ≠ 0) (hoc : oc.op = .call { callee := .builtin .copy, args := #[.tmp x, .tmp y], argTypes := ts }) (hgc : oc.guard = none) (hdc : oc.dst = some dc) (hne : dc ≠ d0) (hns : dc ≠ src) (hx0 : x ≠ d0) (hy0 : y ≠ d0)
  (hgs' : (ops0.toList.all fun o => o.guard.isNone) = true) (hall' : ((List.range ops0.size).all fun i => Nat.beq i 0 || Nat.beq i j || ((X1d ops0.toList).getD j 0).testBit i || ((X1d ops0.toList).getD i 0).testBit 0) = true)
  (hpre : X4d 0 (X0z ops0 j).toList = true)
  (hjl : Nat.ble j (X0z ops0 j).size = true) (hbar : Xhb j (X0z ops0 j).toList = true) (hgd : Xa6 ((X0z ops0 j).toList.take j) = true) (hs : List X4g) {hs' : List X4g} {ps' : List Prop}
  (h : Xc3 P T nt n ⟨(X0z ops0 j).toList.take j⟩ (X1d ((X0z ops0 j).toList.take j)) ((X1d ((X0z ops0 j).toList.take j)).zip (((X0z ops0 j).toList.take j).map fun o => X1h o.op)) 0 ((X0z ops0 j).toList.take j) L G [] hs [] = some (L', G', hs', ps')) (hp' : X3q ps')
  (k : X47 P nt n0 (X0z ops0 j) ((X0z ops0 j).toList.drop j) (fun s μ => Q .normal s μ) ⟨fr L', hp G', n + j⟩ μ) (hμ : Xaf μ = true := by rfl) : X3t P nt n0 (.region id ops0 true) Q ⟨fr L, hp G, n⟩ μ := by
 have hgs : ∀ (i : Nat) (o : Oper), ops0[i]? = some o -> o.guard = none := fun i o ho => by
  have := List.all_eq_true.1 hgs' o (List.mem_of_getElem? (i := i) (by simpa using ho))
  simpa using this
 have hall : ∀ i, i < ops0.size -> i ≠ 0 -> i ≠ j -> ((X1d ops0.toList).getD j 0).testBit i = true \/ ((X1d ops0.toList).getD i 0).testBit 0 = true := fun i hi h1 h2 => by
  have := List.all_eq_true.1 hall' i (List.mem_range.2 hi)
  simp only [Bool.or_eq_true, Nat.beq_eq] at this
  rcases this with ((h3 | h3) | h3) | h3
  ·exact absurd h3 h1
  ·exact absurd h3 h2
  ·exact .inl h3
  ·exact .inr h3
 have hex : ∀ (a : Act) v, execOp (a.put (some d0) v).eval oc = execOp a.eval oc := fun a v => by
  obtain ⟨dst, op, type, pos, after, guard⟩ := oc
  simp only at hoc
  subst hoc
  have e1 : (a.put (some d0) v).eval (.tmp x) = a.eval (.tmp x) := by simp [Act.put, Act.eval, Array.getD_eq_getD_getElem?, Array.getElem?_setIfInBounds_ne (Ne.symm hx0)]
  have e2 : (a.put (some d0) v).eval (.tmp y) = a.eval (.tmp y) := by simp [Act.put, Act.eval, Array.getD_eq_getD_getElem?, Array.getElem?_setIfInBounds_ne (Ne.symm hy0)]
  simp [execOp, resolve, e1, e2]
 have hres : ∀ (a : Act) w n w', (execOp a.eval oc).run P w = .ok n w' -> ∃ v, n = .value v := fun a w n w' hr => by
  obtain ⟨dst, op, type, pos, after, guard⟩ := oc
  simp only at hoc
  subst hoc
  simp [execOp, resolve, invoke, builtin] at hr
  cases hq : Sem.run P (Builtin.copy_ ts type #[a.eval (.tmp x), a.eval (.tmp y)]) w with
  | ok v w2 => rw [hq] at hr; simp at hr; exact ⟨v, hr.1.symm⟩
  | halt e w2 => rw [hq] at hr; simp [Result.andThen] at hr
 intro c0 HH c act g hm R0 hR0
 obtain rfl := hR0 rfl
 refine X6v.2 (wp_region_any hT.2 ?_)
 refine Xhj (ops := ops0) (c := j) Xqt hpre0 h0 hop hg0 hd0 hp0 hc hc0 hgc hdc hne hns hgs hres hex hall ops0.size (Array.replicate ops0.size false) act _ (by simp) (fun i o _ hi => by
  simp only [Array.getD_eq_getD_getElem?, Array.getElem?_replicate] at hi
  split at hi <;> cases hi) ?_
 have := Xou (L := L) (G := G) (n := n) hT hpre hjl hbar hgd hs h hp' k hμ c0 HH c act g hm
 rwa [show (X0z ops0 j).size = ops0.size by simp [X0z]] at this
theorem Xa.drawnCutF {P : Program} {T : Ty} {nt n0 id n : Nat} {ops0 : Array Oper} {L L' : List (Nat × AV)} {G G' : List (Nat × Obj)} {K : List Kn} {Q : X0d -> St -> Mu -> Prop} {μ : Mu} (j : Nat) (hT : X7o P T /\ P.follows .mixedOrders = true) (hs : List X4g) {hs' : List X4g} {ps' : List Prop}
  {d0 dc src x y : Nat} {o0 oc : Oper} {ts : Array TypeId} (hpre0 : X4d 0 ops0.toList = true) (h0 : ops0[0]? = some o0) (hop : o0.op = .move (.tmp src)) (hg0 : o0.guard = none) (hd0 : o0.dst = some d0) (hp0 : X6o o0 = [])
  (hc : ops0[j]? = some oc) (hc0 : j ≠ 0) (hoc : oc.op = .call { callee := .builtin .copy, args := #[.tmp x, .tmp y], argTypes := ts }) (hgc : oc.guard = none) (hdc : oc.dst = some dc) (hne : dc ≠ d0) (hns : dc ≠ src) (hx0 : x ≠ d0) (hy0 : y ≠ d0)
  (hgs' : (ops0.toList.all fun o => o.guard.isNone) = true) (hall' : ((List.range ops0.size).all fun i => Nat.beq i 0 || Nat.beq i j || ((X1d ops0.toList).getD j 0).testBit i || ((X1d ops0.toList).getD i 0).testBit 0) = true)
  (hpre : X4d 0 (X0z ops0 j).toList = true)
  (hjl : Nat.ble j (X0z ops0 j).size = true) (hbar : Xhb j (X0z ops0 j).toList = true) (hgd : Xa6 ((X0z ops0 j).toList.take j) = true)
  (h : Xc3 P T nt n ⟨(X0z ops0 j).toList.take j⟩ (X1d ((X0z ops0 j).toList.take j)) ((X1d ((X0z ops0 j).toList.take j)).zip (((X0z ops0 j).toList.take j).map fun o => X1h o.op)) 0 ((X0z ops0 j).toList.take j) L G [] hs [] = some (L', G', hs', ps')) (hp' : X3q ps')
  (k : Xa P nt n0 Q (.ops (X0z ops0 j) ((X0z ops0 j).toList.drop j)) K ⟨fr L', hp G', n + j⟩ μ) (hμ : Xaf μ = true := by rfl) : Xa P nt n0 Q (.code (.region id ops0 true)) K ⟨fr L, hp G, n⟩ μ :=
 X3t.drawnCutF hT hpre0 h0 hop hg0 hd0 hp0 hc hc0 hoc hgc hdc hne hns hx0 hy0 hgs' hall' hpre hjl hbar hgd hs h hp' k hμ
end Go.Av


namespace Go.Av
inductive Tab (V : Type) where
 | leaf
 | node (k : Nat) (v : V) (l r : Tab V)
noncomputable def Tab.find {V : Type} (t : Tab V) : Nat -> Option V :=
 Tab.rec (motive := fun _ => Nat -> Option V) (fun _ => none) (fun k v _ _ ihl ihr n => bif Nat.beq n k then some v else bif Nat.blt n k then ihl n else ihr n) t
theorem Tab.find_node {V : Type} (k : Nat) (v : V) (l r : Tab V) (t : Nat) : (Tab.node k v l r).find t = bif Nat.beq t k then some v else bif Nat.blt t k then l.find t else r.find t := rfl
def Tab.All {V : Type} (p : Nat -> V -> Prop) : Tab V -> Prop
 | .leaf => True
 | .node k v l r => p k v /\ l.All p /\ r.All p
theorem Tab.find_all {V : Type} {p : Nat -> V -> Prop} : ∀ (t : Tab V), t.All p -> ∀ k v, t.find k = some v -> p k v := by
 intro t
 induction t with
 | leaf => intro _ k v h; cases h
 | node k' v' l r ihl ihr =>
  intro h k v hf
  obtain ⟨h1, h2, h3⟩ := h
  rw [Tab.find_node] at hf
  cases hb : Nat.beq k k' with
  | true =>
   rw [hb, cond_true] at hf
   cases hf
   have : k = k' := Nat.eq_of_beq_eq_true hb
   subst this; exact h1
  | false =>
   rw [hb, cond_false] at hf
   cases hlt : Nat.blt k k' with
   | true => rw [hlt, cond_true] at hf; exact ihl h2 k v hf
   | false => rw [hlt, cond_false] at hf; exact ihr h3 k v hf
theorem Xly {P : Program} {t : Tab TI} (h : t.All (X2q P)) : X7o P t.find := fun k v hf => t.find_all h k v hf
theorem X51 {P : Program} {t : Nat} {i : TypeInfo} {d : TypeDesc} {z : Value} (hi : P.info? t = some i) (hd : P.underlying t = some d) (hz : i.zero = some z)
  (hw : ((X2h z).whole && Nat.beq (X2h z).cells.length i.size) = true) : X2q P t ⟨X0c d, i.size, i.bytes, z, false⟩ := by
 simp only [Bool.and_eq_true] at hw
 exact ⟨⟨i, d, hi, hd, hz, rfl, rfl, rfl⟩, ⟨hw.1, Nat.eq_of_beq_eq_true hw.2⟩, fun h => by cases h⟩
theorem Xak {P : Program} {t : Nat} {i : TypeInfo} {d : TypeDesc} {z : Value} (hi : P.info? t = some i) (hd : P.underlying t = some d) (hz : i.zero = some z)
  (hw : ((X2h z).whole && Nat.beq (X2h z).cells.length i.size) = true) (h1 : P.stoodInHeld t = false) (h2 : P.eqGuardType P.depth t = false)
  (h3 : (match d with | .struct fs => fs.toList.all (fun f => !(f.name == "_")) | _ => true) = true) : X2q P t ⟨X0c d, i.size, i.bytes, z, true⟩ := by
 simp only [Bool.and_eq_true] at hw
 refine ⟨⟨i, d, hi, hd, hz, rfl, rfl, rfl⟩, ⟨hw.1, Nat.eq_of_beq_eq_true hw.2⟩, fun _ => ⟨h1, h2, fun fs hfs f hf => ?_⟩⟩
 rw [hd] at hfs
 cases hfs
 have := List.all_eq_true.1 h3 f (by simpa using hf)
 simpa using this
def X01 (fn : Func) : Code := fn.body.getD .skip
end Go.Av
