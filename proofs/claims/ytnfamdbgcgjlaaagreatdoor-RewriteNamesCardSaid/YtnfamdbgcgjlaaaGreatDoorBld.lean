/- Parts of the proof, laid together. -/
import Derived.Test.YtnfamdbgcgjlaaaGreatDoorAvd
import Derived.Shelf.RegionOpenPlain
import Derived.WalkKit
import Derived.Lib.Walk
import Derived.Lib.AppendZerosOnto
import Derived.Lib.Overlaps
import Derived.Laws.Externs
import Derived.Laws.IdiomCopy
import Derived.Laws.NewBlocks
import Derived.Shelf.Strings.OnBuilder
import Derived.Test.YtnfamdbgcgjlaaaGreatDoorProg
import Derived.Test.YtnfamdbgcgjlaaaGreatDoorAvb
import Derived.Shelf.Strings.BuilderK
import Derived.Deep.RegionWith
import Derived.Test.YtnfamdbgcgjlaaaGreatDoorAve
set_option linter.all false
namespace Go.Av
variable [Gls]
open Go.RowKit Go.Lib
section
variable {P : Program}
theorem run_copyK {dT sT ty elem : TypeId} {g o K dLen dCap sLen sCap : Nat} {a : Addr} {w : World} {cur : Array Value} {e' : TypeId} {cs : List Value}
    (hu : P.underlying dT = some (.slice elem)) (hz : ∀ w, (Go.sizeOf elem).run P w = .ok K w) (hn : cs.length = (min sLen dLen) * K) (hsrc : ∀ (j : Nat) v, cs[j]? = some v → w.cell? (a.add j) = some v)
    (hg : w.heap[g]? = some (.cells cur e' (0, 0))) (hfit : o + cs.length ≤ cur.size) (h1 : ∀ v ∈ cs, v.oneCell' = true) :
    (Builtin.copy_ #[dT, sT] ty #[.slice (some ⟨g, o, none⟩) dLen dCap, .slice (some a) sLen sCap]).run P w = .ok (goInt (min sLen dLen : Nat)) (w.setRow g (cur.toList.take o ++ cs ++ cur.toList.drop (o + cs.length)).toArray) := by
  have hl := run_loadCells_list (P := P) w a cs hsrc
  have hst := run_storeCells_at P g o e' cs 0 cur w hg (by simpa using hfit) h1
  simp only [Nat.add_zero] at hst
  rw [hn] at hl
  have hmin : Nat.min sLen dLen = min sLen dLen := rfl
  simp [Builtin.copy_, run_underlying hu, Builtin.lenOf, Builtin.firstCells, hz, hmin, hl, hst]
theorem wpList_copyK (w : World) {ops : Array Oper} {rest : List Oper} {o : Oper} {a : Act} {Q : Exit → Act → World → Prop} (hgd : o.guard = none) (d s : Operand) (t t' : TypeId)
    (ho : o.op = .call { callee := .builtin .copy, args := #[d, s], argTypes := #[t, t'] }) (v u : Value) (hd : a.eval d = v) (hs : a.eval s = u) {v' : Value} {w' : World}
    (hr : (Builtin.copy_ #[t, t'] o.type #[v, u]).run P w = .ok v' w') (h : wpList P ops Q rest (a.put o.dst v') w') : wpList P ops Q (o :: rest) a w :=
  wpList_plain hgd fun _ hK => by
    unfold Oper.wp execOp
    simp only [ho, resolve, invoke, builtin, Sem.run_bind, Sem.run_pure, Result.andThen_ok, List.map_toArray, List.map_cons, List.map_nil, hd, hs, hr]
    exact hK _ _ h
theorem step_copyK {ops : Array Oper} {o : Oper} {a : Act} {w : World} {K : Act → World → Prop} {Q : Exit → Act → World → Prop} {E : Prop}
    (hg : o.guard = none) (d x : Operand) (dT sT : TypeId) (hop : o.op = Op.call { callee := Callee.builtin Builtin.copy, args := #[d, x], argTypes := #[dT, sT] })
    (v u : Value) (hd : a.eval d = v) (hx : a.eval x = u) {v' : Value} {w' : World} (hr : (Builtin.copy_ #[dT, sT] o.type #[v, u]).run P w = .ok v' w') (hK : K (a.put o.dst v') w') :
    if Region.wanted o (yielded ops a.tmps) = true then Oper.wp P o a w K Q else E := by
  have hw : Region.wanted o (yielded ops a.tmps) = true := by simp [Region.wanted, hg]
  rw [if_pos hw]
  unfold Oper.wp
  simp [execOp, hop, resolve, invoke, builtin, hd, hx, hr, Result.andThen]
  exact hK
end
theorem step_appendK {P : Program} {ops : Array Oper} {o : Oper} {a : Act} {w : World} {K : Act → World → Prop} {Q : Exit → Act → World → Prop} {E : Prop}
    (hg : o.guard = none) (d x : Operand) (dT sT : TypeId) (hop : o.op = Op.call { callee := Callee.builtin Builtin.append, args := #[d, x], argTypes := #[dT, sT] })
    (v u : Value) (hd : a.eval d = v) (hx : a.eval x = u) {v' : Value} {w' : World} (hr : (Builtin.append_ #[dT, sT] o.type #[v, u]).run P w = .ok v' w') (hK : K (a.put o.dst v') w') :
    if Region.wanted o (yielded ops a.tmps) = true then Oper.wp P o a w K Q else E := by
  have hw : Region.wanted o (yielded ops a.tmps) = true := by simp [Region.wanted, hg]
  rw [if_pos hw]
  unfold Oper.wp
  simp [execOp, hop, resolve, invoke, builtin, hd, hx, hr, Result.andThen]
  exact hK
theorem run_clearK {P : Program} {t e ty : TypeId} {g o n cap : Nat} {w : World} {cur : Array Value} {e' : TypeId} {z : Value} (hu : P.underlying t = some (.slice e)) (hv : ∀ w, (zeroValue e).run P w = .ok z w) (hn : 0 < n)
    (hg : w.heap[g]? = some (.cells cur e' (0, 0))) (hfit : o + (Builtin.zeroCells z.cells n).toList.length ≤ cur.size) (h1 : ∀ v ∈ (Builtin.zeroCells z.cells n).toList, v.oneCell' = true) :
    (Builtin.clear_ #[t] ty #[.slice (some ⟨g, o, none⟩) n cap]).run P w = .ok (.tuple #[]) (w.setRow g (cur.toList.take o ++ (Builtin.zeroCells z.cells n).toList ++ cur.toList.drop (o + (Builtin.zeroCells z.cells n).toList.length)).toArray) := by
  have hst := run_storeCells_at P g o e' (Builtin.zeroCells z.cells n).toList 0 cur w hg (by simpa using hfit) h1
  simp only [Nat.add_zero] at hst
  obtain ⟨m, rfl⟩ : ∃ m, n = m + 1 := ⟨n - 1, by omega⟩
  simp [Builtin.clear_, run_underlying hu, hv, hst]
theorem SemK.hcall {P : Program} {nt n0 f : Nat} {Q : AExit → St → Mu → Prop} {ops : Array Oper} {l : List Oper} {o : Oper} {K : List Kn} {L : List (Nat × AV)} {G : List (Nat × Obj)} {n : Nat} {μ : Mu} {x : Operand} {args : Array Operand} {ts : Array Nat}
    {caps avs : List AV} {r : AV} {G' : List (Nat × Obj)} {n' : Nat} (ho : o.op = .call { callee := .value x, args := args, argTypes := ts }) (hg : o.guard = none) (hd : dstOk nt o.dst = true) {qx qa : List Prop} (hx : rd L x = (.fn f caps, qx)) (ha : rds L args.toList = (avs, qa)) (hpx : allP qx) (hpa : allP qa)
    (hc : HC P f (avs ++ caps) (hp G) n (fun r2 H2 n2 => r2 = r ∧ H2 = hp G' ∧ n2 = n'))
    (h : SemK P nt n0 Q (.ops ops l) K ⟨fr (putO o.dst r L), hp G', n'⟩ μ) : SemK P nt n0 Q (.ops ops (o :: l)) K ⟨fr L, hp G, n⟩ μ := by
  refine SemLM.plain (s := ⟨fr L, hp G, n⟩) hg (dstOk_lt hd) (OpR.call (s := ⟨fr L, hp G, n⟩) ho (rd_ok hx hpx) ?_) (R := fun r2 H2 n2 => r2 = r ∧ H2 = hp G' ∧ n2 = n') ?_
  · rw [rds_ok ha hpa]; exact hc
  · rintro _ _ _ ⟨rfl, rfl, rfl⟩
    rw [putO_fr] at h
    exact h
end Go.Av
namespace Go.Av
def row3 (cur : Array Value) (o : Nat) (vs : List Value) : Array Value := (cur.toList.take o ++ vs ++ cur.toList.drop (o + vs.length)).toArray
theorem row3_size {cur : Array Value} {o : Nat} {vs : List Value} (h : o + vs.length ≤ cur.size) : (row3 cur o vs).size = cur.size := by
  simp only [row3, List.size_toArray, List.length_append, List.length_take, List.length_drop, Array.length_toList]; omega
theorem row3_get {cur : Array Value} {o : Nat} {vs : List Value} (h : o + vs.length ≤ cur.size) (j : Nat) : (row3 cur o vs)[j]? = if o ≤ j ∧ j < o + vs.length then vs[j - o]? else cur[j]? := by
  simp only [row3, List.append_assoc, List.getElem?_toArray]
  rw [List.getElem?_append, List.getElem?_append]
  simp only [List.length_take, Array.length_toList, Nat.min_eq_left (show o ≤ cur.size by omega)]
  by_cases h1 : j < o
  · rw [if_pos h1, if_neg (by omega), List.getElem?_take, if_pos h1]; simp
  · rw [if_neg h1]
    by_cases h2 : j - o < vs.length
    · rw [if_pos h2, if_pos (by omega)]
    · rw [if_neg h2, if_neg (by omega), List.getElem?_drop]
      simp only [Array.getElem?_toList]
      congr 1; omega
theorem setRow_twice {w : World} {b : Nat} {cur R1 R2 : Array Value} {ety : TypeId} (h : w.heap[b]? = some (.cells cur ety (0, 0))) : ((w.drew.setRow b R1).setRow b R2).heap = (w.setRow b R2).heap := by
  apply Array.ext_getElem?
  intro q
  have h1 : (w.drew.setRow b R1).heap[b]? = some (.cells R1 ety (0, 0)) := setRow_heap w.drew b cur R1 ety (0, 0) h
  by_cases hq : q = b
  · subst hq
    rw [setRow_heap _ q R1 R2 ety (0, 0) h1, setRow_heap w q cur R2 ety (0, 0) h]
  · rw [setRow_other _ _ _ _ hq, setRow_other _ _ _ _ hq, setRow_other _ _ _ _ hq]; rfl
theorem setRow_new {w : World} {ROW R1 R2 : Array Value} {ety : TypeId} : ((((w.alloc (.cells ROW ety)).drew.setRow w.heap.size R1).drew).setRow w.heap.size R2).heap = w.heap.push (.cells R2 ety) := by
  apply Array.ext_getElem?
  intro q
  have h0 : (w.alloc (.cells ROW ety)).drew.heap[w.heap.size]? = some (.cells ROW ety (0, 0)) := by
    show (w.heap.push _)[w.heap.size]? = _
    simp
  have h1 : ((w.alloc (.cells ROW ety)).drew.setRow w.heap.size R1).drew.heap[w.heap.size]? = some (.cells R1 ety (0, 0)) := setRow_heap _ _ ROW R1 ety (0, 0) h0
  by_cases hq : q = w.heap.size
  · subst hq
    rw [setRow_heap _ _ R1 R2 ety (0, 0) h1]; simp
  · rw [setRow_other _ _ _ _ hq]
    show ((w.alloc (.cells ROW ety)).drew.setRow w.heap.size R1).heap[q]? = _
    rw [setRow_other _ _ _ _ hq]
    show (w.heap.push _)[q]? = _
    rw [Array.getElem?_push, Array.getElem?_push, if_neg hq, if_neg hq]
def Ends (c : Ctx) (H : Heap) (n : Nat) (w' : World) (c' : Ctx) (H' : Heap) : Prop :=
  c'.w = w' ∧ c.Le (· < n) c' ∧ c'.Sa = c.Sa ∧ (∀ b, c'.So b → c.So b ∨ c.w.heap.size ≤ b ∨ ∃ o x, H o = some x ∧ (c.ρ o).blk = b) ∧ Fr c H w' ∧ OwnRel c H c' H' ∧ Inv c' H' (· < n + 1) ∧ (∀ o x, H' o = some x → x.solo = true ∧ x.spent = false)
theorem ends_in_place {c : Ctx} {H : Heap} {n o : Nat} {y : Obj} {es' : List AV} {cur new : Array Value} {w' : World} (hI : Inv c H (· < n)) (hs : ∀ o x, H o = some x → x.solo = true ∧ x.spent = false) (hH : H o = some y)
    (hcb : c.w.heap[(c.ρ o).blk]? = some (.cells cur (c.ρ o).ety (0, 0))) (hnsz : new.size = cur.size) (hlen : es'.length ≤ (c.ρ o).cap)
    (hrel : ∀ (i : Nat) e, es'[i]? = some e → e.cells.length = (c.ρ o).esz ∧ ∀ (k : Nat) a, e.cells[k]? = some a → a.Ok (· < n) ∧ ∃ v, new[i * (c.ρ o).esz + k]? = some v ∧ VRel c false a v ∧ v.oneCell' = true)
    (hw : w'.heap = (c.w.setRow (c.ρ o).blk new).heap) (h1 : w'.os = c.w.os) (h2 : w'.tape = c.w.tape) (h3 : w'.output = c.w.output ∧ dr c.w ≤ dr w') :
    ∃ c', c'.ρ n = c.ρ o ∧ Ends c H n w' c' (upd (upd H o none) n (some { y with es := es' })) := by
  obtain ⟨hle, hI1, hfr, hown⟩ := obj_write hI hH (hs o y hH).1 hcb hnsz hlen hrel
  have hMo := (hI.obj o y hH).1
  have hle2 : Ctx.Le (· < n) ⟨c.w.setRow (c.ρ o).blk new, c.ρ, c.Sa, c.So, c.B⟩ ⟨w', upd c.ρ n (c.ρ o), c.Sa, c.So, c.B⟩ :=
    ⟨fun q hq => upd_other _ _ (Nat.ne_of_lt hq), fun _ h => h, fun _ h => h, fun b _ => by show w'.heap[b]? = _; rw [hw], rfl⟩
  have hcase : ∀ q z, upd (upd H o none) n (some { y with es := es' }) q = some z → ∃ q', upd H o (some { y with es := es' }) q' = some z ∧ upd c.ρ n (c.ρ o) q = c.ρ q' ∧ ((q = n ∧ q' = o) ∨ (q ≠ n ∧ q ≠ o ∧ q' = q)) := by
    intro q z hz
    by_cases hq : q = n
    · subst hq; rw [upd_same] at hz; cases hz; exact ⟨o, upd_same _ _ _, upd_same _ _ _, .inl ⟨rfl, rfl⟩⟩
    · rw [upd_other _ _ hq] at hz
      by_cases hqo : q = o
      · subst hqo; rw [upd_same] at hz; cases hz
      · rw [upd_other _ _ hqo] at hz; exact ⟨q, by rw [upd_other _ _ hqo]; exact hz, upd_other _ _ hq, .inr ⟨hq, hqo, rfl⟩⟩
  have hsolo : ∀ q z, upd (upd H o none) n (some { y with es := es' }) q = some z → z.solo = true ∧ z.spent = false := by
    intro q z hz
    obtain ⟨q', hz', _, _⟩ := hcase q z hz
    by_cases hq : q' = o
    · subst hq; rw [upd_same] at hz'; cases hz'; exact hs q' y hH
    · rw [upd_other _ _ hq] at hz'; exact hs q' z hz'
  refine ⟨⟨w', upd c.ρ n (c.ρ o), c.Sa, c.So, c.B⟩, upd_same _ _ _, rfl, hle.trans hle2, rfl, fun _ h => .inl h, ?_, ?_, ⟨?_, ?_, ?_, ?_, ?_, hI.own, ?_, hI.glob.mono (hle.trans hle2)⟩, hsolo⟩
  · refine ⟨h1, h2, h3, by rw [hw]; exact hfr.size, fun b hb hn => by rw [hw]; exact hfr.block b hb hn⟩
  · intro q z hz
    obtain ⟨q', hz', hr, _⟩ := hcase q z hz
    rcases hown q' z hz' with h | ⟨p, x, h4, h5⟩
    · exact .inl (by show _ ≤ (upd c.ρ n (c.ρ o) q).blk; rw [hr]; exact h)
    · exact .inr ⟨p, x, h4, by show _ = (upd c.ρ n (c.ρ o) q).blk; rw [hr]; exact h5⟩
  · intro q z hz
    obtain ⟨q', hz', hr, hq⟩ := hcase q z hz
    obtain ⟨g1, ⟨⟨cur1, gb, gs, gc⟩, gf, gp, ge⟩, gk⟩ := hI1.obj q' z hz'
    refine ⟨?_, ⟨⟨cur1, ?_, ?_, ?_⟩, ?_, ?_, ?_⟩, fun e he a ha => (gk e he a ha).mono fun p hp => Nat.lt_succ_of_lt hp⟩
    · rcases hq with ⟨h4, _⟩ | ⟨_, _, h4⟩
      · show q < n + 1; omega
      · subst h4; exact Nat.lt_succ_of_lt g1
    · show w'.heap[(upd c.ρ n (c.ρ o) q).blk]? = some (.cells cur1 (upd c.ρ n (c.ρ o) q).ety (0, 0)); rw [hw, hr]; exact gb
    · show _ = (upd c.ρ n (c.ρ o) q).cap * (upd c.ρ n (c.ρ o) q).esz; rw [hr]; exact gs
    · intro i e he
      obtain ⟨k1, k2⟩ := gc i e he
      refine ⟨by show _ = (upd c.ρ n (c.ρ o) q).esz; rw [hr]; exact k1, fun k a ha => ?_⟩
      obtain ⟨v, hv, hvr, hv1⟩ := k2 k a ha
      exact ⟨v, by show cur1[i * (upd c.ρ n (c.ρ o) q).esz + k]? = _; rw [hr]; exact hv, hvr.mono hle2 (.inr (gk e (List.mem_of_getElem? he) a (List.mem_of_getElem? ha))), hv1⟩
    · show _ ≤ (upd c.ρ n (c.ρ o) q).cap; rw [hr]; exact gf
    · show 0 < (upd c.ρ n (c.ρ o) q).esz; rw [hr]; exact gp
    · show _ = (upd c.ρ n (c.ρ o) q).esz; rw [hr]; exact ge
  · intro q p z x hz hx hqp hb
    obtain ⟨q', hz', hr, hq⟩ := hcase q z hz
    obtain ⟨p', hx', hr', hp⟩ := hcase p x hx
    have hb' : (c.ρ q').blk = (c.ρ p').blk := by rw [← hr, ← hr']; exact hb
    have hne : q' ≠ p' := by
      rcases hq with ⟨a1, a2⟩ | ⟨a1, a2, a3⟩ <;> rcases hp with ⟨b1, b2⟩ | ⟨b1, b2, b3⟩ <;> omega
    have := (hI1.sep q' p' z x hz' hx' hne hb').1
    rw [(hsolo q z hz).1] at this; cases this
  · intro q z hz
    obtain ⟨q', hz', hr, _⟩ := hcase q z hz
    have := hI1.stab q' z hz'
    show ¬ c.Sa (upd c.ρ n (c.ρ o) q).blk ∧ ¬ c.So (upd c.ρ n (c.ρ o) q).blk
    rw [hr]; exact this
  · intro b hb
    have := hI1.lt b hb
    show b < w'.heap.size
    rw [hw]; exact this
  · show c.B ≤ w'.heap.size
    rw [hw]; exact hI1.base
  · intro q z hz
    obtain ⟨q', hz', hr, _⟩ := hcase q z hz
    show c.B ≤ (upd c.ρ n (c.ρ o) q).blk
    rw [hr]; exact hI1.low q' z hz'
theorem ends_in_new {c : Ctx} {H : Heap} {n o esz cap ety : Nat} {es' : List AV} {new : Array Value} {w' : World} (hI : Inv c H (· < n)) (hs : ∀ o x, H o = some x → x.solo = true ∧ x.spent = false)
    (hsz : new.size = cap * esz) (hpos : 0 < esz) (hlen : es'.length ≤ cap)
    (hrel : ∀ (i : Nat) e, es'[i]? = some e → e.cells.length = esz ∧ ∀ (k : Nat) a, e.cells[k]? = some a → a.Ok (· < n) ∧ ∃ v, new[i * esz + k]? = some v ∧ VRel c false a v ∧ v.oneCell' = true)
    (hw : w'.heap = c.w.heap.push (.cells new ety)) (h1 : w'.os = c.w.os) (h2 : w'.tape = c.w.tape) (h3 : w'.output = c.w.output ∧ dr c.w ≤ dr w') :
    ∃ c', c'.ρ n = ⟨c.w.heap.size, cap, esz, ety⟩ ∧ Ends c H n w' c' (upd (upd H o none) n (some { es := es', esz := esz })) := by
  obtain ⟨hle, hI1, hfr⟩ := hI.addBlock (id := n) (Nat.lt_irrefl n) (x := { es := es', esz := esz }) hw h1 h2 h3 hsz hpos rfl hlen hrel
  have hcase : ∀ q z, upd (upd H o none) n (some { es := es', esz := esz }) q = some z → upd H n (some { es := es', esz := esz }) q = some z := by
    intro q z hz
    by_cases hq : q = n
    · subst hq; rw [upd_same] at hz ⊢; exact hz
    · rw [upd_other _ _ hq] at hz ⊢
      by_cases hqo : q = o
      · subst hqo; rw [upd_same] at hz; cases hz
      · rw [upd_other _ _ hqo] at hz; exact hz
  have hsolo : ∀ q z, upd (upd H o none) n (some { es := es', esz := esz }) q = some z → z.solo = true ∧ z.spent = false := by
    intro q z hz
    have hz' := hcase q z hz
    by_cases hq : q = n
    · subst hq; rw [upd_same] at hz'; cases hz'; exact ⟨rfl, rfl⟩
    · rw [upd_other _ _ hq] at hz'; exact hs q z hz'
  have hI2 : Inv ⟨w', upd c.ρ n ⟨c.w.heap.size, cap, esz, ety⟩, c.Sa, c.So, c.B⟩ (upd (upd H o none) n (some { es := es', esz := esz })) (· < n + 1) := by
    refine (hI1.more (M' := (· < n + 1)) (fun q hq => by show q < n + 1; have : q < n ∨ q = n := hq; omega)).forget (fun q z hz => ⟨z, hcase q z hz, rfl, rfl, fun h => h⟩) fun q p z x hz hx hqp hb => ?_
    have := (hI1.sep q p z x (hcase q z hz) (hcase p x hx) hqp hb).1
    rw [(hsolo q z hz).1] at this; cases this
  refine ⟨_, upd_same _ _ _, rfl, hle, rfl, fun _ h => .inl h, hfr, fun q z hz => ?_, hI2, hsolo⟩
  have hz' := hcase q z hz
  by_cases hq : q = n
  · subst hq; exact .inl (by show _ ≤ (upd c.ρ q _ q).blk; rw [upd_same]; exact Nat.le_refl _)
  · rw [upd_other _ _ hq] at hz'; exact .inr ⟨q, z, hz', by show _ = (upd c.ρ n _ q).blk; rw [upd_other _ _ hq]⟩
end Go.Av

set_option maxRecDepth 100000
namespace Go.Proofs
open Go.Shelf
def Tryz.lays156_ren : Go.Shelf.Ren := ⟨fun | 167 => 74 | 156 => 29 | 165 => 50 | 166 => 51 | 169 => 48 | 240 => 77 | 241 => 78 | 276 => 108 | 277 => 109 | n => n, fun | 31 => 51 | 9 => 9 | 3 => 3 | 4 => 4 | 0 => 0 | 20 => 20 | 72 => 90 | 76 => 97 | 70 => 87 | 37 => 88 | 75 => 96 | 127 => 139 | 164 => 184 | 5 => 5 | 80 => 92 | n => n, fun | n => n⟩
theorem Tryz.lays156 : Go.Proofs.Lays.n156 Tryz.prog Tryz.lays156_ren := {
  mixed := by kernel_rfl
  f156 := Tryz.func29.trans (congrArg some (by kernel_rfl))
  f165 := Tryz.func50.trans (congrArg some (by kernel_rfl))
  f166 := Tryz.func51.trans (congrArg some (by kernel_rfl))
  f169 := Tryz.func48.trans (congrArg some (by kernel_rfl))
  f240 := Tryz.func77.trans (congrArg some (by kernel_rfl))
  f241 := Tryz.func78.trans (congrArg some (by kernel_rfl))
  f276 := Tryz.func108.trans (congrArg some (by kernel_rfl))
  f277 := Tryz.func109.trans (congrArg some (by kernel_rfl))
  t0 := Tryz.underlying0
  a0 := Tryz.isAgg0
  z0 := Tryz.sizeOf0
  v0 := Tryz.zeroValue0
  t3 := Tryz.underlying3
  a3 := Tryz.isAgg3
  z3 := Tryz.sizeOf3
  v3 := Tryz.zeroValue3
  t4 := Tryz.underlying4
  a4 := Tryz.isAgg4
  z4 := Tryz.sizeOf4
  v4 := Tryz.zeroValue4
  t9 := Tryz.underlying9
  a9 := Tryz.isAgg9
  z9 := Tryz.sizeOf9
  v9 := Tryz.zeroValue9
  t20 := Tryz.underlying20
  a20 := Tryz.isAgg20
  z20 := Tryz.sizeOf20
  v20 := Tryz.zeroValue20
  t31 := Tryz.underlying51
  a31 := Tryz.isAgg51
  z31 := Tryz.sizeOf51
  v31 := Tryz.zeroValue51
  t37 := Tryz.underlying88
  a37 := Tryz.isAgg88
  z37 := Tryz.sizeOf88
  v37 := Tryz.zeroValue88
  t70 := Tryz.underlying87
  a70 := Tryz.isAgg87
  z70 := Tryz.sizeOf87
  v70 := Tryz.zeroValue87
  t72 := Tryz.underlying90
  a72 := Tryz.isAgg90
  z72 := Tryz.sizeOf90
  v72 := Tryz.zeroValue90
  t75 := Tryz.underlying96
  a75 := Tryz.isAgg96
  z75 := Tryz.sizeOf96
  v75 := Tryz.zeroValue96
  t76 := Tryz.underlying97
  a76 := Tryz.isAgg97
  z76 := Tryz.sizeOf97
  v76 := Tryz.zeroValue97
  t127 := Tryz.underlying139
  a127 := Tryz.isAgg139
  z127 := Tryz.sizeOf139
  v127 := Tryz.zeroValue139
  t164 := Tryz.underlying184
  a164 := Tryz.isAgg184
  z164 := Tryz.sizeOf184
  v164 := Tryz.zeroValue184 }
theorem Tryz.lays166 : Go.Proofs.Lays.n166 Tryz.prog Tryz.lays156_ren := { Tryz.lays156 with }
theorem Tryz.lays167 : Go.Proofs.Lays.n167 Tryz.prog Tryz.lays156_ren := { Tryz.lays156 with f167 := Tryz.func74.trans (congrArg some (by kernel_rfl)), t5 := Tryz.underlying5, a5 := Tryz.isAgg5, z5 := Tryz.sizeOf5, v5 := Tryz.zeroValue5 }
theorem Tryz.lays169 : Go.Proofs.Lays.n169 Tryz.prog Tryz.lays156_ren := { Tryz.lays156 with }
theorem Tryz.bextra : Builder.Extra Tryz.prog Tryz.lays156_ren := { sizeBuilder := by kernel_rfl, liesBuilder := by kernel_rfl, t5 := Tryz.underlying5, a5 := Tryz.isAgg5, z5 := Tryz.sizeOf5, v5 := Tryz.zeroValue5, infoByte := by kernel_rfl, cellsByte := by kernel_rfl, sizeByte := by kernel_rfl, neB5 := by decide }
end Go.Proofs

namespace Go.Proofs.Tryz
open Go.RowKit Go.Lib Go.Av
abbrev Nd := Int × Int × Int × Int × Int
def NdsAt (w : World) (b0 off : Nat) (l : List Nd) : Prop := ∀ i k n x y z, l[i]? = some (k, n, x, y, z) →
  w.cell? ⟨b0, off + i * 5, none⟩ = some (.int .u8 k) ∧ w.cell? ⟨b0, off + i * 5 + 1, none⟩ = some (.int .i64 n) ∧ w.cell? ⟨b0, off + i * 5 + 2, none⟩ = some (.int .i64 x) ∧ w.cell? ⟨b0, off + i * 5 + 3, none⟩ = some (.int .i64 y) ∧ w.cell? ⟨b0, off + i * 5 + 4, none⟩ = some (.int .i64 z)
theorem NdsAt.below {w w' : World} {b0 off B : Nat} {l : List Nd} (h : NdsAt w b0 off l) (hB : Below B w w') (hb : b0 < B) : NdsAt w' b0 off l := by
  intro i k n x y z hi
  have hc : ∀ j, w'.cell? ⟨b0, j, none⟩ = w.cell? ⟨b0, j, none⟩ := fun j => World.cell?_of_block (a := ⟨b0, j, none⟩) (hB.block b0 hb)
  obtain ⟨h1, h2, h3, h4, h5⟩ := h i k n x y z hi
  exact ⟨(hc _).trans h1, (hc _).trans h2, (hc _).trans h3, (hc _).trans h4, (hc _).trans h5⟩
theorem bldAt_kept {T e B b : Nat} {p : Value} {bs : List Value} {w w' : World} (h : BuilderAtF T e B b p bs w) (hlt : b < w.heap.size) (hb : Below w.heap.size w w') : BuilderAtF T e B b p bs w' := by
  obtain ⟨hB, v, h1, h2, h3⟩ := h
  refine ⟨hB, v, (hb.block b hlt).trans h1, h2.kept (row := none) ⟨hb.os, hb.tape, hb.output, hb.size, fun k hk _ => hb.block k hk⟩ ?_, h3⟩
  cases v.ownBlock with
  | none => exact .inl rfl
  | some q => exact .inr (by simp)
theorem bld_lt {T e B b : Nat} {bs : List Value} {w : World} (h : IsBuilderF T e B b bs w) : b < w.heap.size := by
  rcases h with ⟨_, v, h, _⟩ | ⟨_, v, h, _⟩ <;> exact (Array.getElem?_eq_some_iff.1 h).1
theorem bld_kept {T e B b : Nat} {bs : List Value} {w w' : World} (h : IsBuilderF T e B b bs w) (hb : Below w.heap.size w w') : IsBuilderF T e B b bs w' := by
  have hl := bld_lt h
  exact h.imp (fun h => bldAt_kept h hl hb) (fun h => bldAt_kept h hl hb)
theorem ok_below {e : Nat} {b : Option Nat} {w w' : World} (hb : Below w.heap.size w w') : OthersKept e b w w' := fun k o hk _ _ => (hb.block k (Array.getElem?_eq_some_iff.1 hk).1).trans hk
theorem below_alloc (w : World) (o : Go.Obj) : Below w.heap.size w (w.alloc o) := (Below.refl _ w).alloc (Nat.le_refl _) o
def WrOk (l : List Nd) (i : Int) (least : Int) (txt : List UInt8) : Prop :=
  ∀ (b0 off cap B b : Nat) (bs : List Value) (w : World), b0 < B → NdsAt w b0 off l → IsBuilderF 90 5 B b bs w → bs.length + txt.length ≤ 1000000 → B ≤ w.heap.size →
    Calls Tryz.prog 47 #[.pointer (some ⟨b, 0, none⟩), .slice (some ⟨b0, off, none⟩) l.length cap, .int .i64 i, .int .i64 least] w fun e w' =>
      e = .returned (.tuple #[]) ∧ BuilderAtF 90 5 B b (.pointer (some ⟨b, 0, none⟩)) (bs ++ Lib.byteCells txt) w' ∧ Below B w w' ∧ OthersKept 5 (some b) w w'
theorem ws {B b : Nat} {bs : List Value} {s : ByteArray} {w : World} (h : IsBuilderF 90 5 B b bs w) (hlen : bs.length + s.size ≤ 1000000) (hB : B ≤ w.heap.size) : Calls Tryz.prog 51 #[.pointer (some ⟨b, 0, none⟩), .string s] w fun e w' => e = .returned (.tuple #[.int .i64 s.size, .nilIface]) ∧ BuilderAtF 90 5 B b (.pointer (some ⟨b, 0, none⟩)) (bs ++ Lib.byteCells s.data.toList) w' ∧ Below B w w' ∧ OthersKept 5 (some b) w w' :=
  (Any.Builder_WriteString_k Tryz.lays166 Tryz.bextra B b bs s w h (by omega) hB).mono fun e w' ⟨h1, h2, h3, h4⟩ => ⟨h1, h2, h3, h4⟩
theorem wb {B b : Nat} {bs : List Value} {c : UInt8} {w : World} (h : IsBuilderF 90 5 B b bs w) (hlen : bs.length + 1 ≤ 1000000) (hB : B ≤ w.heap.size) : Calls Tryz.prog 74 #[.pointer (some ⟨b, 0, none⟩), .int .u8 c.toNat] w fun e w' => e = .returned .nilIface ∧ BuilderAtF 90 5 B b (.pointer (some ⟨b, 0, none⟩)) (bs ++ Lib.byteCells [c]) w' ∧ Below B w w' ∧ OthersKept 5 (some b) w w' :=
  (Any.Builder_WriteByte_k Tryz.lays167 Tryz.bextra B b bs c.toNat w h (by omega) hB).mono fun e w' ⟨h1, h2, h3, h4⟩ => ⟨h1, h2, h3, h4⟩
theorem bcl (l : List UInt8) : (Lib.byteCells l).length = l.length := by simp [Lib.byteCells]
theorem bca (l m : List UInt8) : Lib.byteCells (l ++ m) = Lib.byteCells l ++ Lib.byteCells m := by simp [Lib.byteCells]
theorem szL (s : ByteArray) : s.size = s.data.toList.length := by rw [Array.length_toList]; rfl
set_option maxHeartbeats 4000000 in
set_option maxRecDepth 100000 in
theorem wr_num {l : List Nd} {i : Nat} {least : Int} {n x y z : Int} {s : ByteArray} (hl : l.length < 1000) (hi : l[i]? = some (1, n, x, y, z)) (hT : ∀ w, Calls Tryz.prog 28 #[.int .i64 n] w fun e w' => e = .returned (.string s) ∧ Below w.heap.size w w') : WrOk l i least s.data.toList := by
  intro b0 off cap B b bs w hb0 hN hB hlen hBw
  have t23 := Tryz.underlying23; have a23 := Tryz.isAgg23; have z23 := Tryz.sizeOf23; have v23 := Tryz.zeroValue23
  have t78 := Tryz.underlying78; have a78 := Tryz.isAgg78; have z78 := Tryz.sizeOf78; have v78 := Tryz.zeroValue78
  have t5 := Tryz.underlying5; have a5 := Tryz.isAgg5; have z5 := Tryz.sizeOf5; have v5 := Tryz.zeroValue5
  have t2 := Tryz.underlying2; have a2 := Tryz.isAgg2; have z2 := Tryz.sizeOf2; have v2 := Tryz.zeroValue2
  have t3 := Tryz.underlying3; have a3 := Tryz.isAgg3; have z3 := Tryz.sizeOf3; have v3 := Tryz.zeroValue3
  have t9 := Tryz.underlying9; have a9 := Tryz.isAgg9; have z9 := Tryz.sizeOf9; have v9 := Tryz.zeroValue9
  have t4 := Tryz.underlying4; have a4 := Tryz.isAgg4; have z4 := Tryz.sizeOf4; have v4 := Tryz.zeroValue4
  have t136 := Tryz.underlying136; have a136 := Tryz.isAgg136; have z136 := Tryz.sizeOf136; have v136 := Tryz.zeroValue136
  have t137 := Tryz.underlying137; have a137 := Tryz.isAgg137; have z137 := Tryz.sizeOf137; have v137 := Tryz.zeroValue137
  have u23 := run_underlying Tryz.underlying23; have u78 := run_underlying Tryz.underlying78; have u5 := run_underlying Tryz.underlying5; have u2 := run_underlying Tryz.underlying2; have u3 := run_underlying Tryz.underlying3
  have u9 := run_underlying Tryz.underlying9; have u4 := run_underlying Tryz.underlying4; have u136 := run_underlying Tryz.underlying136; have u137 := run_underlying Tryz.underlying137
  have mixed : Tryz.prog.follows .mixedOrders = true := by kernel_rfl
  have e28 : ∀ args w, (callFunc 28 args).run Tryz.prog w = .ok (.enter 28 args) w := enters_of Tryz.func28 (by kernel_rfl) rfl
  have e51 : ∀ args w, (callFunc 51 args).run Tryz.prog w = .ok (.enter 51 args) w := enters_of Tryz.func51 (by kernel_rfl) rfl
  have e74 : ∀ args w, (callFunc 74 args).run Tryz.prog w = .ok (.enter 74 args) w := enters_of Tryz.func74 (by kernel_rfl) rfl
  have e75 : ∀ args w, (callFunc 75 args).run Tryz.prog w = .ok (.enter 75 args) w := enters_of Tryz.func75 (by kernel_rfl) rfl
  have e47 : ∀ args w, (callFunc 47 args).run Tryz.prog w = .ok (.enter 47 args) w := enters_of Tryz.func47 (by kernel_rfl) rfl
  obtain ⟨c0, c1, c2, c3, c4⟩ := hN i _ _ _ _ _ hi
  have hil : i < l.length := (List.getElem?_eq_some_iff.1 hi).1
  have hr1 : (i : Int) < (l.length : Int) := by omega
  rw [← szL] at hlen
  go_enter Tryz.func47, Tryz.ntmps47
  go_wp2_with (first | (go_at_fn 28; refine (hT _).mono ?_; rintro e w' ⟨rfl, hw⟩) | (go_at_fn 51; refine (ws (B := B) (bs := bs) (bld_kept hB ((below_alloc w _).trans (hw.mono (below_alloc w _).size))) hlen (Nat.le_trans hBw (Nat.le_trans (below_alloc w _).size hw.size))).mono ?_; rintro e w2 ⟨rfl, h2, h3, h4⟩))
  refine bodyPost_ret (results_none rfl _ _ _) rfl ?_
  exact ⟨rfl, h2, (((below_alloc w _).mono hBw).trans (hw.mono (Nat.le_trans hBw (below_alloc w _).size))).trans h3, ((ok_below (below_alloc w _)).trans (ok_below hw)).trans h4⟩
set_option maxHeartbeats 4000000 in
set_option maxRecDepth 100000 in
theorem wr_val {l : List Nd} {i k : Nat} {least : Int} {n x y z : Int} {c : UInt8} (hl : l.length < 1000) (hi : l[i]? = some ((k : Int), n, x, y, z)) (hk : 2 ≤ k ∧ k ≤ 4) (hc : [107, 116, 118][k - 2]? = some c) : WrOk l i least [c] := by
  intro b0 off cap B b bs w hb0 hN hB hlen hBw
  have t23 := Tryz.underlying23; have a23 := Tryz.isAgg23; have z23 := Tryz.sizeOf23; have v23 := Tryz.zeroValue23
  have t78 := Tryz.underlying78; have a78 := Tryz.isAgg78; have z78 := Tryz.sizeOf78; have v78 := Tryz.zeroValue78
  have t5 := Tryz.underlying5; have a5 := Tryz.isAgg5; have z5 := Tryz.sizeOf5; have v5 := Tryz.zeroValue5
  have t2 := Tryz.underlying2; have a2 := Tryz.isAgg2; have z2 := Tryz.sizeOf2; have v2 := Tryz.zeroValue2
  have t3 := Tryz.underlying3; have a3 := Tryz.isAgg3; have z3 := Tryz.sizeOf3; have v3 := Tryz.zeroValue3
  have t9 := Tryz.underlying9; have a9 := Tryz.isAgg9; have z9 := Tryz.sizeOf9; have v9 := Tryz.zeroValue9
  have t4 := Tryz.underlying4; have a4 := Tryz.isAgg4; have z4 := Tryz.sizeOf4; have v4 := Tryz.zeroValue4
  have t136 := Tryz.underlying136; have a136 := Tryz.isAgg136; have z136 := Tryz.sizeOf136; have v136 := Tryz.zeroValue136
  have t137 := Tryz.underlying137; have a137 := Tryz.isAgg137; have z137 := Tryz.sizeOf137; have v137 := Tryz.zeroValue137
  have u23 := run_underlying Tryz.underlying23; have u78 := run_underlying Tryz.underlying78; have u5 := run_underlying Tryz.underlying5; have u2 := run_underlying Tryz.underlying2; have u3 := run_underlying Tryz.underlying3
  have u9 := run_underlying Tryz.underlying9; have u4 := run_underlying Tryz.underlying4; have u136 := run_underlying Tryz.underlying136; have u137 := run_underlying Tryz.underlying137
  have mixed : Tryz.prog.follows .mixedOrders = true := by kernel_rfl
  have e28 : ∀ args w, (callFunc 28 args).run Tryz.prog w = .ok (.enter 28 args) w := enters_of Tryz.func28 (by kernel_rfl) rfl
  have e51 : ∀ args w, (callFunc 51 args).run Tryz.prog w = .ok (.enter 51 args) w := enters_of Tryz.func51 (by kernel_rfl) rfl
  have e74 : ∀ args w, (callFunc 74 args).run Tryz.prog w = .ok (.enter 74 args) w := enters_of Tryz.func74 (by kernel_rfl) rfl
  have e75 : ∀ args w, (callFunc 75 args).run Tryz.prog w = .ok (.enter 75 args) w := enters_of Tryz.func75 (by kernel_rfl) rfl
  have e47 : ∀ args w, (callFunc 47 args).run Tryz.prog w = .ok (.enter 47 args) w := enters_of Tryz.func47 (by kernel_rfl) rfl
  obtain ⟨c0, c1, c2, c3, c4⟩ := hN i _ _ _ _ _ hi
  have hil : i < l.length := (List.getElem?_eq_some_iff.1 hi).1
  have hr1 : (i : Int) < (l.length : Int) := by omega
  have hw : Below w.heap.size w (w.alloc (.cells #[.int .u8 k, .int .i64 n, .int .i64 x, .int .i64 y, .int .i64 z] 78)) := below_alloc w _
  have hch : k = 2 ∧ c = 107 ∨ k = 3 ∧ c = 116 ∨ k = 4 ∧ c = 118 := by
    obtain ⟨h1, h2⟩ := hk
    have : k = 2 ∨ k = 3 ∨ k = 4 := by omega
    rcases this with rfl | rfl | rfl
    · exact .inl ⟨rfl, (Option.some.inj hc).symm⟩
    · exact .inr (.inl ⟨rfl, (Option.some.inj hc).symm⟩)
    · exact .inr (.inr ⟨rfl, (Option.some.inj hc).symm⟩)
  go_enter Tryz.func47, Tryz.ntmps47
  rcases hch with ⟨rfl, rfl⟩ | ⟨rfl, rfl⟩ | ⟨rfl, rfl⟩
  all_goals go_wp2_with (go_at_fn 74; refine (wb (B := B) (bs := bs) (bld_kept hB hw) hlen (Nat.le_trans hBw hw.size)).mono ?_; rintro e w2 ⟨rfl, h2, h3, h4⟩)
  all_goals refine bodyPost_ret (results_none rfl _ _ _) rfl ?_
  all_goals exact ⟨rfl, h2, (hw.mono hBw).trans h3, (ok_below hw).trans h4⟩
abbrev opsRow : Array Value := #[.string ⟨#[45]⟩, .int .i64 8, .string ⟨#[110, 111, 116, 32]⟩, .int .i64 3, .string ⟨#[32, 42, 32]⟩, .int .i64 7, .string ⟨#[32, 43, 32]⟩, .int .i64 6, .string ⟨#[32, 45, 32]⟩, .int .i64 6, .string ⟨#[32, 60, 60, 32]⟩, .int .i64 5, .string ⟨#[32, 62, 62, 32]⟩, .int .i64 5, .string ⟨#[32, 60, 32]⟩, .int .i64 4, .string ⟨#[32, 60, 61, 32]⟩, .int .i64 4, .string ⟨#[32, 62, 32]⟩, .int .i64 4, .string ⟨#[32, 62, 61, 32]⟩, .int .i64 4, .string ⟨#[32, 61, 32]⟩, .int .i64 4, .string ⟨#[32, 33, 61, 32]⟩, .int .i64 4, .string ⟨#[32, 97, 110, 100, 32]⟩, .int .i64 2, .string ⟨#[32, 111, 114, 32]⟩, .int .i64 1]
set_option maxHeartbeats 4000000 in
set_option maxRecDepth 100000 in
theorem ops_ok (w : World) : Calls Tryz.prog 75 #[] w fun e w' => e = .returned (.slice (some ⟨w.heap.size, 0, none⟩) 15 15) ∧ w' = w.alloc (.cells opsRow 136) := by
  have t23 := Tryz.underlying23; have a23 := Tryz.isAgg23; have z23 := Tryz.sizeOf23; have v23 := Tryz.zeroValue23
  have t78 := Tryz.underlying78; have a78 := Tryz.isAgg78; have z78 := Tryz.sizeOf78; have v78 := Tryz.zeroValue78
  have t5 := Tryz.underlying5; have a5 := Tryz.isAgg5; have z5 := Tryz.sizeOf5; have v5 := Tryz.zeroValue5
  have t2 := Tryz.underlying2; have a2 := Tryz.isAgg2; have z2 := Tryz.sizeOf2; have v2 := Tryz.zeroValue2
  have t3 := Tryz.underlying3; have a3 := Tryz.isAgg3; have z3 := Tryz.sizeOf3; have v3 := Tryz.zeroValue3
  have t9 := Tryz.underlying9; have a9 := Tryz.isAgg9; have z9 := Tryz.sizeOf9; have v9 := Tryz.zeroValue9
  have t4 := Tryz.underlying4; have a4 := Tryz.isAgg4; have z4 := Tryz.sizeOf4; have v4 := Tryz.zeroValue4
  have t136 := Tryz.underlying136; have a136 := Tryz.isAgg136; have z136 := Tryz.sizeOf136; have v136 := Tryz.zeroValue136
  have t137 := Tryz.underlying137; have a137 := Tryz.isAgg137; have z137 := Tryz.sizeOf137; have v137 := Tryz.zeroValue137
  have u23 := run_underlying Tryz.underlying23; have u78 := run_underlying Tryz.underlying78; have u5 := run_underlying Tryz.underlying5; have u2 := run_underlying Tryz.underlying2; have u3 := run_underlying Tryz.underlying3
  have u9 := run_underlying Tryz.underlying9; have u4 := run_underlying Tryz.underlying4; have u136 := run_underlying Tryz.underlying136; have u137 := run_underlying Tryz.underlying137
  have mixed : Tryz.prog.follows .mixedOrders = true := by kernel_rfl
  have e28 : ∀ args w, (callFunc 28 args).run Tryz.prog w = .ok (.enter 28 args) w := enters_of Tryz.func28 (by kernel_rfl) rfl
  have e51 : ∀ args w, (callFunc 51 args).run Tryz.prog w = .ok (.enter 51 args) w := enters_of Tryz.func51 (by kernel_rfl) rfl
  have e74 : ∀ args w, (callFunc 74 args).run Tryz.prog w = .ok (.enter 74 args) w := enters_of Tryz.func74 (by kernel_rfl) rfl
  have e75 : ∀ args w, (callFunc 75 args).run Tryz.prog w = .ok (.enter 75 args) w := enters_of Tryz.func75 (by kernel_rfl) rfl
  have e47 : ∀ args w, (callFunc 47 args).run Tryz.prog w = .ok (.enter 47 args) w := enters_of Tryz.func47 (by kernel_rfl) rfl
  go_enter Tryz.func75, Tryz.ntmps75
  go_wp2
  go_ret
  exact ⟨rfl, rfl⟩
theorem a3o (w : World) (a o c : Array Value) (t1 t2 t3 : Nat) : (((w.alloc (.cells a t1)).alloc (.cells o t2)).alloc (.cells c t3)).drew.heap[w.heap.size]? = some (.cells a t1) :=
  (Below.heap_alloc _ _ _ (by simp; omega)).trans ((Below.heap_alloc _ _ _ (by simp)).trans (World.alloc_heap_new w _))
theorem a3x (w : World) (a o c : Array Value) (t1 t2 t3 : Nat) : (((w.alloc (.cells a t1)).alloc (.cells o t2)).alloc (.cells c t3)).drew.heap[w.heap.size + 1 + 1]? = some (.cells c t3) := by
  have := World.alloc_heap_new ((w.alloc (.cells a t1)).alloc (.cells o t2)) (.cells c t3)
  simp only [World.size_alloc] at this; exact this
theorem a3y (w : World) (a o c : Array Value) (t1 t2 t3 : Nat) : (((w.alloc (.cells a t1)).alloc (.cells o t2)).alloc (.cells c t3)).drew.heap[w.heap.size + 1]? = some (.cells o t2) := by
  have := World.alloc_heap_new (w.alloc (.cells a t1)) (.cells o t2)
  simp only [World.size_alloc] at this
  exact (Below.heap_alloc _ _ _ (by simp)).trans this
set_option maxHeartbeats 8000000 in
set_option maxRecDepth 100000 in
theorem wr_5 {l : List Nd} {i : Nat} {least : Int} {n x y z : Int} {tx : List UInt8} (hl : l.length < 1000) (hi : l[i]? = some (5, n, x, y, z)) (hle : ¬ (8 : Int) < least)
    (hx : WrOk l x 8 tx) : WrOk l i least ([45] ++ tx) := by
  intro b0 off cap B b bs w hb0 hN hB hlen hBw
  have t23 := Tryz.underlying23; have a23 := Tryz.isAgg23; have z23 := Tryz.sizeOf23; have v23 := Tryz.zeroValue23
  have t78 := Tryz.underlying78; have a78 := Tryz.isAgg78; have z78 := Tryz.sizeOf78; have v78 := Tryz.zeroValue78
  have t5 := Tryz.underlying5; have a5 := Tryz.isAgg5; have z5 := Tryz.sizeOf5; have v5 := Tryz.zeroValue5
  have t2 := Tryz.underlying2; have a2 := Tryz.isAgg2; have z2 := Tryz.sizeOf2; have v2 := Tryz.zeroValue2
  have t3 := Tryz.underlying3; have a3 := Tryz.isAgg3; have z3 := Tryz.sizeOf3; have v3 := Tryz.zeroValue3
  have t9 := Tryz.underlying9; have a9 := Tryz.isAgg9; have z9 := Tryz.sizeOf9; have v9 := Tryz.zeroValue9
  have t4 := Tryz.underlying4; have a4 := Tryz.isAgg4; have z4 := Tryz.sizeOf4; have v4 := Tryz.zeroValue4
  have t136 := Tryz.underlying136; have a136 := Tryz.isAgg136; have z136 := Tryz.sizeOf136; have v136 := Tryz.zeroValue136
  have t137 := Tryz.underlying137; have a137 := Tryz.isAgg137; have z137 := Tryz.sizeOf137; have v137 := Tryz.zeroValue137
  have u23 := run_underlying Tryz.underlying23; have u78 := run_underlying Tryz.underlying78; have u5 := run_underlying Tryz.underlying5; have u2 := run_underlying Tryz.underlying2; have u3 := run_underlying Tryz.underlying3
  have u9 := run_underlying Tryz.underlying9; have u4 := run_underlying Tryz.underlying4; have u136 := run_underlying Tryz.underlying136; have u137 := run_underlying Tryz.underlying137
  have mixed : Tryz.prog.follows .mixedOrders = true := by kernel_rfl
  have e28 : ∀ args w, (callFunc 28 args).run Tryz.prog w = .ok (.enter 28 args) w := enters_of Tryz.func28 (by kernel_rfl) rfl
  have e51 : ∀ args w, (callFunc 51 args).run Tryz.prog w = .ok (.enter 51 args) w := enters_of Tryz.func51 (by kernel_rfl) rfl
  have e74 : ∀ args w, (callFunc 74 args).run Tryz.prog w = .ok (.enter 74 args) w := enters_of Tryz.func74 (by kernel_rfl) rfl
  have e75 : ∀ args w, (callFunc 75 args).run Tryz.prog w = .ok (.enter 75 args) w := enters_of Tryz.func75 (by kernel_rfl) rfl
  have e47 : ∀ args w, (callFunc 47 args).run Tryz.prog w = .ok (.enter 47 args) w := enters_of Tryz.func47 (by kernel_rfl) rfl
  obtain ⟨c0, c1, c2, c3, c4⟩ := hN i _ _ _ _ _ hi
  have hil : i < l.length := (List.getElem?_eq_some_iff.1 hi).1
  have hr1 : (i : Int) < (l.length : Int) := by omega
  go_enter Tryz.func47, Tryz.ntmps47
  go_wp2
  obtain ⟨KM, hKM⟩ : ∃ K : Act → World → Prop, K = (fun a w5 => ∃ (b9 : Nat) (v34 v35 v36 v37 v38 v39 : Value), a = { tmps := #[Value.pointer (some ⟨b, 0, none⟩), Value.slice (some ⟨b0, off, none⟩) l.length cap, Value.int .i64 i, Value.int .i64 least, undef, undef, undef, undef, Value.pointer (some ⟨w.heap.size, 0, none⟩), Value.pointer (some ⟨b9, 0, none⟩), undef, Value.slice (some ⟨b0, off, none⟩) l.length cap, Value.int .i64 i, Value.pointer (some ⟨b0, off + i * 5, none⟩), Value.agg #[Value.int .u8 5, Value.int .i64 n, Value.int .i64 x, Value.int .i64 y, Value.int .i64 z], Value.bool false, Value.pointer (some ⟨w.heap.size, 0, none⟩), Value.int .u8 5, Value.bool false, undef, undef, undef, undef, undef, Value.bool false, Value.pointer (some ⟨w.heap.size, 0, none⟩), Value.int .u8 5, Value.bool false, undef, undef, undef, undef, undef, undef, v34, v35, v36, v37, v38, v39, undef, undef, undef, undef, undef, undef, undef, undef, undef, undef, undef, undef, undef, undef, undef, undef, undef, undef, undef, undef, undef, undef, undef, undef, undef, undef, undef, undef, undef, undef, undef, undef, undef, undef, undef, undef, undef, undef, undef, undef, undef, undef, undef, undef, undef, undef, undef, undef, undef, undef], defers := [] } ∧ w5.heap[b9]? = some (.cells #[.string ⟨#[45]⟩, .int .i64 8] 136) ∧ w5.heap[w.heap.size]? = some (.cells #[.int .u8 5, .int .i64 n, .int .i64 x, .int .i64 y, .int .i64 z] 78) ∧ w.heap.size < b9 ∧ Below (w.heap.size + 1) (w.alloc (.cells #[.int .u8 5, .int .i64 n, .int .i64 x, .int .i64 y, .int .i64 z] 78)) w5) := ⟨_, rfl⟩
  refine Code.wp_mono (Q := Exit.then KM (fun _ _ _ => False)) ?_ ?_
  rotate_left
  · go_region_with (go_at_fn 75; refine (ops_ok _).mono ?_; rintro e w' ⟨rfl, rfl⟩)
    all_goals (simp only [Exit.then]; rw [hKM])
    all_goals refine ⟨_, _, _, _, _, _, _, rfl, ?_, ?_, ?_, ?_⟩
    all_goals first | exact (((Below.refl _ _).alloc (by simp) _).alloc (by simp) _).drew | exact a3x _ _ _ _ _ _ _ | exact a3o _ _ _ _ _ _ _ | exact a3y _ _ _ _ _ _ _ | omega | (simp; omega) | (simp; done)
  · intro e a w5 hq
    cases e with
    | normal =>
      have hq : KM a w5 := hq
      rw [hKM] at hq
      obtain ⟨b9, v34, v35, v36, v37, v38, v39, rfl, o9, o8, hb9, hBl⟩ := hq
      clear hKM
      have hw : Below w.heap.size w w5 := (below_alloc w _).trans (hBl.mono (by simp))
      have hlt := bld_lt hB
      have n8 : some w.heap.size ≠ some b := by simp; omega
      have n9 : some b9 ≠ some b := by simp; omega
      have ks : ∀ w1 w2 : World, OthersKept 5 (some b) w1 w2 → w1.heap[b9]? = some (.cells #[.string ⟨#[45]⟩, .int .i64 8] 136) → w2.heap[b9]? = some (.cells #[.string ⟨#[45]⟩, .int .i64 8] 136) := fun w1 w2 h h1 => h _ _ h1 n9 (fun c fz e => by cases e)
      have kn : ∀ w1 w2 : World, OthersKept 5 (some b) w1 w2 → w1.heap[w.heap.size]? = some (.cells #[.int .u8 5, .int .i64 n, .int .i64 x, .int .i64 y, .int .i64 z] 78) → w2.heap[w.heap.size]? = some (.cells #[.int .u8 5, .int .i64 n, .int .i64 x, .int .i64 y, .int .i64 z] 78) := fun w1 w2 h h1 => h _ _ h1 n8 (fun c fz e => by cases e)
      have cs : ∀ w1 : World, w1.heap[b9]? = some (.cells #[.string ⟨#[45]⟩, .int .i64 8] 136) → w1.cell? ⟨b9, 0, none⟩ = some (.string ⟨#[45]⟩) ∧ w1.cell? ⟨b9, 1, none⟩ = some (.int .i64 8) := fun w1 h => ⟨cell_of_heap h 0, cell_of_heap h 1⟩
      have cn : ∀ w1 : World, w1.heap[w.heap.size]? = some (.cells #[.int .u8 5, .int .i64 n, .int .i64 x, .int .i64 y, .int .i64 z] 78) → w1.cell? ⟨w.heap.size, 0, none⟩ = some (.int .u8 5) ∧ w1.cell? ⟨w.heap.size, 2, none⟩ = some (.int .i64 x) ∧ w1.cell? ⟨w.heap.size, 3, none⟩ = some (.int .i64 y) := fun w1 h => ⟨cell_of_heap h 0, cell_of_heap h 2, cell_of_heap h 3⟩
      obtain ⟨p50, p51⟩ := cs w5 o9
      obtain ⟨q50, q52, q53⟩ := cn w5 o8
      have hB0 : B ≤ w.heap.size := hBw
      have hN5 := hN.below (hw.mono hBw) hb0
      have hB5 := bld_kept hB hw
      have hBw5 : B ≤ w5.heap.size := Nat.le_trans hBw hw.size
      have hbl5 : Below B w w5 := hw.mono hBw
      have hok5 : OthersKept 5 (some b) w w5 := ok_below hw
      clear hBl hw
      have hl1 : bs.length + ByteArray.size ⟨#[45]⟩ ≤ 1000000 := by rw [szL]; simp only [List.length_append, List.length_cons, List.length_nil] at hlen ⊢; omega
      have hl2 : (bs ++ Lib.byteCells [45]).length + tx.length ≤ 1000000 := by simp only [List.length_append, bcl, List.length_cons, List.length_nil] at hlen ⊢; omega
      have H1 := ws (B := B) (s := ⟨#[45]⟩) hB5 hl1 hBw5
      have H2 := fun (w6 : World) (hn : NdsAt w6 b0 off l) (h : BuilderAtF 90 5 B b (.pointer (some ⟨b, 0, none⟩)) (bs ++ Lib.byteCells [45]) w6) (hb : B ≤ w6.heap.size) => hx b0 off cap B b _ w6 hb0 hn (.inr h) hl2 hb
      go_wp2_with (go_at_fn 51; refine H1.mono ?_; rintro e w6 ⟨rfl, h6, be6, ok6⟩; have hb6 := Nat.le_trans hBw5 be6.size; have n6 := hN5.below be6 hb0; obtain ⟨p60, p61⟩ := cs _ (ks _ _ ok6 o9); obtain ⟨q60, q62, q63⟩ := cn _ (kn _ _ ok6 o8))
      clear H1 p50 p51 q50 q52 q53
      go_wp2_with (go_at_fn 47; refine (H2 _ n6 h6 hb6).mono ?_; rintro e w7 ⟨rfl, hE, be7, ok7⟩)
      first | refine bodyPost_ret (results_none rfl _ _ _) rfl ?_ | refine bodyPost_end (results_none rfl _ _ _) rfl ?_
      exact ⟨rfl, (by simpa [Lib.byteCells, List.append_assoc] using hE), ((hbl5.trans be6).trans be7), ((hok5.trans ok6).trans ok7)⟩
    | _ => exact hq.elim
set_option maxHeartbeats 8000000 in
set_option maxRecDepth 100000 in
theorem wr_8 {l : List Nd} {i : Nat} {least : Int} {n x y z : Int} {tx ty : List UInt8} (hl : l.length < 1000) (hi : l[i]? = some (8, n, x, y, z)) (hle : ¬ (6 : Int) < least)
    (hx : WrOk l x 6 tx) (hy : WrOk l y 7 ty) : WrOk l i least (tx ++ [32, 43, 32] ++ ty) := by
  intro b0 off cap B b bs w hb0 hN hB hlen hBw
  have t23 := Tryz.underlying23; have a23 := Tryz.isAgg23; have z23 := Tryz.sizeOf23; have v23 := Tryz.zeroValue23
  have t78 := Tryz.underlying78; have a78 := Tryz.isAgg78; have z78 := Tryz.sizeOf78; have v78 := Tryz.zeroValue78
  have t5 := Tryz.underlying5; have a5 := Tryz.isAgg5; have z5 := Tryz.sizeOf5; have v5 := Tryz.zeroValue5
  have t2 := Tryz.underlying2; have a2 := Tryz.isAgg2; have z2 := Tryz.sizeOf2; have v2 := Tryz.zeroValue2
  have t3 := Tryz.underlying3; have a3 := Tryz.isAgg3; have z3 := Tryz.sizeOf3; have v3 := Tryz.zeroValue3
  have t9 := Tryz.underlying9; have a9 := Tryz.isAgg9; have z9 := Tryz.sizeOf9; have v9 := Tryz.zeroValue9
  have t4 := Tryz.underlying4; have a4 := Tryz.isAgg4; have z4 := Tryz.sizeOf4; have v4 := Tryz.zeroValue4
  have t136 := Tryz.underlying136; have a136 := Tryz.isAgg136; have z136 := Tryz.sizeOf136; have v136 := Tryz.zeroValue136
  have t137 := Tryz.underlying137; have a137 := Tryz.isAgg137; have z137 := Tryz.sizeOf137; have v137 := Tryz.zeroValue137
  have u23 := run_underlying Tryz.underlying23; have u78 := run_underlying Tryz.underlying78; have u5 := run_underlying Tryz.underlying5; have u2 := run_underlying Tryz.underlying2; have u3 := run_underlying Tryz.underlying3
  have u9 := run_underlying Tryz.underlying9; have u4 := run_underlying Tryz.underlying4; have u136 := run_underlying Tryz.underlying136; have u137 := run_underlying Tryz.underlying137
  have mixed : Tryz.prog.follows .mixedOrders = true := by kernel_rfl
  have e28 : ∀ args w, (callFunc 28 args).run Tryz.prog w = .ok (.enter 28 args) w := enters_of Tryz.func28 (by kernel_rfl) rfl
  have e51 : ∀ args w, (callFunc 51 args).run Tryz.prog w = .ok (.enter 51 args) w := enters_of Tryz.func51 (by kernel_rfl) rfl
  have e74 : ∀ args w, (callFunc 74 args).run Tryz.prog w = .ok (.enter 74 args) w := enters_of Tryz.func74 (by kernel_rfl) rfl
  have e75 : ∀ args w, (callFunc 75 args).run Tryz.prog w = .ok (.enter 75 args) w := enters_of Tryz.func75 (by kernel_rfl) rfl
  have e47 : ∀ args w, (callFunc 47 args).run Tryz.prog w = .ok (.enter 47 args) w := enters_of Tryz.func47 (by kernel_rfl) rfl
  obtain ⟨c0, c1, c2, c3, c4⟩ := hN i _ _ _ _ _ hi
  have hil : i < l.length := (List.getElem?_eq_some_iff.1 hi).1
  have hr1 : (i : Int) < (l.length : Int) := by omega
  go_enter Tryz.func47, Tryz.ntmps47
  go_wp2
  obtain ⟨KM, hKM⟩ : ∃ K : Act → World → Prop, K = (fun a w5 => ∃ (b9 : Nat) (v34 v35 v36 v37 v38 v39 : Value), a = { tmps := #[Value.pointer (some ⟨b, 0, none⟩), Value.slice (some ⟨b0, off, none⟩) l.length cap, Value.int .i64 i, Value.int .i64 least, undef, undef, undef, undef, Value.pointer (some ⟨w.heap.size, 0, none⟩), Value.pointer (some ⟨b9, 0, none⟩), undef, Value.slice (some ⟨b0, off, none⟩) l.length cap, Value.int .i64 i, Value.pointer (some ⟨b0, off + i * 5, none⟩), Value.agg #[Value.int .u8 8, Value.int .i64 n, Value.int .i64 x, Value.int .i64 y, Value.int .i64 z], Value.bool false, Value.pointer (some ⟨w.heap.size, 0, none⟩), Value.int .u8 8, Value.bool false, undef, undef, undef, undef, undef, Value.bool false, Value.pointer (some ⟨w.heap.size, 0, none⟩), Value.int .u8 8, Value.bool false, undef, undef, undef, undef, undef, undef, v34, v35, v36, v37, v38, v39, undef, undef, undef, undef, undef, undef, undef, undef, undef, undef, undef, undef, undef, undef, undef, undef, undef, undef, undef, undef, undef, undef, undef, undef, undef, undef, undef, undef, undef, undef, undef, undef, undef, undef, undef, undef, undef, undef, undef, undef, undef, undef, undef, undef, undef, undef, undef, undef, undef, undef], defers := [] } ∧ w5.heap[b9]? = some (.cells #[.string ⟨#[32, 43, 32]⟩, .int .i64 6] 136) ∧ w5.heap[w.heap.size]? = some (.cells #[.int .u8 8, .int .i64 n, .int .i64 x, .int .i64 y, .int .i64 z] 78) ∧ w.heap.size < b9 ∧ Below (w.heap.size + 1) (w.alloc (.cells #[.int .u8 8, .int .i64 n, .int .i64 x, .int .i64 y, .int .i64 z] 78)) w5) := ⟨_, rfl⟩
  refine Code.wp_mono (Q := Exit.then KM (fun _ _ _ => False)) ?_ ?_
  rotate_left
  · go_region_with (go_at_fn 75; refine (ops_ok _).mono ?_; rintro e w' ⟨rfl, rfl⟩)
    all_goals (simp only [Exit.then]; rw [hKM])
    all_goals refine ⟨_, _, _, _, _, _, _, rfl, ?_, ?_, ?_, ?_⟩
    all_goals first | exact (((Below.refl _ _).alloc (by simp) _).alloc (by simp) _).drew | exact a3x _ _ _ _ _ _ _ | exact a3o _ _ _ _ _ _ _ | exact a3y _ _ _ _ _ _ _ | omega | (simp; omega) | (simp; done)
  · intro e a w5 hq
    cases e with
    | normal =>
      have hq : KM a w5 := hq
      rw [hKM] at hq
      obtain ⟨b9, v34, v35, v36, v37, v38, v39, rfl, o9, o8, hb9, hBl⟩ := hq
      clear hKM
      have hw : Below w.heap.size w w5 := (below_alloc w _).trans (hBl.mono (by simp))
      have hlt := bld_lt hB
      have n8 : some w.heap.size ≠ some b := by simp; omega
      have n9 : some b9 ≠ some b := by simp; omega
      have ks : ∀ w1 w2 : World, OthersKept 5 (some b) w1 w2 → w1.heap[b9]? = some (.cells #[.string ⟨#[32, 43, 32]⟩, .int .i64 6] 136) → w2.heap[b9]? = some (.cells #[.string ⟨#[32, 43, 32]⟩, .int .i64 6] 136) := fun w1 w2 h h1 => h _ _ h1 n9 (fun c fz e => by cases e)
      have kn : ∀ w1 w2 : World, OthersKept 5 (some b) w1 w2 → w1.heap[w.heap.size]? = some (.cells #[.int .u8 8, .int .i64 n, .int .i64 x, .int .i64 y, .int .i64 z] 78) → w2.heap[w.heap.size]? = some (.cells #[.int .u8 8, .int .i64 n, .int .i64 x, .int .i64 y, .int .i64 z] 78) := fun w1 w2 h h1 => h _ _ h1 n8 (fun c fz e => by cases e)
      have cs : ∀ w1 : World, w1.heap[b9]? = some (.cells #[.string ⟨#[32, 43, 32]⟩, .int .i64 6] 136) → w1.cell? ⟨b9, 0, none⟩ = some (.string ⟨#[32, 43, 32]⟩) ∧ w1.cell? ⟨b9, 1, none⟩ = some (.int .i64 6) := fun w1 h => ⟨cell_of_heap h 0, cell_of_heap h 1⟩
      have cn : ∀ w1 : World, w1.heap[w.heap.size]? = some (.cells #[.int .u8 8, .int .i64 n, .int .i64 x, .int .i64 y, .int .i64 z] 78) → w1.cell? ⟨w.heap.size, 0, none⟩ = some (.int .u8 8) ∧ w1.cell? ⟨w.heap.size, 2, none⟩ = some (.int .i64 x) ∧ w1.cell? ⟨w.heap.size, 3, none⟩ = some (.int .i64 y) := fun w1 h => ⟨cell_of_heap h 0, cell_of_heap h 2, cell_of_heap h 3⟩
      obtain ⟨p50, p51⟩ := cs w5 o9
      obtain ⟨q50, q52, q53⟩ := cn w5 o8
      have hB0 : B ≤ w.heap.size := hBw
      have hN5 := hN.below (hw.mono hBw) hb0
      have hB5 := bld_kept hB hw
      have hBw5 : B ≤ w5.heap.size := Nat.le_trans hBw hw.size
      have hbl5 : Below B w w5 := hw.mono hBw
      have hok5 : OthersKept 5 (some b) w w5 := ok_below hw
      clear hBl hw
      have hl1 : bs.length + tx.length ≤ 1000000 := by simp only [List.length_append, List.length_cons, List.length_nil] at hlen; omega
      have hl2 : (bs ++ Lib.byteCells tx).length + ByteArray.size ⟨#[32, 43, 32]⟩ ≤ 1000000 := by rw [szL, List.length_append, bcl]; simp only [List.length_append, List.length_cons, List.length_nil] at hlen ⊢; omega
      have hl3 : (bs ++ Lib.byteCells tx ++ Lib.byteCells [32, 43, 32]).length + ty.length ≤ 1000000 := by simp only [List.length_append, bcl, List.length_cons, List.length_nil] at hlen ⊢; omega
      have H1 := hx b0 off cap B b bs w5 hb0 hN5 hB5 hl1 hBw5
      have H2 := fun (w6 : World) (h : BuilderAtF 90 5 B b (.pointer (some ⟨b, 0, none⟩)) (bs ++ Lib.byteCells tx) w6) (hb : B ≤ w6.heap.size) => ws (B := B) (s := ⟨#[32, 43, 32]⟩) (.inr h) hl2 hb
      have H3 := fun (w7 : World) (hn : NdsAt w7 b0 off l) (h : BuilderAtF 90 5 B b (.pointer (some ⟨b, 0, none⟩)) (bs ++ Lib.byteCells tx ++ Lib.byteCells [32, 43, 32]) w7) (hb : B ≤ w7.heap.size) => hy b0 off cap B b _ w7 hb0 hn (.inr h) hl3 hb
      go_wp2_with (go_at_fn 47; refine H1.mono ?_; rintro e w6 ⟨rfl, h6, be6, ok6⟩; have hb6 := Nat.le_trans hBw5 be6.size; have n6 := hN5.below be6 hb0; obtain ⟨p60, p61⟩ := cs _ (ks _ _ ok6 o9); obtain ⟨q60, q62, q63⟩ := cn _ (kn _ _ ok6 o8))
      clear H1 p50 p51 q50 q52 q53
      go_wp2_with (go_at_fn 51; refine (H2 _ h6 hb6).mono ?_; rintro e w7 ⟨rfl, h7, be7, ok7⟩; have hb7 := Nat.le_trans hb6 be7.size; have n7 := n6.below be7 hb0; obtain ⟨p70, p71⟩ := cs _ (ks _ _ ok7 (ks _ _ ok6 o9)); obtain ⟨q70, q72, q73⟩ := cn _ (kn _ _ ok7 (kn _ _ ok6 o8)))
      clear H2 p60 p61 q60 q62 q63
      go_wp2_with (go_at_fn 47; refine (H3 _ n7 h7 hb7).mono ?_; rintro e w8 ⟨rfl, hE, be8, ok8⟩)
      first | refine bodyPost_ret (results_none rfl _ _ _) rfl ?_ | refine bodyPost_end (results_none rfl _ _ _) rfl ?_
      exact ⟨rfl, (by rw [bca, bca]; simpa only [List.append_assoc] using hE), ((hbl5.trans be6).trans be7).trans be8, ((hok5.trans ok6).trans ok7).trans ok8⟩
    | _ => exact hq.elim
set_option maxHeartbeats 8000000 in
set_option maxRecDepth 100000 in
theorem wr_14 {l : List Nd} {i : Nat} {least : Int} {n x y z : Int} {tx ty : List UInt8} (hl : l.length < 1000) (hi : l[i]? = some (14, n, x, y, z)) (hle : ¬ (4 : Int) < least)
    (hx : WrOk l x 5 tx) (hy : WrOk l y 5 ty) : WrOk l i least (tx ++ [32, 62, 32] ++ ty) := by
  intro b0 off cap B b bs w hb0 hN hB hlen hBw
  have t23 := Tryz.underlying23; have a23 := Tryz.isAgg23; have z23 := Tryz.sizeOf23; have v23 := Tryz.zeroValue23
  have t78 := Tryz.underlying78; have a78 := Tryz.isAgg78; have z78 := Tryz.sizeOf78; have v78 := Tryz.zeroValue78
  have t5 := Tryz.underlying5; have a5 := Tryz.isAgg5; have z5 := Tryz.sizeOf5; have v5 := Tryz.zeroValue5
  have t2 := Tryz.underlying2; have a2 := Tryz.isAgg2; have z2 := Tryz.sizeOf2; have v2 := Tryz.zeroValue2
  have t3 := Tryz.underlying3; have a3 := Tryz.isAgg3; have z3 := Tryz.sizeOf3; have v3 := Tryz.zeroValue3
  have t9 := Tryz.underlying9; have a9 := Tryz.isAgg9; have z9 := Tryz.sizeOf9; have v9 := Tryz.zeroValue9
  have t4 := Tryz.underlying4; have a4 := Tryz.isAgg4; have z4 := Tryz.sizeOf4; have v4 := Tryz.zeroValue4
  have t136 := Tryz.underlying136; have a136 := Tryz.isAgg136; have z136 := Tryz.sizeOf136; have v136 := Tryz.zeroValue136
  have t137 := Tryz.underlying137; have a137 := Tryz.isAgg137; have z137 := Tryz.sizeOf137; have v137 := Tryz.zeroValue137
  have u23 := run_underlying Tryz.underlying23; have u78 := run_underlying Tryz.underlying78; have u5 := run_underlying Tryz.underlying5; have u2 := run_underlying Tryz.underlying2; have u3 := run_underlying Tryz.underlying3
  have u9 := run_underlying Tryz.underlying9; have u4 := run_underlying Tryz.underlying4; have u136 := run_underlying Tryz.underlying136; have u137 := run_underlying Tryz.underlying137
  have mixed : Tryz.prog.follows .mixedOrders = true := by kernel_rfl
  have e28 : ∀ args w, (callFunc 28 args).run Tryz.prog w = .ok (.enter 28 args) w := enters_of Tryz.func28 (by kernel_rfl) rfl
  have e51 : ∀ args w, (callFunc 51 args).run Tryz.prog w = .ok (.enter 51 args) w := enters_of Tryz.func51 (by kernel_rfl) rfl
  have e74 : ∀ args w, (callFunc 74 args).run Tryz.prog w = .ok (.enter 74 args) w := enters_of Tryz.func74 (by kernel_rfl) rfl
  have e75 : ∀ args w, (callFunc 75 args).run Tryz.prog w = .ok (.enter 75 args) w := enters_of Tryz.func75 (by kernel_rfl) rfl
  have e47 : ∀ args w, (callFunc 47 args).run Tryz.prog w = .ok (.enter 47 args) w := enters_of Tryz.func47 (by kernel_rfl) rfl
  obtain ⟨c0, c1, c2, c3, c4⟩ := hN i _ _ _ _ _ hi
  have hil : i < l.length := (List.getElem?_eq_some_iff.1 hi).1
  have hr1 : (i : Int) < (l.length : Int) := by omega
  go_enter Tryz.func47, Tryz.ntmps47
  go_wp2
  obtain ⟨KM, hKM⟩ : ∃ K : Act → World → Prop, K = (fun a w5 => ∃ (b9 : Nat) (v34 v35 v36 v37 v38 v39 : Value), a = { tmps := #[Value.pointer (some ⟨b, 0, none⟩), Value.slice (some ⟨b0, off, none⟩) l.length cap, Value.int .i64 i, Value.int .i64 least, undef, undef, undef, undef, Value.pointer (some ⟨w.heap.size, 0, none⟩), Value.pointer (some ⟨b9, 0, none⟩), undef, Value.slice (some ⟨b0, off, none⟩) l.length cap, Value.int .i64 i, Value.pointer (some ⟨b0, off + i * 5, none⟩), Value.agg #[Value.int .u8 14, Value.int .i64 n, Value.int .i64 x, Value.int .i64 y, Value.int .i64 z], Value.bool false, Value.pointer (some ⟨w.heap.size, 0, none⟩), Value.int .u8 14, Value.bool false, undef, undef, undef, undef, undef, Value.bool false, Value.pointer (some ⟨w.heap.size, 0, none⟩), Value.int .u8 14, Value.bool false, undef, undef, undef, undef, undef, undef, v34, v35, v36, v37, v38, v39, undef, undef, undef, undef, undef, undef, undef, undef, undef, undef, undef, undef, undef, undef, undef, undef, undef, undef, undef, undef, undef, undef, undef, undef, undef, undef, undef, undef, undef, undef, undef, undef, undef, undef, undef, undef, undef, undef, undef, undef, undef, undef, undef, undef, undef, undef, undef, undef, undef, undef], defers := [] } ∧ w5.heap[b9]? = some (.cells #[.string ⟨#[32, 62, 32]⟩, .int .i64 4] 136) ∧ w5.heap[w.heap.size]? = some (.cells #[.int .u8 14, .int .i64 n, .int .i64 x, .int .i64 y, .int .i64 z] 78) ∧ w.heap.size < b9 ∧ Below (w.heap.size + 1) (w.alloc (.cells #[.int .u8 14, .int .i64 n, .int .i64 x, .int .i64 y, .int .i64 z] 78)) w5) := ⟨_, rfl⟩
  refine Code.wp_mono (Q := Exit.then KM (fun _ _ _ => False)) ?_ ?_
  rotate_left
  · go_region_with (go_at_fn 75; refine (ops_ok _).mono ?_; rintro e w' ⟨rfl, rfl⟩)
    all_goals (simp only [Exit.then]; rw [hKM])
    all_goals refine ⟨_, _, _, _, _, _, _, rfl, ?_, ?_, ?_, ?_⟩
    all_goals first | exact (((Below.refl _ _).alloc (by simp) _).alloc (by simp) _).drew | exact a3x _ _ _ _ _ _ _ | exact a3o _ _ _ _ _ _ _ | exact a3y _ _ _ _ _ _ _ | omega | (simp; omega) | (simp; done)
  · intro e a w5 hq
    cases e with
    | normal =>
      have hq : KM a w5 := hq
      rw [hKM] at hq
      obtain ⟨b9, v34, v35, v36, v37, v38, v39, rfl, o9, o8, hb9, hBl⟩ := hq
      clear hKM
      have hw : Below w.heap.size w w5 := (below_alloc w _).trans (hBl.mono (by simp))
      have hlt := bld_lt hB
      have n8 : some w.heap.size ≠ some b := by simp; omega
      have n9 : some b9 ≠ some b := by simp; omega
      have ks : ∀ w1 w2 : World, OthersKept 5 (some b) w1 w2 → w1.heap[b9]? = some (.cells #[.string ⟨#[32, 62, 32]⟩, .int .i64 4] 136) → w2.heap[b9]? = some (.cells #[.string ⟨#[32, 62, 32]⟩, .int .i64 4] 136) := fun w1 w2 h h1 => h _ _ h1 n9 (fun c fz e => by cases e)
      have kn : ∀ w1 w2 : World, OthersKept 5 (some b) w1 w2 → w1.heap[w.heap.size]? = some (.cells #[.int .u8 14, .int .i64 n, .int .i64 x, .int .i64 y, .int .i64 z] 78) → w2.heap[w.heap.size]? = some (.cells #[.int .u8 14, .int .i64 n, .int .i64 x, .int .i64 y, .int .i64 z] 78) := fun w1 w2 h h1 => h _ _ h1 n8 (fun c fz e => by cases e)
      have cs : ∀ w1 : World, w1.heap[b9]? = some (.cells #[.string ⟨#[32, 62, 32]⟩, .int .i64 4] 136) → w1.cell? ⟨b9, 0, none⟩ = some (.string ⟨#[32, 62, 32]⟩) ∧ w1.cell? ⟨b9, 1, none⟩ = some (.int .i64 4) := fun w1 h => ⟨cell_of_heap h 0, cell_of_heap h 1⟩
      have cn : ∀ w1 : World, w1.heap[w.heap.size]? = some (.cells #[.int .u8 14, .int .i64 n, .int .i64 x, .int .i64 y, .int .i64 z] 78) → w1.cell? ⟨w.heap.size, 0, none⟩ = some (.int .u8 14) ∧ w1.cell? ⟨w.heap.size, 2, none⟩ = some (.int .i64 x) ∧ w1.cell? ⟨w.heap.size, 3, none⟩ = some (.int .i64 y) := fun w1 h => ⟨cell_of_heap h 0, cell_of_heap h 2, cell_of_heap h 3⟩
      obtain ⟨p50, p51⟩ := cs w5 o9
      obtain ⟨q50, q52, q53⟩ := cn w5 o8
      have hB0 : B ≤ w.heap.size := hBw
      have hN5 := hN.below (hw.mono hBw) hb0
      have hB5 := bld_kept hB hw
      have hBw5 : B ≤ w5.heap.size := Nat.le_trans hBw hw.size
      have hbl5 : Below B w w5 := hw.mono hBw
      have hok5 : OthersKept 5 (some b) w w5 := ok_below hw
      clear hBl hw
      have hl1 : bs.length + tx.length ≤ 1000000 := by simp only [List.length_append, List.length_cons, List.length_nil] at hlen; omega
      have hl2 : (bs ++ Lib.byteCells tx).length + ByteArray.size ⟨#[32, 62, 32]⟩ ≤ 1000000 := by rw [szL, List.length_append, bcl]; simp only [List.length_append, List.length_cons, List.length_nil] at hlen ⊢; omega
      have hl3 : (bs ++ Lib.byteCells tx ++ Lib.byteCells [32, 62, 32]).length + ty.length ≤ 1000000 := by simp only [List.length_append, bcl, List.length_cons, List.length_nil] at hlen ⊢; omega
      have H1 := hx b0 off cap B b bs w5 hb0 hN5 hB5 hl1 hBw5
      have H2 := fun (w6 : World) (h : BuilderAtF 90 5 B b (.pointer (some ⟨b, 0, none⟩)) (bs ++ Lib.byteCells tx) w6) (hb : B ≤ w6.heap.size) => ws (B := B) (s := ⟨#[32, 62, 32]⟩) (.inr h) hl2 hb
      have H3 := fun (w7 : World) (hn : NdsAt w7 b0 off l) (h : BuilderAtF 90 5 B b (.pointer (some ⟨b, 0, none⟩)) (bs ++ Lib.byteCells tx ++ Lib.byteCells [32, 62, 32]) w7) (hb : B ≤ w7.heap.size) => hy b0 off cap B b _ w7 hb0 hn (.inr h) hl3 hb
      go_wp2_with (go_at_fn 47; refine H1.mono ?_; rintro e w6 ⟨rfl, h6, be6, ok6⟩; have hb6 := Nat.le_trans hBw5 be6.size; have n6 := hN5.below be6 hb0; obtain ⟨p60, p61⟩ := cs _ (ks _ _ ok6 o9); obtain ⟨q60, q62, q63⟩ := cn _ (kn _ _ ok6 o8))
      clear H1 p50 p51 q50 q52 q53
      go_wp2_with (go_at_fn 51; refine (H2 _ h6 hb6).mono ?_; rintro e w7 ⟨rfl, h7, be7, ok7⟩; have hb7 := Nat.le_trans hb6 be7.size; have n7 := n6.below be7 hb0; obtain ⟨p70, p71⟩ := cs _ (ks _ _ ok7 (ks _ _ ok6 o9)); obtain ⟨q70, q72, q73⟩ := cn _ (kn _ _ ok7 (kn _ _ ok6 o8)))
      clear H2 p60 p61 q60 q62 q63
      go_wp2_with (go_at_fn 47; refine (H3 _ n7 h7 hb7).mono ?_; rintro e w8 ⟨rfl, hE, be8, ok8⟩)
      first | refine bodyPost_ret (results_none rfl _ _ _) rfl ?_ | refine bodyPost_end (results_none rfl _ _ _) rfl ?_
      exact ⟨rfl, (by rw [bca, bca]; simpa only [List.append_assoc] using hE), ((hbl5.trans be6).trans be7).trans be8, ((hok5.trans ok6).trans ok7).trans ok8⟩
    | _ => exact hq.elim
set_option maxHeartbeats 8000000 in
set_option maxRecDepth 100000 in
theorem wr_17 {l : List Nd} {i : Nat} {least : Int} {n x y z : Int} {tx ty : List UInt8} (hl : l.length < 1000) (hi : l[i]? = some (17, n, x, y, z)) (hle : ¬ (4 : Int) < least)
    (hx : WrOk l x 5 tx) (hy : WrOk l y 5 ty) : WrOk l i least (tx ++ [32, 33, 61, 32] ++ ty) := by
  intro b0 off cap B b bs w hb0 hN hB hlen hBw
  have t23 := Tryz.underlying23; have a23 := Tryz.isAgg23; have z23 := Tryz.sizeOf23; have v23 := Tryz.zeroValue23
  have t78 := Tryz.underlying78; have a78 := Tryz.isAgg78; have z78 := Tryz.sizeOf78; have v78 := Tryz.zeroValue78
  have t5 := Tryz.underlying5; have a5 := Tryz.isAgg5; have z5 := Tryz.sizeOf5; have v5 := Tryz.zeroValue5
  have t2 := Tryz.underlying2; have a2 := Tryz.isAgg2; have z2 := Tryz.sizeOf2; have v2 := Tryz.zeroValue2
  have t3 := Tryz.underlying3; have a3 := Tryz.isAgg3; have z3 := Tryz.sizeOf3; have v3 := Tryz.zeroValue3
  have t9 := Tryz.underlying9; have a9 := Tryz.isAgg9; have z9 := Tryz.sizeOf9; have v9 := Tryz.zeroValue9
  have t4 := Tryz.underlying4; have a4 := Tryz.isAgg4; have z4 := Tryz.sizeOf4; have v4 := Tryz.zeroValue4
  have t136 := Tryz.underlying136; have a136 := Tryz.isAgg136; have z136 := Tryz.sizeOf136; have v136 := Tryz.zeroValue136
  have t137 := Tryz.underlying137; have a137 := Tryz.isAgg137; have z137 := Tryz.sizeOf137; have v137 := Tryz.zeroValue137
  have u23 := run_underlying Tryz.underlying23; have u78 := run_underlying Tryz.underlying78; have u5 := run_underlying Tryz.underlying5; have u2 := run_underlying Tryz.underlying2; have u3 := run_underlying Tryz.underlying3
  have u9 := run_underlying Tryz.underlying9; have u4 := run_underlying Tryz.underlying4; have u136 := run_underlying Tryz.underlying136; have u137 := run_underlying Tryz.underlying137
  have mixed : Tryz.prog.follows .mixedOrders = true := by kernel_rfl
  have e28 : ∀ args w, (callFunc 28 args).run Tryz.prog w = .ok (.enter 28 args) w := enters_of Tryz.func28 (by kernel_rfl) rfl
  have e51 : ∀ args w, (callFunc 51 args).run Tryz.prog w = .ok (.enter 51 args) w := enters_of Tryz.func51 (by kernel_rfl) rfl
  have e74 : ∀ args w, (callFunc 74 args).run Tryz.prog w = .ok (.enter 74 args) w := enters_of Tryz.func74 (by kernel_rfl) rfl
  have e75 : ∀ args w, (callFunc 75 args).run Tryz.prog w = .ok (.enter 75 args) w := enters_of Tryz.func75 (by kernel_rfl) rfl
  have e47 : ∀ args w, (callFunc 47 args).run Tryz.prog w = .ok (.enter 47 args) w := enters_of Tryz.func47 (by kernel_rfl) rfl
  obtain ⟨c0, c1, c2, c3, c4⟩ := hN i _ _ _ _ _ hi
  have hil : i < l.length := (List.getElem?_eq_some_iff.1 hi).1
  have hr1 : (i : Int) < (l.length : Int) := by omega
  go_enter Tryz.func47, Tryz.ntmps47
  go_wp2
  obtain ⟨KM, hKM⟩ : ∃ K : Act → World → Prop, K = (fun a w5 => ∃ (b9 : Nat) (v34 v35 v36 v37 v38 v39 : Value), a = { tmps := #[Value.pointer (some ⟨b, 0, none⟩), Value.slice (some ⟨b0, off, none⟩) l.length cap, Value.int .i64 i, Value.int .i64 least, undef, undef, undef, undef, Value.pointer (some ⟨w.heap.size, 0, none⟩), Value.pointer (some ⟨b9, 0, none⟩), undef, Value.slice (some ⟨b0, off, none⟩) l.length cap, Value.int .i64 i, Value.pointer (some ⟨b0, off + i * 5, none⟩), Value.agg #[Value.int .u8 17, Value.int .i64 n, Value.int .i64 x, Value.int .i64 y, Value.int .i64 z], Value.bool false, Value.pointer (some ⟨w.heap.size, 0, none⟩), Value.int .u8 17, Value.bool false, undef, undef, undef, undef, undef, Value.bool false, Value.pointer (some ⟨w.heap.size, 0, none⟩), Value.int .u8 17, Value.bool false, undef, undef, undef, undef, undef, undef, v34, v35, v36, v37, v38, v39, undef, undef, undef, undef, undef, undef, undef, undef, undef, undef, undef, undef, undef, undef, undef, undef, undef, undef, undef, undef, undef, undef, undef, undef, undef, undef, undef, undef, undef, undef, undef, undef, undef, undef, undef, undef, undef, undef, undef, undef, undef, undef, undef, undef, undef, undef, undef, undef, undef, undef], defers := [] } ∧ w5.heap[b9]? = some (.cells #[.string ⟨#[32, 33, 61, 32]⟩, .int .i64 4] 136) ∧ w5.heap[w.heap.size]? = some (.cells #[.int .u8 17, .int .i64 n, .int .i64 x, .int .i64 y, .int .i64 z] 78) ∧ w.heap.size < b9 ∧ Below (w.heap.size + 1) (w.alloc (.cells #[.int .u8 17, .int .i64 n, .int .i64 x, .int .i64 y, .int .i64 z] 78)) w5) := ⟨_, rfl⟩
  refine Code.wp_mono (Q := Exit.then KM (fun _ _ _ => False)) ?_ ?_
  rotate_left
  · go_region_with (go_at_fn 75; refine (ops_ok _).mono ?_; rintro e w' ⟨rfl, rfl⟩)
    all_goals (simp only [Exit.then]; rw [hKM])
    all_goals refine ⟨_, _, _, _, _, _, _, rfl, ?_, ?_, ?_, ?_⟩
    all_goals first | exact (((Below.refl _ _).alloc (by simp) _).alloc (by simp) _).drew | exact a3x _ _ _ _ _ _ _ | exact a3o _ _ _ _ _ _ _ | exact a3y _ _ _ _ _ _ _ | omega | (simp; omega) | (simp; done)
  · intro e a w5 hq
    cases e with
    | normal =>
      have hq : KM a w5 := hq
      rw [hKM] at hq
      obtain ⟨b9, v34, v35, v36, v37, v38, v39, rfl, o9, o8, hb9, hBl⟩ := hq
      clear hKM
      have hw : Below w.heap.size w w5 := (below_alloc w _).trans (hBl.mono (by simp))
      have hlt := bld_lt hB
      have n8 : some w.heap.size ≠ some b := by simp; omega
      have n9 : some b9 ≠ some b := by simp; omega
      have ks : ∀ w1 w2 : World, OthersKept 5 (some b) w1 w2 → w1.heap[b9]? = some (.cells #[.string ⟨#[32, 33, 61, 32]⟩, .int .i64 4] 136) → w2.heap[b9]? = some (.cells #[.string ⟨#[32, 33, 61, 32]⟩, .int .i64 4] 136) := fun w1 w2 h h1 => h _ _ h1 n9 (fun c fz e => by cases e)
      have kn : ∀ w1 w2 : World, OthersKept 5 (some b) w1 w2 → w1.heap[w.heap.size]? = some (.cells #[.int .u8 17, .int .i64 n, .int .i64 x, .int .i64 y, .int .i64 z] 78) → w2.heap[w.heap.size]? = some (.cells #[.int .u8 17, .int .i64 n, .int .i64 x, .int .i64 y, .int .i64 z] 78) := fun w1 w2 h h1 => h _ _ h1 n8 (fun c fz e => by cases e)
      have cs : ∀ w1 : World, w1.heap[b9]? = some (.cells #[.string ⟨#[32, 33, 61, 32]⟩, .int .i64 4] 136) → w1.cell? ⟨b9, 0, none⟩ = some (.string ⟨#[32, 33, 61, 32]⟩) ∧ w1.cell? ⟨b9, 1, none⟩ = some (.int .i64 4) := fun w1 h => ⟨cell_of_heap h 0, cell_of_heap h 1⟩
      have cn : ∀ w1 : World, w1.heap[w.heap.size]? = some (.cells #[.int .u8 17, .int .i64 n, .int .i64 x, .int .i64 y, .int .i64 z] 78) → w1.cell? ⟨w.heap.size, 0, none⟩ = some (.int .u8 17) ∧ w1.cell? ⟨w.heap.size, 2, none⟩ = some (.int .i64 x) ∧ w1.cell? ⟨w.heap.size, 3, none⟩ = some (.int .i64 y) := fun w1 h => ⟨cell_of_heap h 0, cell_of_heap h 2, cell_of_heap h 3⟩
      obtain ⟨p50, p51⟩ := cs w5 o9
      obtain ⟨q50, q52, q53⟩ := cn w5 o8
      have hB0 : B ≤ w.heap.size := hBw
      have hN5 := hN.below (hw.mono hBw) hb0
      have hB5 := bld_kept hB hw
      have hBw5 : B ≤ w5.heap.size := Nat.le_trans hBw hw.size
      have hbl5 : Below B w w5 := hw.mono hBw
      have hok5 : OthersKept 5 (some b) w w5 := ok_below hw
      clear hBl hw
      have hl1 : bs.length + tx.length ≤ 1000000 := by simp only [List.length_append, List.length_cons, List.length_nil] at hlen; omega
      have hl2 : (bs ++ Lib.byteCells tx).length + ByteArray.size ⟨#[32, 33, 61, 32]⟩ ≤ 1000000 := by rw [szL, List.length_append, bcl]; simp only [List.length_append, List.length_cons, List.length_nil] at hlen ⊢; omega
      have hl3 : (bs ++ Lib.byteCells tx ++ Lib.byteCells [32, 33, 61, 32]).length + ty.length ≤ 1000000 := by simp only [List.length_append, bcl, List.length_cons, List.length_nil] at hlen ⊢; omega
      have H1 := hx b0 off cap B b bs w5 hb0 hN5 hB5 hl1 hBw5
      have H2 := fun (w6 : World) (h : BuilderAtF 90 5 B b (.pointer (some ⟨b, 0, none⟩)) (bs ++ Lib.byteCells tx) w6) (hb : B ≤ w6.heap.size) => ws (B := B) (s := ⟨#[32, 33, 61, 32]⟩) (.inr h) hl2 hb
      have H3 := fun (w7 : World) (hn : NdsAt w7 b0 off l) (h : BuilderAtF 90 5 B b (.pointer (some ⟨b, 0, none⟩)) (bs ++ Lib.byteCells tx ++ Lib.byteCells [32, 33, 61, 32]) w7) (hb : B ≤ w7.heap.size) => hy b0 off cap B b _ w7 hb0 hn (.inr h) hl3 hb
      go_wp2_with (go_at_fn 47; refine H1.mono ?_; rintro e w6 ⟨rfl, h6, be6, ok6⟩; have hb6 := Nat.le_trans hBw5 be6.size; have n6 := hN5.below be6 hb0; obtain ⟨p60, p61⟩ := cs _ (ks _ _ ok6 o9); obtain ⟨q60, q62, q63⟩ := cn _ (kn _ _ ok6 o8))
      clear H1 p50 p51 q50 q52 q53
      go_wp2_with (go_at_fn 51; refine (H2 _ h6 hb6).mono ?_; rintro e w7 ⟨rfl, h7, be7, ok7⟩; have hb7 := Nat.le_trans hb6 be7.size; have n7 := n6.below be7 hb0; obtain ⟨p70, p71⟩ := cs _ (ks _ _ ok7 (ks _ _ ok6 o9)); obtain ⟨q70, q72, q73⟩ := cn _ (kn _ _ ok7 (kn _ _ ok6 o8)))
      clear H2 p60 p61 q60 q62 q63
      go_wp2_with (go_at_fn 47; refine (H3 _ n7 h7 hb7).mono ?_; rintro e w8 ⟨rfl, hE, be8, ok8⟩)
      first | refine bodyPost_ret (results_none rfl _ _ _) rfl ?_ | refine bodyPost_end (results_none rfl _ _ _) rfl ?_
      exact ⟨rfl, (by rw [bca, bca]; simpa only [List.append_assoc] using hE), ((hbl5.trans be6).trans be7).trans be8, ((hok5.trans ok6).trans ok7).trans ok8⟩
    | _ => exact hq.elim
end Go.Proofs.Tryz

set_option maxRecDepth 100000
namespace Go.Proofs.Tryz
open Go.RowKit Go.Lib Go.Av
variable [Gls]
def ndA (p : Nd) : AV := .agg [.sc (.int .u8 p.1), .sc (.int .i64 p.2.1), .sc (.int .i64 p.2.2.1), .sc (.int .i64 p.2.2.2.1), .sc (.int .i64 p.2.2.2.2)]
theorem nds_of {c : Ctx} {l : List Nd} {v : Value} (hne : l ≠ []) (hso : ∀ b, ¬ c.So b) (h : VRel c true (.list false (l.map ndA)) v) : ∃ b0 off cap, v = .slice (some ⟨b0, off, none⟩) l.length cap ∧ c.Sa b0 ∧ NdsAt c.w b0 off l := by
  generalize ha : AV.list false (l.map ndA) = a at h
  cases h with
  | listNil => simp at ha; exact absurd ha.2 hne
  | sc => cases ha
  | nils => cases ha
  | agg => cases ha
  | tup => cases ha
  | elem => cases ha
  | fn => cases ha
  | list vf hne2 hS hn hcap hsz hcell h1 hr =>
    rename_i own es b off cap esz n
    cases ha
    have hesz : esz = 5 := by
      cases l with
      | nil => exact absurd rfl hne
      | cons p r => have := hsz 0 (ndA p) rfl; rw [← this]; rfl
    subst hesz
    refine ⟨b, off, cap, by rw [hn, List.length_map], ?_, ?_⟩
    · rcases hS with h | h
      · exact h.2
      · exact absurd h (hso _)
    · intro i k n' x y z hi
      have he : (l.map ndA)[i]? = some (ndA (k, n', x, y, z)) := by rw [List.getElem?_map, hi]; rfl
      have key : ∀ (j : Nat) u, (ndA (k, n', x, y, z)).cells[j]? = some (.sc u) → c.w.cell? ⟨b, off + i * 5 + j, none⟩ = some u := fun j u hj => by
        rw [hcell i _ j _ he hj, (hr i _ j _ he hj).sc_inv]
      exact ⟨key 0 _ rfl, key 1 _ rfl, key 2 _ rfl, key 3 _ rfl, key 4 _ rfl⟩
set_option maxHeartbeats 4000000 in
theorem expr_ok {l : List Nd} {txt : List UInt8} (hdk : Gls.dk = 0) (hne : l ≠ []) (hl : l.length < 1000) (hc : Pure Tryz.prog 44 [.list false (l.map ndA)] (.sc (.int .i64 0))) (hw : WrOk l ((l.length : Int) - 1) 0 txt) (ht : txt.length ≤ 1000) :
    Pure Tryz.prog 26 [.list false (l.map ndA)] (.tup [.sc (.string ⟨txt.toArray⟩), .sc (.int .i64 0)]) := by
  refine ⟨⟨Tryz.f26, _, ⟨Tryz.func26, by kernel_rfl, rfl⟩⟩, fun w S vs hS hG hv => ?_⟩
  obtain ⟨v, rfl⟩ : ∃ v, vs = #[v] := by
    have h1 : vs.size = 1 := by have := hv.len; simpa using this.symm
    exact ⟨vs[0]'(by omega), by apply Array.ext (by simp [h1]); intro i hi _; have : i = 0 := by omega
                                subst this; rfl⟩
  obtain ⟨b0, off, cap, rfl, hb0, hN⟩ := nds_of hne (fun _ h => h) (hv.rel 0 _ _ rfl rfl)
  have hbl : b0 < w.heap.size := hS b0 hb0
  have H1 := hc.2 w S _ hS hG hv
  have t23 := Tryz.underlying23; have a23 := Tryz.isAgg23; have z23 := Tryz.sizeOf23; have v23 := Tryz.zeroValue23
  have t29 := Tryz.underlying29; have a29 := Tryz.isAgg29; have z29 := Tryz.sizeOf29; have v29 := Tryz.zeroValue29; have u29 := run_underlying Tryz.underlying29
  have t9 := Tryz.underlying9; have a9 := Tryz.isAgg9; have z9 := Tryz.sizeOf9; have v9 := Tryz.zeroValue9; have u9 := run_underlying Tryz.underlying9
  have t87 := Tryz.underlying87; have a87 := Tryz.isAgg87; have z87 := Tryz.sizeOf87; have v87 := Tryz.zeroValue87; have u87 := run_underlying Tryz.underlying87
  have t4 := Tryz.underlying4; have a4 := Tryz.isAgg4; have z4 := Tryz.sizeOf4; have v4 := Tryz.zeroValue4; have u4 := run_underlying Tryz.underlying4
  have t90 := Tryz.underlying90; have a90 := Tryz.isAgg90; have z90 := Tryz.sizeOf90; have v90 := Tryz.zeroValue90
  have t3 := Tryz.underlying3; have a3 := Tryz.isAgg3; have z3 := Tryz.sizeOf3; have v3 := Tryz.zeroValue3
  have e44 : ∀ args w, (callFunc 44 args).run Tryz.prog w = .ok (.enter 44 args) w := enters_of Tryz.func44 (by kernel_rfl) rfl
  have e48 : ∀ args w, (callFunc 48 args).run Tryz.prog w = .ok (.enter 48 args) w := enters_of Tryz.func48 (by kernel_rfl) rfl
  have e47 : ∀ args w, (callFunc 47 args).run Tryz.prog w = .ok (.enter 47 args) w := enters_of Tryz.func47 (by kernel_rfl) rfl
  have u23 := run_underlying Tryz.underlying23; have u90 := run_underlying Tryz.underlying90; have u3 := run_underlying Tryz.underlying3
  have mixed : Tryz.prog.follows .mixedOrders = true := by kernel_rfl
  have hw1 : IntKind.i64.wrap ((l.length : Int) - 1) = (l.length : Int) - 1 := by rw [IntKind.wrap_i64]; omega
  go_enter Tryz.func26, Tryz.ntmps26
  go_wp2_with (go_at_fn 44; refine H1.mono ?_; rintro e w1 ⟨v1, rfl, hv1, hb1⟩; obtain rfl := hv1.sc_inv)
  have hbw : Below w.heap.size w w1 := hb1.toBelow
  have hN1 := hN.below hbw hbl
  have h0 : IsBuilderF 90 5 w1.heap.size w1.heap.size [] (w1.alloc (.cells #[.pointer none, .slice none 0 0] 90)) := IsBuilderF.of (Lib.fresh_isBuilder 90 5 w1)
  have b0' : Below w1.heap.size w1 (w1.alloc (.cells #[.pointer none, .slice none 0 0] 90)) := below_alloc w1 _
  have hl1 : b0 < w1.heap.size := Nat.lt_of_lt_of_le hbl hbw.size
  go_wp2_with (go_at_fn 47; refine (hw b0 off cap w1.heap.size w1.heap.size [] _ hl1 (hN1.below b0' hl1) h0 (by simp; omega) b0'.size).mono ?_; rintro e w2 ⟨rfl, h2, h3, h4⟩; rw [List.nil_append] at h2)
  go_wp2_with (go_at_fn 48; refine (Any.Builder_String_any_k Tryz.lays169 Tryz.bextra w1.heap.size w1.heap.size txt _ (.inr h2) (Nat.le_trans b0'.size h3.size)).mono ?_; rintro e w3 ⟨rfl, h5, h6, h7⟩)
  have hB : Below w.heap.size w w3 := hbw.trans (((b0'.trans h3).trans h6).mono hbw.size)
  refine bodyPost_ret (v := .tuple #[.string ⟨txt.toArray⟩, .int .i64 0]) (by simp [results, Tryz.f26]) rfl ?_
  refine ⟨_, rfl, .tup rfl ?_, hB, by simp [dr, hdk]⟩
  intro i a v ha hv
  match i, ha, hv with
  | 0, ha, hv => cases ha; cases hv; exact .sc
  | 1, ha, hv => cases ha; cases hv; exact .sc
theorem join_ok {xs : List ByteArray} {sep : ByteArray} (hdk : Gls.dk = 0) (hne : xs ≠ []) (hl : xs.length < 1000) (ht : (Lib.join (xs.map (·.data.toList)) sep.data.toList).length ≤ 100000) :
    Pure Tryz.prog 29 [.list false (xs.map fun x => .sc (.string x)), .sc (.string sep)] (.sc (.string ⟨(Lib.join (xs.map (·.data.toList)) sep.data.toList).toArray⟩)) := by
  refine ⟨⟨Tryz.f29, _, ⟨Tryz.func29, by kernel_rfl, rfl⟩⟩, fun w S vs hS hG hv => ?_⟩
  obtain ⟨v, u, rfl⟩ : ∃ v u, vs = #[v, u] := by
    have h1 : vs.size = 2 := by have := hv.len; simpa using this.symm
    exact ⟨vs[0]'(by omega), vs[1]'(by omega), by
      apply Array.ext (by simp [h1]); intro i hi _
      have : i = 0 ∨ i = 1 := by omega
      rcases this with rfl | rfl <;> rfl⟩
  have hu := (hv.rel 1 _ _ rfl rfl).sc_inv
  subst hu
  have h := hv.rel 0 _ _ rfl rfl
  generalize ha : AV.list false (xs.map fun x => .sc (.string x)) = a at h
  cases h with
  | listNil => simp at ha; exact absurd ha.2 hne
  | sc => cases ha
  | nils => cases ha
  | agg => cases ha
  | tup => cases ha
  | elem => cases ha
  | fn => cases ha
  | list vf hne2 hS2 hn hcap hsz hcell h1 hr =>
    rename_i own es b off cap esz n
    cases ha
    have hesz : esz = 1 := by
      cases xs with
      | nil => exact absurd rfl hne
      | cons p r => have := hsz 0 (.sc (.string p)) rfl; rw [← this]; rfl
    subst hesz
    subst hn
    rw [List.length_map] at hcap ⊢
    have hSb : S b := by
      rcases hS2 with h | h
      · exact h.2
      · exact absurd h fun h => h
    have H := Any.strings_Join Tryz.lays156 Tryz.bextra b off cap xs sep w (fun j x hj => by
      have he : (xs.map fun x => AV.sc (.string x))[j]? = some (.sc (.string x)) := by rw [List.getElem?_map, hj]; rfl
      have h2 := hcell j _ 0 _ he rfl
      rw [(hr j _ 0 _ he rfl).sc_inv, Nat.mul_one] at h2
      exact h2) (hS b hSb) (by omega) hcap (by omega)
    refine H.mono ?_
    rintro e w' ⟨rfl, hB⟩
    exact ⟨_, rfl, .sc, hB, by simp [dr, hdk]⟩
theorem expr_at {l : List Nd} {n : Int} {txt : List UInt8} (hdk : Gls.dk = 0) (hne : l ≠ []) (hl : l.length < 1000) (hc : Pure Tryz.prog 44 [.list false (l.map ndA)] (.sc (.int .i64 0))) (hn : (l.length : Int) - 1 = n) (hw : WrOk l n 0 txt) (ht : txt.length ≤ 1000) :
    Pure Tryz.prog 26 [.list false (l.map ndA)] (.tup [.sc (.string ⟨⟨txt⟩⟩), .sc (.int .i64 0)]) := expr_ok hdk hne hl hc (hn ▸ hw) ht
theorem join_at {xs : List ByteArray} {sep : ByteArray} {out : List UInt8} (hdk : Gls.dk = 0) (hne : xs ≠ []) (hl : xs.length < 1000) (hj : Lib.join (xs.map (·.data.toList)) sep.data.toList = out) (ht : out.length ≤ 100000) :
    Pure Tryz.prog 29 [.list false (xs.map fun x => .sc (.string x)), .sc (.string sep)] (.sc (.string ⟨⟨out⟩⟩)) := by
  subst hj
  exact join_ok hdk hne hl ht
end Go.Proofs.Tryz
namespace Go.Proofs.Tryz
section
open Go.RowKit Go.Lib Go.Av
@[reducible] def gl0 : Gls := ⟨[], 0⟩
attribute [local instance] gl0
theorem num_at {n : Int} {s : ByteArray} (h : Pure Tryz.prog 28 [.sc (.int .i64 n)] (.sc (.string s))) (w : World) : Calls Tryz.prog 28 #[.int .i64 n] w fun e w' => e = .returned (.string s) ∧ Below w.heap.size w w' := by
  refine (h.2 w (fun _ => False) #[.int .i64 n] (fun b h => h.elim) (fun p hp => by cases hp) ?_).mono ?_
  · constructor
    · rfl
    · intro i a v ha hv
      match i, ha, hv with
      | 0, ha, hv => cases ha; cases hv; exact .sc
  · rintro e w' ⟨v, rfl, hv, hB⟩
    exact ⟨by rw [hv.sc_inv], hB.toBelow⟩
end
end Go.Proofs.Tryz
