/- Parts of the proof, laid together. -/
import Derived.Test.YtoggmnlkaphgcaaGreatDoorAvd
import Derived.MapKept
import Derived.RangeFuncIn
import Derived.Test.YtoggmnlkaphgcaaGreatDoorAvb
set_option linter.all false
namespace Go.Av
variable [Gls]
open MapKept
noncomputable def setV (k v : Value) : List (Value × Value) → List (Value × Value)
  | [] => [(k, v)]
  | (a, b) :: r => open Classical in if a = k then (k, v) :: r else (a, b) :: setV k v r
noncomputable def getV (k : Value) : List (Value × Value) → Option Value
  | [] => none
  | (a, b) :: r => open Classical in if a = k then some b else getV k r
theorem setV_at {k v : Value} : ∀ (l : List (Value × Value)) (j : Nat) (p : Value × Value), l[j]? = some p → p.1 = k → (∀ i q, i < j → l[i]? = some q → q.1 ≠ k) → setV k v l = l.set j (k, v) ∧ getV k l = some p.2 := by
  intro l
  induction l with
  | nil => intro j p h; simp at h
  | cons a r ih =>
    obtain ⟨a1, a2⟩ := a
    intro j p h hk hn
    cases j with
    | zero => simp at h; subst h; simp only at hk; simp [setV, getV, hk]
    | succ j =>
      have h0 : a1 ≠ k := hn 0 (a1, a2) (Nat.succ_pos j) rfl
      obtain ⟨h1, h2⟩ := ih j p (by simpa using h) hk (fun i q hi hq => hn (i + 1) q (Nat.succ_lt_succ hi) (by simpa using hq))
      simp [setV, getV, h0, h1, h2]
theorem setV_new {k v : Value} : ∀ (l : List (Value × Value)), (∀ q ∈ l, q.1 ≠ k) → setV k v l = l ++ [(k, v)] ∧ getV k l = none := by
  intro l
  induction l with
  | nil => intro _; exact ⟨rfl, rfl⟩
  | cons a r ih =>
    obtain ⟨a1, a2⟩ := a
    intro hn
    have h0 : a1 ≠ k := hn (a1, a2) (by simp)
    obtain ⟨h1, h2⟩ := ih (fun q hq => hn q (List.mem_cons_of_mem _ hq))
    simp [setV, getV, h0, h1, h2]
theorem findNow_first {d : TypeDesc} {k : Value} (hk : IsKey d k) : ∀ (l : List MapEntry) (i : Nat), (∀ x ∈ l, IsKey d x.key) →
    (Instr.findNow d k l i = some none ∧ ∀ x ∈ l, x.key ≠ k) ∨ ∃ j e, Instr.findNow d k l i = some (some (i + j, e.val)) ∧ l[j]? = some e ∧ e.key = k ∧ ∀ m x, m < j → l[m]? = some x → x.key ≠ k := by
  intro l
  induction l with
  | nil => intro i _; exact .inl ⟨rfl, by simp⟩
  | cons e es ih =>
    intro i h
    obtain ⟨r, hr, hiff⟩ := sameNow_of_keys hk (h e (by simp))
    cases r with
    | true => exact .inr ⟨0, e, by simp [Instr.findNow, hr], rfl, (hiff.1 rfl).symm, fun m x hm => absurd hm (Nat.not_lt_zero m)⟩
    | false =>
      have hne : e.key ≠ k := fun q => by have := hiff.2 q.symm; cases this
      rcases ih (i + 1) (fun x hx => h x (List.mem_cons_of_mem _ hx)) with ⟨h1, h2⟩ | ⟨j, e', h1, h2, h3, h4⟩
      · exact .inl ⟨by simp [Instr.findNow, hr, h1], fun x hx => by
          rcases List.mem_cons.1 hx with rfl | hx
          · exact hne
          · exact h2 x hx⟩
      · refine .inr ⟨j + 1, e', by simp [Instr.findNow, hr, h1]; omega, by simpa using h2, h3, fun m x hm hx => ?_⟩
        cases m with
        | zero => simp at hx; subst hx; exact hne
        | succ m => exact h4 m x (by omega) (by simpa using hx)
theorem sameBits_key {d : TypeDesc} {k : Value} (hk : IsKey d k) (n : Nat) : Instr.sameBits (n + 1) k k = true := by
  cases d <;> cases k <;> simp_all [IsKey, Instr.sameBits, bytes_beq]
theorem run_mapUpdate_is {P : Program} {w : World} {b : Nat} {l : List (Value × Value)} {t kt et : TypeId} {d : TypeDesc} {k v : Value} (hm : P.underlying t = some (.map kt et)) (hd : P.underlying kt = some d)
    (hM : MapIs w b l) (hk : IsKey d k) (hks : ∀ p ∈ l, IsKey d p.1) :
    ∃ o', (Instr.mapUpdate t (.map (some b)) k v).run P w = .ok () { w with heap := w.heap.setIfInBounds b o' } ∧ MapIs { w with heap := w.heap.setIfInBounds b o' } b (setV k v l) := by
  obtain ⟨es, clock, hb, hl, hp, hc⟩ := hM
  have hes : ∀ x ∈ es.toList, IsKey d x.key := fun x hx => hks (x.key, x.val) (by rw [← hl]; exact List.mem_map.2 ⟨x, hx, rfl⟩)
  have hset : ∀ o', (w.heap.setIfInBounds b o')[b]? = some o' := fun o' => (heap_set (o' := o') hb).1
  rcases findNow_first hk es.toList 0 hes with ⟨h1, h2⟩ | ⟨j, e, h1, h2, h3, h4⟩
  · refine ⟨.map (es.push { key := k, val := v, born := clock }) (clock + 1), ?_, es.push { key := k, val := v, born := clock }, clock + 1, hset _, ?_, ?_, ?_⟩
    · simp [Instr.mapUpdate, run_underlying hm, MapKept.run_getObj_map hb, run_checkKey hd hk, run_findKey hd h1, MapKept.run_setObj_map _ hb]
    · rw [Array.toList_push, List.map_append, hl]
      rw [(setV_new (v := v) l (fun q hq => by
        rw [← hl] at hq
        obtain ⟨x, hx, rfl⟩ := List.mem_map.1 hq
        exact h2 x hx)).1]
      rfl
    · rw [Array.toList_push]
      exact List.pairwise_append.2 ⟨hp, List.pairwise_singleton _ _, fun a ha b' hb' => by rw [List.mem_singleton.1 hb']; exact hc a ha⟩
    · intro x hx
      rw [Array.toList_push, List.mem_append] at hx
      rcases hx with hx | hx
      · exact Nat.lt_succ_of_lt (hc x hx)
      · rw [List.mem_singleton.1 hx]; exact Nat.lt_succ_self _
  · have he : es[j]? = some e := by simpa using h2
    have hlj : l[j]? = some (e.key, e.val) := by rw [← hl, List.getElem?_map, h2]; rfl
    have hm2 : (es.modify j fun e => { e with key := k, val := v }).toList = es.toList.modify j fun e => { e with key := k, val := v } := by simp
    refine ⟨.map (es.modify j fun e => { e with key := k, val := v }) clock, ?_, es.modify j fun e => { e with key := k, val := v }, clock, hset _, ?_, ?_, ?_⟩
    · have hst : (Instr.keyThatStays k k).run P w = .ok k w := by simp [Instr.keyThatStays, sameBits_key hk]
      simp only [Nat.zero_add] at h1
      simp [Instr.mapUpdate, run_underlying hm, MapKept.run_getObj_map hb, run_checkKey hd hk, run_findKey hd h1, he, h3, hst, MapKept.run_setObj_map _ hb]
    · rw [hm2, (setV_at (v := v) l j _ hlj h3 (fun i q hi hq => by
        rw [← hl, List.getElem?_map] at hq
        cases hx : es.toList[i]? with
        | none => rw [hx] at hq; cases hq
        | some x => rw [hx] at hq; cases hq; exact h4 i x hi hx)).1, ← hl]
      apply List.ext_getElem?
      intro i
      simp only [List.getElem?_map, List.getElem?_modify, List.getElem?_set]
      by_cases hij : j = i
      · subst hij
        have hlt : j < es.toList.length := (List.getElem?_eq_some_iff.1 h2).1
        simp [he] at *
        simpa using hlt
      · simp [hij]
    · rw [hm2]
      refine List.pairwise_iff_getElem.2 fun i i' hi hi' hlt => ?_
      have := List.pairwise_iff_getElem.1 hp i i' (by simpa using hi) (by simpa using hi') hlt
      simp only [List.getElem_modify]
      split <;> split <;> exact this
    · intro x hx
      rw [hm2] at hx
      obtain ⟨i, hi⟩ := List.getElem?_of_mem hx
      rw [List.getElem?_modify] at hi
      cases hy : es.toList[i]? with
      | none => rw [hy] at hi; simp at hi
      | some y =>
        rw [hy] at hi
        have := hc y (List.mem_of_getElem? hy)
        by_cases hij : j = i
        · simp [hij] at hi; rw [← hi]; exact this
        · simp [hij] at hi; rw [← hi]; exact this
theorem Inv.aside {c : Ctx} {H : Heap} {M : Nat → Prop} (hI : Inv c H M) {b : Nat} {w' : World} (hsz : w'.heap.size = c.w.heap.size) (hw : ∀ q, q ≠ b → w'.heap[q]? = c.w.heap[q]?) (hsa : ¬ c.Sa b ∧ ¬ c.So b) (hob : ∀ o x, H o = some x → (c.ρ o).blk ≠ b) :
    c.Le M { c with w := w' } ∧ Inv { c with w := w' } H M := by
  have hle : c.Le M { c with w := w' } := ⟨fun _ _ => rfl, fun _ h => h, fun _ h => h, fun q hq => hw q (fun e => by subst e; exact hq.elim hsa.1 hsa.2), rfl⟩
  refine ⟨hle, ⟨?_, hI.sep, hI.stab, fun q hq => by have := hI.lt q hq; simp only [hsz]; exact this, by have := hI.base; simp only [hsz]; exact this, hI.own, hI.low, hI.glob.mono hle⟩⟩
  intro p x hx
  obtain ⟨h1, ⟨⟨cur, hb, hs, hc⟩, h3, h4, h5⟩, h6⟩ := hI.obj p x hx
  refine ⟨h1, ⟨⟨cur, ?_, hs, ?_⟩, h3, h4, h5⟩, h6⟩
  · show w'.heap[(c.ρ p).blk]? = _
    rw [hw _ (hob p x hx)]; exact hb
  · intro i e he
    obtain ⟨g1, g2⟩ := hc i e he
    exact ⟨g1, fun k a ha => by obtain ⟨v, hv, hr, h7⟩ := g2 k a ha; exact ⟨v, hv, hr.mono hle (.inr (h6 e (List.mem_of_getElem? he) a (List.mem_of_getElem? ha))), h7⟩⟩
section
variable {P : Program} {nt n0 : Nat} {Q : AExit → St → Mu → Prop} {ops : Array Oper} {l : List Oper} {o : Oper} {K : List Kn} {L : List (Nat × AV)} {G : List (Nat × Obj)} {n : Nat} {μ : Mu}
theorem Carry_run_makeMap {P : Program} (t : TypeId) (w : World) : (Instr.makeMap t none).run P w = .ok (.map (some w.heap.size)) (w.alloc (.map #[] 0)) := rfl
theorem SemK.mapNew {t : Nat} (ho : o.op = .makeMap t none) (hg : o.guard = none) (hd : dstOk nt o.dst = true)
    (h : ∀ b, SemK P nt n0 Q (.ops ops l) K ⟨fr (putO o.dst (.sc (.map (some b))) L), hp G, n⟩ ((b, .map []) :: μ)) : SemK P nt n0 Q (.ops ops (o :: l)) K ⟨fr L, hp G, n⟩ μ := by
  intro c0 H0 c act g hm Qx hQ R hR
  refine wpListR_step fun K' hK' => ?_
  rw [if_pos (by simp [Region.wanted, hg])]
  have hrun : (execOp act.eval o).run P c.w = .ok (.value (.map (some c.w.heap.size))) (c.w.alloc (.map #[] 0)) := by
    obtain ⟨dst, op, type, pos, after, guard⟩ := o
    simp only at ho
    subst ho
    simp only [execOp, Sem.run_bind, Carry_run_makeMap]
    rfl
  refine Oper.wpR (fun d hd => by rw [hd] at ho; cases ho) ?_
  unfold Oper.wp
  rw [hrun]
  obtain ⟨h1, h2, h3⟩ := g.inv.waste (w' := c.w.alloc (.map #[] 0)) (.map #[] 0) rfl rfl rfl ⟨rfl, Nat.le_refl _⟩
  have g2 := (g.rebase).next (c' := { c with w := c.w.alloc (.map #[] 0) }) (dst := o.dst) (a := .sc (.map (some c.w.heap.size))) (v := .map (some c.w.heap.size)) (dstOk_lt hd) h1 rfl (fun b hb => .inl hb) h3 (fun q x hx => .inr ⟨q, x, hx, rfl⟩) h2 g.solo (Nat.le_refl _) .sc .sc
  have hk := hm.kept g2.reach
  have hnew : (c.w.alloc (.map #[] 0)).heap[c.w.heap.size]? = some (.map #[] 0) := (heap_alloc c.w _).1
  have hb := h c.w.heap.size
  rw [putO_fr] at hb
  refine hK' _ _ (hb c0 H0 { c with w := c.w.alloc (.map #[] 0) } _ (.join g.reach g2) ⟨?_, ?_, ?_, (put_defers _ _ _).trans hm.ds⟩ Qx hQ R hR)
  · intro p hp
    rcases List.mem_cons.1 hp with rfl | hp
    · exact ⟨#[], 0, hnew, rfl, List.Pairwise.nil, fun e he => by simp at he⟩
    · exact hk.is p hp
  · intro p hp
    rcases List.mem_cons.1 hp with rfl | hp
    · refine ⟨fun hs => Nat.lt_irrefl _ (g.inv.lt _ (.inl hs)), fun hs => Nat.lt_irrefl _ (g.inv.lt _ (.inr hs)), fun q x hx he => ?_, ⟨by rw [← g.reach.B]; exact g.inv.base, .inl g.reach.size⟩⟩
      obtain ⟨_, ⟨⟨cur, hcb, _⟩, _, _, _⟩, _⟩ := g.inv.obj q x hx
      have he' : (c.ρ q).blk = c.w.heap.size := he
      rw [he'] at hcb
      simp at hcb
    · exact hk.away p hp
  · refine List.nodup_cons.2 ⟨fun hmem => ?_, hk.nodup⟩
    obtain ⟨p, hp, he⟩ := List.mem_map.1 hmem
    have := (hm.is p hp).lt
    simp only at he
    omega
theorem SemK.mapUpd {T : Ty} {t b kt et : Nat} {m k x : Operand} {qm qk qx : List Prop} {kv xv : Value} {es : List (Value × Value)} {ti : TI} {d : TypeDesc} (hT : TyOk P T) (ho : o.op = .mapUpdate t m k x) (hg : o.guard = none) (hd : o.dst = none)
    (ht : T t = some ti) (hkd : ti.kind = .map kt et) (hu : P.underlying kt = some d)
    (hm : rd L m = (.sc (.map (some b)), qm)) (hk : rd L k = (.sc kv, qk)) (hx : rd L x = (.sc xv, qx)) (hqm : allP qm) (hqk : allP qk) (hqx : allP qx) (hik : IsKey d kv) (hks : ∀ p ∈ es, IsKey d p.1)
    (h : SemK P nt n0 Q (.ops ops l) K ⟨fr L, hp G, n⟩ ((b, setV kv xv es) :: μ)) : SemK P nt n0 Q (.ops ops (o :: l)) K ⟨fr L, hp G, n⟩ ((b, es) :: μ) := by
  intro c0 H0 c act g hM Qx hQ R hR
  refine wpListR_step fun K' hK' => ?_
  rw [if_pos (by simp [Region.wanted, hg])]
  have em : act.eval m = .map (some b) := by have := g.ev m; rw [show evA (St.A ⟨fr L, hp G, n⟩) m = _ from rd_ok hm hqm] at this; exact this.sc_inv
  have ek : act.eval k = kv := by have := g.ev k; rw [show evA (St.A ⟨fr L, hp G, n⟩) k = _ from rd_ok hk hqk] at this; exact this.sc_inv
  have ex : act.eval x = xv := by have := g.ev x; rw [show evA (St.A ⟨fr L, hp G, n⟩) x = _ from rd_ok hx hqx] at this; exact this.sc_inv
  have hu1 : P.underlying t = some (.map kt et) := by
    obtain ⟨i, dd, _, hdd, _, hkk, _⟩ := tyInfo_parts (hT t ti ht)
    rw [hkd] at hkk
    cases dd <;> simp [kindOf] at hkk
    obtain ⟨rfl, rfl⟩ := hkk
    exact hdd
  obtain ⟨o', hrun, hmap⟩ := run_mapUpdate_is (v := xv) hu1 hu (hM.is (b, es) (by simp)) hik hks
  have hex : (execOp act.eval o).run P c.w = .ok .skip { c.w with heap := c.w.heap.setIfInBounds b o' } := by
    obtain ⟨dst, op, type, pos, after, guard⟩ := o
    simp only at ho
    subst ho
    simp only [execOp, em, ek, ex, Sem.run_bind, hrun]
    rfl
  refine Oper.wpR (fun d hd => by rw [hd] at ho; cases ho) ?_
  unfold Oper.wp
  rw [hex]
  obtain ⟨a1, a2, a3, a4⟩ := hM.away (b, es) (by simp)
  obtain ⟨es0, cl, hb0, _⟩ := hM.is (b, es) (by simp)
  have hoth : ∀ q, q ≠ b → ({ c.w with heap := c.w.heap.setIfInBounds b o' } : World).heap[q]? = c.w.heap[q]? := (heap_set (o' := o') hb0).2
  obtain ⟨h1, h2⟩ := g.inv.aside (w' := { c.w with heap := c.w.heap.setIfInBounds b o' }) (by simp) hoth ⟨a1, a2⟩ a3
  have g2 : Good nt c0 H0 n0 { c with w := { c.w with heap := c.w.heap.setIfInBounds b o' } } ⟨fr L, hp G, n⟩ act := by
    refine ⟨h2, g.solo, fun q => (g.frame q).mono h1 (.inr (g.ok q)), g.ok, g.size, ?_, g.le0⟩
    have r := g.reach
    refine ⟨r.rho, r.os, r.tape, ⟨r.output.1, Nat.le_trans r.output.2 (by first | exact Nat.le_refl _ | exact dr_le (Nat.le_succ _) | (simp; done) | (simp; omega))⟩, by simpa using r.size, fun q hq hn => ?_, fun q hq => ?_, r.sa, r.so1, r.so2, r.B, r.own⟩
    · exact (hoth q (fun e => by subst e; exact (a4.no hq hn).elim)).trans (r.block q hq hn)
    · refine (hoth q (fun e => ?_)).trans (r.stable q hq)
      subst e
      rcases hq with hq | hq
      · exact a1 (by rw [r.sa]; exact hq)
      · exact a2 (r.so1 _ hq)
  have hact : act.put o.dst undef = act := by rw [hd]; rfl
  have hMs : MOk n0 c0 H0 { c with w := { c.w with heap := c.w.heap.setIfInBounds b o' } } (hp G) ((b, setV kv xv es) :: μ) act := by
    refine ⟨fun p hp => ?_, fun p hp => ?_, ?_, hM.ds⟩
    · rcases List.mem_cons.1 hp with rfl | hp
      · exact hmap
      · have hne : p.1 ≠ b := fun e => (List.nodup_cons.1 hM.nodup).1 (List.mem_map.2 ⟨p, hp, e⟩)
        exact (hM.is p (List.mem_cons_of_mem _ hp)).le (hoth _ hne) (h1.weaken fun q hq => Nat.lt_of_lt_of_le hq g.le0)
    · rcases List.mem_cons.1 hp with rfl | hp
      · exact hM.away (b, es) (by simp)
      · exact hM.away p (List.mem_cons_of_mem _ hp)
    · exact hM.nodup
  have := hK' act { c.w with heap := c.w.heap.setIfInBounds b o' } (h c0 H0 _ act g2 hMs Qx hQ R hR)
  show K' (act.put o.dst undef) _
  rw [hact]; exact this
theorem SemK.mapLen {T : Ty} {t b kt et : Nat} {x : Operand} {qx : List Prop} {es : List (Value × Value)} {ti : TI} (hT : TyOk P T) (ho : o.op = .call { callee := .builtin .len, args := #[x], argTypes := #[t] }) (hg : o.guard = none) (hd : dstOk nt o.dst = true)
    (ht : T t = some ti) (hkd : ti.kind = .map kt et) (hx : rd L x = (.sc (.map (some b)), qx)) (hqx : allP qx)
    (h : SemK P nt n0 Q (.ops ops l) K ⟨fr (putO o.dst (.sc (.int .i64 es.length)) L), hp G, n⟩ ((b, es) :: μ)) : SemK P nt n0 Q (.ops ops (o :: l)) K ⟨fr L, hp G, n⟩ ((b, es) :: μ) := by
  intro c0 H0 c act g hM Qx hQ R hR
  refine wpListR_step fun K' hK' => ?_
  rw [if_pos (by simp [Region.wanted, hg])]
  have ex : act.eval x = .map (some b) := by have := g.ev x; rw [show evA (St.A ⟨fr L, hp G, n⟩) x = _ from rd_ok hx hqx] at this; exact this.sc_inv
  have hu1 : P.underlying t = some (.map kt et) := by
    obtain ⟨i, dd, _, hdd, _, hkk, _⟩ := tyInfo_parts (hT t ti ht)
    rw [hkd] at hkk
    cases dd <;> simp [kindOf] at hkk
    obtain ⟨rfl, rfl⟩ := hkk
    exact hdd
  obtain ⟨es0, cl, hb0, hl, _⟩ := hM.is (b, es) (by simp)
  have hsz : es0.size = es.length := by have hl' : es0.toList.map (fun e => (e.key, e.val)) = es := hl; rw [← hl']; simp
  have hex : (execOp act.eval o).run P c.w = .ok (.value (.int .i64 es.length)) c.w := by
    obtain ⟨dst, op, type, pos, after, guard⟩ := o
    simp only at ho
    subst ho
    simp [execOp, resolve, invoke, builtin, Builtin.len_, ex, run_underlying hu1, MapKept.run_getObj_map hb0, goInt, hsz]
  refine Oper.wpR (fun d hd => by rw [hd] at ho; cases ho) ?_
  unfold Oper.wp
  rw [hex]
  have g2 := g.next (c' := c) (dst := o.dst) (a := .sc (.int .i64 es.length)) (v := .int .i64 es.length) (dstOk_lt hd) (.refl c) rfl (fun b hb => .inl hb) (.refl c (hp G)) (fun q x hx => .inr ⟨q, x, hx, rfl⟩) g.inv g.solo (Nat.le_refl _) .sc .sc
  rw [putO_fr] at h
  exact hK' _ _ (h c0 H0 c _ g2 hM.act Qx hQ R hR)
end
end Go.Av
namespace Go.D
def distAdd (ks : List Int) (z : Int) : List Int := if z ∈ ks then ks else ks ++ [z]
def distinctL (ks : List Int) : List Int → List Int
  | [] => ks
  | z :: zs => distinctL (distAdd ks z) zs
end Go.D
namespace Go.Av
def kvInt (z : Int) : Value × Value := (.int .i64 z, .bool true)
end Go.Av

namespace Go.Av
variable [Gls]
structure Away (c : Ctx) (H : Heap) (b : Nat) : Prop where
  sa : ¬ c.Sa b
  so : ¬ c.So b
  ob : ∀ o x, H o = some x → (c.ρ o).blk ≠ b
theorem Away.kept {c c' : Ctx} {H H' : Heap} {n b : Nat} (h : Away c H b) (hb : b < c.w.heap.size) (r : Reach c H n c' H') : Away c' H' b := by
  refine ⟨by rw [r.sa]; exact h.sa, fun hs => ?_, fun o x hx he => ?_⟩
  · rcases r.so2 _ hs with h1 | h1 | ⟨o, x, h1, h2⟩
    · exact h.so h1
    · omega
    · exact h.ob o x h1 h2
  · rcases r.own o x hx with h1 | ⟨o', x', h1, h2⟩
    · omega
    · exact h.ob o' x' h1 (h2.trans he)
theorem Reach.weaken {c c' : Ctx} {H H' : Heap} {n n' : Nat} (r : Reach c H n c' H') (h : n' ≤ n) : Reach c H n' c' H' :=
  ⟨fun o ho => r.rho o (Nat.lt_of_lt_of_le ho h), r.os, r.tape, r.output, r.size, r.block, r.stable, r.sa, r.so1, r.so2, r.B, r.own⟩
theorem Good.turn0 {nt n0 : Nat} {c0 c : Ctx} {H0 : Heap} {s : St} {act : Act} {b : Nat} (o : Go.Obj) (g : Good nt c0 H0 n0 c s act) (h : Away c s.H b) :
    Good nt { c with w := c.w.putObj b o } s.H n0 { c with w := c.w.putObj b o } s act ∧ c.Le (fun _ => True) { c with w := c.w.putObj b o } := by
  have hother : ∀ k, k ≠ b → (c.w.putObj b o).heap[k]? = c.w.heap[k]? := fun k hk => World.putObj_heap_other hk
  have hle : c.Le (fun _ => True) { c with w := c.w.putObj b o } :=
    ⟨fun _ _ => rfl, fun _ h => h, fun _ h => h, fun k hk => hother k (fun e => by subst e; exact hk.elim h.sa h.so), rfl⟩
  have all : ∀ {a : AV} {M : Nat → Prop}, a.Ok M → a.Ok (fun _ => True) := fun h => h.mono fun _ _ => trivial
  refine ⟨⟨⟨fun q x hx => ?_, g.inv.sep, g.inv.stab, fun k hk => ?_, ?_, g.inv.own, g.inv.low, g.inv.glob.mono hle⟩, g.solo, fun t => (g.frame t).mono hle (.inr (all (g.ok t))), g.ok, g.size, .refl _ _ _, g.le0⟩, hle⟩
  · obtain ⟨i1, ⟨⟨cur, hb, hs, hc⟩, i3, i4, i5⟩, i6⟩ := g.inv.obj q x hx
    refine ⟨i1, ⟨⟨cur, (hother _ (h.ob q x hx)).trans hb, hs, fun i e he => ?_⟩, i3, i4, i5⟩, i6⟩
    obtain ⟨g1, g2⟩ := hc i e he
    exact ⟨g1, fun k a ha => by obtain ⟨v, hv, hr, h7⟩ := g2 k a ha; exact ⟨v, hv, hr.mono hle (.inr (all (i6 e (List.mem_of_getElem? he) a (List.mem_of_getElem? ha)))), h7⟩⟩
  · show k < (c.w.putObj b o).heap.size
    rw [World.putObj_size]; exact g.inv.lt k hk
  · show c.B ≤ (c.w.putObj b o).heap.size
    rw [World.putObj_size]; exact g.inv.base
theorem Reach.turnBack {c c1 c2 : Ctx} {H H1 H2 : Heap} {n b : Nat} {o0 o1 : Go.Obj} (r1 : Reach c H n c1 H1) (r2 : Reach { c1 with w := c1.w.putObj b o1 } H1 n c2 H2) (hb : c.w.heap[b]? = some o0) (h : Away c H b) :
    Reach c H n { c2 with w := c2.w.putObj b o0 } H2 := by
  have hlt : b < c.w.heap.size := (Array.getElem?_eq_some_iff.1 hb).1
  have hs2 : c.w.heap.size ≤ c2.w.heap.size := by
    have h1 := r1.size
    have h2 : (c1.w.putObj b o1).heap.size ≤ c2.w.heap.size := r2.size
    rw [World.putObj_size] at h2; omega
  refine ⟨fun o ho => (r2.rho o ho).trans (r1.rho o ho), r2.os.trans r1.os, r2.tape.trans r1.tape, ⟨r2.output.1.trans r1.output.1, Nat.le_trans r1.output.2 r2.output.2⟩, ?_, fun k hk hn => ?_, fun k hk => ?_, r2.sa.trans r1.sa, fun k hk => r2.so1 k (r1.so1 k hk), fun k hk => ?_, r2.B.trans r1.B, fun o x hx => ?_⟩
  · show c.w.heap.size ≤ (c2.w.putObj b o0).heap.size
    rw [World.putObj_size]; exact hs2
  · show (c2.w.putObj b o0).heap[k]? = _
    by_cases e : k = b
    · subst e; rw [World.putObj_heap_same (by omega)]; exact hb.symm
    · rw [World.putObj_heap_other e]
      have h2 : c2.w.heap[k]? = (c1.w.putObj b o1).heap[k]? := r2.block k (by show k < (c1.w.putObj b o1).heap.size; rw [World.putObj_size]; exact Nat.lt_of_lt_of_le hk r1.size) fun o x hx he => by
        rcases r1.own o x hx with h1 | ⟨o', x', h1, h2⟩
        · have he' : (c1.ρ o).blk = k := he
          omega
        · exact hn o' x' h1 (h2.trans he)
      rw [h2, World.putObj_heap_other e]
      exact r1.block k hk hn
  · show (c2.w.putObj b o0).heap[k]? = _
    have e : k ≠ b := fun e => by subst e; exact hk.elim h.sa h.so
    rw [World.putObj_heap_other e]
    have h2 : c2.w.heap[k]? = (c1.w.putObj b o1).heap[k]? := r2.stable k (hk.imp (fun x => by show c1.Sa k; rw [r1.sa]; exact x) (r1.so1 k))
    rw [h2, World.putObj_heap_other e]
    exact r1.stable k hk
  · rcases r2.so2 k hk with h1 | h1 | ⟨q, y, h1, h2⟩
    · exact r1.so2 k h1
    · right; left
      have h3 : (c1.w.putObj b o1).heap.size ≤ k := h1
      rw [World.putObj_size] at h3
      exact Nat.le_trans r1.size h3
    · have h2' : (c1.ρ q).blk = k := h2
      rcases r1.own q y h1 with h3 | ⟨q', y', h3, h4⟩
      · exact .inr (.inl (by omega))
      · exact .inr (.inr ⟨q', y', h3, h4.trans h2'⟩)
  · rcases r2.own o x hx with h1 | ⟨q, y, h1, h2⟩
    · left
      have h3 : (c1.w.putObj b o1).heap.size ≤ (c2.ρ o).blk := h1
      rw [World.putObj_size] at h3
      exact Nat.le_trans r1.size h3
    · rcases r1.own q y h1 with h3 | ⟨q', y', h3, h4⟩
      · left
        have : (c1.ρ q).blk = (c2.ρ o).blk := h2
        show c.w.heap.size ≤ (c2.ρ o).blk
        omega
      · exact .inr ⟨q', y', h3, h4.trans h2⟩
def zipL : List Nat → List AV → List (Nat × AV) → List (Nat × AV)
  | p :: ps, a :: as, L => zipL ps as ((p, a) :: L)
  | _, _, L => L
theorem zipL_rel {c : Ctx} {n : Nat} : ∀ (ps : List Nat) (as : List AV) (vs : List Value) (L : List (Nat × AV)) (tmps : Array Value), as.length = vs.length → (∀ (i : Nat) a v, as[i]? = some a → vs[i]? = some v → VRel c false a v ∧ a.Ok (· < n)) →
    (∀ p ∈ ps, p < tmps.size) → (∀ t, VRel c false (fr L t) (tmps.getD t undef) ∧ (fr L t).Ok (· < n)) →
    (∀ t, VRel c false (fr (zipL ps as L) t) (((ps.zip vs).foldl (fun t (p, v) => t.setIfInBounds p v) tmps).getD t undef) ∧ (fr (zipL ps as L) t).Ok (· < n)) ∧ ((ps.zip vs).foldl (fun t (p, v) => t.setIfInBounds p v) tmps).size = tmps.size := by
  intro ps
  induction ps with
  | nil => intro as vs L tmps _ _ _ h; cases as <;> exact ⟨h, rfl⟩
  | cons p ps ih =>
    intro as vs L tmps hl ha hp h
    cases as with
    | nil =>
      have : vs = [] := List.eq_nil_of_length_eq_zero (by rw [← hl]; rfl)
      subst this
      exact ⟨h, rfl⟩
    | cons a as =>
      cases vs with
      | nil => simp at hl
      | cons v vs =>
        have h0 := ha 0 a v rfl rfl
        obtain ⟨k1, k2⟩ := ih as vs ((p, a) :: L) (tmps.setIfInBounds p v) (by simpa using hl) (fun i a v h1 h2 => ha (i + 1) a v (by simpa using h1) (by simpa using h2)) (fun q hq => by simpa using hp q (List.mem_cons_of_mem _ hq)) (fun t => by
          rw [getD_set (hp p List.mem_cons_self)]
          by_cases ht : t = p
          · subst ht; rw [if_pos rfl]
            have : fr ((t, a) :: L) t = a := by simp [fr]
            rw [this]; exact h0
          · rw [if_neg ht]
            have : fr ((p, a) :: L) t = fr L t := by
              have hb : Nat.beq t p = false := by rw [← Bool.not_eq_true, Nat.beq_eq]; exact ht
              simp [fr, hb]
            rw [this]; exact h t)
        exact ⟨k1, by simpa using k2⟩
def asgQ (P : Program) (nt n : Nat) (body : Code) (RQ : AExit → St → Mu → Prop) : AExit → St → Mu → Prop := fun e s μ => e = .normal ∧ μ = [] ∧ SemM P nt n body RQ s []
theorem SemK.asg {P : Program} {nt n : Nat} {body : Code} {RQ : AExit → St → Mu → Prop} {s : St} (h : SemK P nt n RQ (.code body) [] s []) : SemK P nt n (asgQ P nt n body RQ) (.exit .normal) [] s [] :=
  Cl.mk ⟨rfl, rfl, SemM.ofCl h⟩
theorem noLoop_mem {μ : Mu} {b : Nat} {r : Loop} {nt m : Nat} {A : Nat → AV} (h : (b, .loop r nt m A) ∈ μ) : noLoop μ = false := by
  induction μ with
  | nil => cases h
  | cons p μ ih =>
    obtain ⟨q, x⟩ := p
    rcases List.mem_cons.1 h with h | h2
    · cases h; rfl
    · cases x with
      | loop => rfl
      | mark => exact ih h2
      | map => exact ih h2
      | blk => exact ih h2
def rndQ (P : Program) (nt n0 : Nat) (Q : AExit → St → Mu → Prop) (ops : Array Oper) (l : List Oper) (K : List Kn) (L : List (Nat × AV)) (d : Option Nat) (μ : Mu) : AExit → St → Mu → Prop :=
  fun e s _ => e = .normal ∧ SemK P nt n0 Q (.ops ops l) K ⟨updO (fr L) d (.sc (.bool true)), s.H, s.n⟩ μ
theorem SemK.rndEnd {P : Program} {nt n0 nt' n1 : Nat} {Q : AExit → St → Mu → Prop} {ops : Array Oper} {l : List Oper} {K : List Kn} {L L1 : List (Nat × AV)} {d : Option Nat} {μ μ1 : Mu} {G : List (Nat × Obj)} {n : Nat}
    (h : SemK P nt n0 Q (.ops ops l) K ⟨fr (putO d (.sc (.bool true)) L), hp G, n⟩ μ) : SemK P nt' n1 (rndQ P nt n0 Q ops l K L d μ) (.exit .normal) [] ⟨fr L1, hp G, n⟩ μ1 :=
  Cl.mk ⟨rfl, by show SemK P nt n0 Q (.ops ops l) K ⟨updO (fr L) d (.sc (.bool true)), hp G, n⟩ μ; rw [← putO_fr]; exact h⟩
theorem SemK.yield {P : Program} {nt n0 n b ntc m : Nat} {Q : AExit → St → Mu → Prop} {ops : Array Oper} {l : List Oper} {o : Oper} {K : List Kn} {L Lc : List (Nat × AV)} {G : List (Nat × Obj)} {μ : Mu} {x : Operand} {args : Array Operand} {ts : Array Nat} {r : Loop}
    {as : List AV} {qx qa : List Prop} {ps : Array Nat} {assign body : Code} (ho : o.op = .call { callee := .value x, args := args, argTypes := ts }) (hg : o.guard = none) (hd : dstOk nt o.dst = true)
    (hx : rd L x = (.sc (.func (.yield b) #[] #[]), qx)) (ha : rds L args.toList = (as, qa)) (hqx : allP qx) (hqa : allP qa)
    (hμ : (b, .loop r ntc m (fr Lc)) ∈ μ) (h1 : r.state = .ready) (h2 : r.pending = none) (h3 : r.params = ps) (h4 : r.assign = assign) (h5 : r.body = body)
    (hps : (Nat.beq as.length ps.size && ps.toList.all fun p => Nat.blt p ntc) = true) (ht : (topOnly assign || topOnly body) = false)
    (h : SemK P ntc n (asgQ P ntc n body (rndQ P nt n0 Q ops l K L o.dst μ)) (.code assign) [] ⟨fr (zipL ps.toList as Lc), hp G, n⟩ []) : SemK P nt n0 Q (.ops ops (o :: l)) K ⟨fr L, hp G, n⟩ μ := by
  subst h3 h4 h5
  simp only [Bool.and_eq_true, Nat.beq_eq, List.all_eq_true, Nat.blt_eq] at hps
  obtain ⟨hp1, hp2⟩ := hps
  simp only [Bool.or_eq_false_iff] at ht
  intro c0 H0 c act g hm Qx hQ R hR
  cases R with
  | none => rw [noLoop_mem hμ] at hR; exact absurd (hR rfl) (by simp)
  | some R =>
  refine wpListR_step fun K' hK' => ?_
  rw [if_pos (by simp [Region.wanted, hg])]
  obtain ⟨⟨hrec, hsz⟩, hmn, hAok, hA⟩ := hm.is _ hμ
  obtain ⟨w1, w2, w3, w4⟩ := hm.away _ hμ
  have haw : Away c (hp G) b := ⟨w1, w2, w3⟩
  have hlt : b < c.w.heap.size := (Array.getElem?_eq_some_iff.1 hrec).1
  have ex : act.eval x = .func (.yield b) #[] #[] := by have := g.ev x; rw [show evA (St.A ⟨fr L, hp G, n⟩) x = _ from rd_ok hx hqx] at this; exact this.sc_inv
  have hargs : args.toList.map (evA (fr L)) = as := rds_ok ha hqa
  have hlen : as.length = args.size := by rw [← hargs]; simp
  have hy := run_yield (P := P) (args := args.map act.eval) hrec (by rw [Array.size_map, ← hlen]; exact hp1)
  have hrun : (execOp act.eval o).run P c.w = .ok (.round b r.fn ((r.params.zip (args.map act.eval)).foldl (fun tmps (t, a) => tmps.setIfInBounds t a) r.tmps) r.assign r.body) c.w := by
    simp only [execOp, ho, resolve, ex, Deferred.ofValue, Sem.run_bind, Sem.run_pure, Result.andThen_ok, invoke, Array.empty_append, Array.append_empty]
    exact hy
  show Oper.wpIn (FR R) 0 P o act c.w K' Qx
  refine ⟨fun _ _ => trivial, ?_⟩
  rw [Oper.semAt_eq _ _ _ (fun d hd => by rw [hd] at ho; cases ho), hrun, Oper.uponIn_round]
  refine ⟨fun h => Bool.noConfusion h, roundIn_of_wpIn trivial ?_⟩
  have hz : (r.params.zip (args.map act.eval)).foldl (fun tmps (t, a) => tmps.setIfInBounds t a) r.tmps = (r.params.toList.zip (args.toList.map act.eval)).foldl (fun t (p, v) => t.setIfInBounds p v) r.tmps := by
    rw [← Array.foldl_toList]; simp
  have hzip := zipL_rel (c := c) (n := n) r.params.toList as (args.toList.map act.eval) Lc r.tmps (by rw [← hargs]; simp) (fun i a v h1 h2 => by
      rw [← hargs, List.getElem?_map] at h1
      rw [List.getElem?_map] at h2
      cases hq : args.toList[i]? with
      | none => simp [hq] at h1
      | some q =>
        simp only [hq, Option.map_some, Option.some.injEq] at h1 h2
        subst h1 h2
        exact ⟨g.ev q, g.evOk q⟩) (fun p hp => by rw [hsz]; exact hp2 p hp) (fun t => ⟨hA t, (hAok t).mono fun q hq => Nat.lt_of_lt_of_le hq (Nat.le_trans hmn g.le0)⟩)
  rw [← hz] at hzip
  have gB : Good ntc c (hp G) n c ⟨fr (zipL r.params.toList as Lc), hp G, n⟩ { tmps := (r.params.zip (args.map act.eval)).foldl (fun tmps (t, a) => tmps.setIfInBounds t a) r.tmps, defers := [] } :=
    ⟨g.inv, g.solo, fun t => (hzip.1 t).1, fun t => (hzip.1 t).2, hzip.2.trans hsz, .refl _ _ _, Nat.le_refl _⟩
  refine wpIn_mono (SemM.ofCl h c (hp G) c _ gB (.nil rfl) (some b) (fun h => by rw [ht.1] at h; cases h)) ?_
  rintro e a1 w' ⟨c1, s1, ae, μ1, rfl, g1, hm1, rfl, rfl, rfl, hbody⟩
  have hrec1 : c1.w.heap[b]? = some (.loop r) := (g1.reach.block b hlt haw.ob).trans hrec
  refine ⟨_, run_beginRound hrec1 h1, ?_⟩
  have aw1 : Away c1 s1.H b := haw.kept hlt g1.reach
  obtain ⟨g1', _⟩ := g1.turn0 (.loop { r with state := .busy }) aw1
  refine wpIn_mono (hbody _ s1.H _ a1 g1' (.nil hm1.ds) (some b) (fun h => by rw [ht.2] at h; cases h)) ?_
  rintro e a2 w' ⟨c2, s2, ae, μ2, rfl, g2, hm2, rfl, rfl, hk⟩
  have hlt1 : b < c1.w.heap.size := (Array.getElem?_eq_some_iff.1 hrec1).1
  have hrec2 : c2.w.heap[b]? = some (.loop { r with state := .busy }) :=
    (g2.reach.block b (by show b < (c1.w.putObj b _).heap.size; rw [World.putObj_size]; exact hlt1) aw1.ob).trans (World.putObj_heap_same hlt1)
  have hr : ({ r with state := .ready, pending := none } : Loop) = r := by
    obtain ⟨st, pe, fn, tm, pa, asg, bd, de⟩ := r
    simp only at h1 h2
    subst h1 h2; rfl
  have hend := run_endRound (P := P) none hrec2
  simp only [Option.isNone_none, if_true] at hend
  rw [hr] at hend
  refine ⟨_, _, hend, ?_⟩
  have aw2 : Away c2 s2.H b := (Away.mk aw1.sa aw1.so aw1.ob : Away { c1 with w := c1.w.putObj b (.loop { r with state := .busy }) } s1.H b).kept (by show b < (c1.w.putObj b _).heap.size; rw [World.putObj_size]; exact hlt1) g2.reach
  obtain ⟨g3, _⟩ := g2.turn0 (.loop r) aw2
  have rt : Reach c (hp G) n { c2 with w := c2.w.putObj b (.loop r) } s2.H := Reach.turnBack g1.reach g2.reach hrec haw
  have gf := g.next (dstOk_lt hd) rt.le rt.sa rt.so2 rt.fr rt.own g3.inv g3.solo g3.le0 (a := .sc (.bool true)) (v := .bool true) .sc .sc
  exact hK' _ _ (hk c0 H0 _ _ gf (hm.kept (rt.weaken g.le0)) Qx hQ (some R) (fun h => by cases h))
def rfsOf : Code → List (Array Nat × Code × Code)
  | .loop b => rfsOf b
  | .seq a b => rfsOf a ++ rfsOf b
  | .block _ c => rfsOf c
  | .scope c => rfsOf c
  | .cond _ a b => rfsOf a ++ rfsOf b
  | .rangeFunc _ ps a b => (ps, a, b) :: (rfsOf a ++ rfsOf b)
  | _ => []
def rfB (i : Nat) (c : Code) : Array Nat × Code × Code := ((rfsOf c)[i]?).getD (#[], .skip, .skip)
def pickL (slots : List Nat) (L : List (Nat × AV)) : List (Nat × AV) := slots.map fun t => (t, fr L t)
theorem pickL_fr (L : List (Nat × AV)) : ∀ (slots : List Nat) (t : Nat), fr (pickL slots L) t = fr L t ∨ fr (pickL slots L) t = .junk := by
  intro slots
  induction slots with
  | nil => intro t; exact .inr rfl
  | cons q r ih =>
    intro t
    show fr ((q, fr L q) :: pickL r L) t = _ ∨ fr ((q, fr L q) :: pickL r L) t = _
    simp only [fr]
    cases hb : Nat.beq t q with
    | true => rw [Nat.eq_of_beq_eq_true hb]; exact .inl rfl
    | false => exact ih t
theorem SemK.keepL {P : Program} {nt n0 n : Nat} {Q : AExit → St → Mu → Prop} {cf : Cf} {K : List Kn} {L : List (Nat × AV)} {G : List (Nat × Obj)} {μ : Mu} (slots : List Nat) (h : SemK P nt n0 Q cf K ⟨fr (pickL slots L), hp G, n⟩ μ) : SemK P nt n0 Q cf K ⟨fr L, hp G, n⟩ μ := by
  refine SemK.sub (s' := ⟨fr (pickL slots L), hp G, n⟩) (fun c0 H0 c act μ g hm => ⟨⟨g.inv, g.solo, fun t => ?_, fun t => ?_, g.size, g.reach, g.le0⟩, hm⟩) h
  · rcases pickL_fr L slots t with h | h
    · show VRel c false (fr (pickL slots L) t) _; rw [h]; exact g.frame t
    · show VRel c false (fr (pickL slots L) t) _; rw [h]; exact .junk
  · rcases pickL_fr L slots t with h | h
    · show (fr (pickL slots L) t).Ok _; rw [h]; exact g.ok t
    · show (fr (pickL slots L) t).Ok _; rw [h]; exact .junk
def rfQ (P : Program) (nt n0 : Nat) (Q : AExit → St → Mu → Prop) (K : List Kn) (L : List (Nat × AV)) (μ : Mu) (D : Nat) (μi : Mu) : AExit → St → Mu → Prop :=
  fun e s μ' => (∀ id, e ≠ .exit id) ∧ μ' = μi ∧ SemK P nt n0 Q (.exit .normal) K ⟨fr L, s.H, s.n⟩ ((D, .mark) :: μ)
theorem SemK.rfEnd {P : Program} {nt n0 nt' n1 : Nat} {Q : AExit → St → Mu → Prop} {K : List Kn} {L L1 : List (Nat × AV)} {μ μi : Mu} {D : Nat} {G : List (Nat × Obj)} {n : Nat} {e : AExit} (he : ∀ id, e ≠ .exit id)
    (h : SemK P nt n0 Q (.exit .normal) K ⟨fr L, hp G, n⟩ ((D, .mark) :: μ)) : SemK P nt' n1 (rfQ P nt n0 Q K L μ D μi) (.exit e) [] ⟨fr L1, hp G, n⟩ μi :=
  Cl.mk ⟨he, rfl, h⟩
theorem Good.alloc {nt n0 : Nat} {c0 c : Ctx} {H0 : Heap} {s : St} {act : Act} (o : Go.Obj) (g : Good nt c0 H0 n0 c s act) : Good nt c0 H0 n0 { c with w := c.w.alloc o } s act := by
  obtain ⟨h1, h2, h3⟩ := g.inv.waste (w' := c.w.alloc o) o rfl rfl rfl ⟨rfl, Nat.le_refl _⟩
  have := g.next (c' := { c with w := c.w.alloc o }) (dst := none) (a := .sc undef) (v := undef) (fun d h => by cases h) h1 rfl (fun b hb => .inl hb) h3 (fun q x hx => .inr ⟨q, x, hx, rfl⟩) h2 g.solo (Nat.le_refl _) .sc .sc
  exact this
theorem SemK.rangeFunc {P : Program} {nt n0 n gf nti : Nat} {Q : AExit → St → Mu → Prop} {K : List Kn} {L : List (Nat × AV)} {G : List (Nat × Obj)} {μ : Mu} {g : Operand} {ps : Array Nat} {assign body codeI : Code} {fnI : Func} {caps : List AV} {q : List Prop}
    (hg : rd L g = (.fn gf caps, q)) (hq : allP q) (hfn : FnOk P gf fnI codeI) (hnt : fnI.ntmps = nti) (hle : Nat.ble (caps.length + 1) nti = true) (hres : fnI.results = #[])
    (h : ∀ (b D : Nat) (r : Loop), r.state = .ready → r.pending = none → r.params = ps → r.assign = assign → r.body = body →
      SemK P nti n (rfQ P nt n0 Q K L μ D [(b, .loop r nt n (fr L)), (D, .blk (.deferred (some [])))]) (.code codeI) [] ⟨fr (argL 0 (.sc (.func (.yield b) #[] #[]) :: caps)), hp G, n⟩ [(b, .loop r nt n (fr L)), (D, .blk (.deferred (some [])))]) :
    SemK P nt n0 Q (.code (.rangeFunc g ps assign body)) K ⟨fr L, hp G, n⟩ μ := by
  intro c0 H0 c act gd hm R hR
  obtain rfl := hR rfl
  have hv := gd.ev g
  rw [show evA (St.A ⟨fr L, hp G, n⟩) g = _ from rd_ok hg hq] at hv
  have hvo := gd.evOk g
  rw [show evA (St.A ⟨fr L, hp G, n⟩) g = _ from rd_ok hg hq] at hvo
  obtain ⟨cv, hcv, hcl, hcr⟩ := hv.fn_inv
  refine wpIn_rangeFunc ?_
  intro fn _
  let D := c.w.heap.size
  let b := c.w.heap.size + 1
  let rec0 : Loop := { state := .ready, pending := none, fn, tmps := act.tmps, params := ps, assign, body, defers := c.w.heap.size }
  let W1 : World := (c.w.alloc (.deferred (some []))).alloc (.loop rec0)
  let c1 : Ctx := { c with w := W1 }
  have hL1 : W1.heap[b]? = some (.loop rec0) := by
    have := World.alloc_heap_new (c.w.alloc (.deferred (some []))) (.loop rec0); rwa [World.size_alloc] at this
  have hK1 : W1.heap[D]? = some (.deferred (some [])) := (RowKit.Below.heap_alloc _ _ _ (by simp [D])).trans (World.alloc_heap_new c.w _)
  have hs1 : W1.heap.size = c.w.heap.size + 2 := by simp [W1]
  have g1 : Good nt c (hp G) n0 c1 ⟨fr L, hp G, n⟩ act := (gd.rebase.alloc (.deferred (some []))).alloc (.loop rec0)
  have hold : ∀ k, k < c.w.heap.size → W1.heap[k]? = c.w.heap[k]? := fun k hk => (RowKit.Below.heap_alloc _ _ _ (by simp; omega)).trans (RowKit.Below.heap_alloc _ _ _ hk)
  have r1 : Reach c (hp G) n c1 (hp G) := ⟨fun _ _ => rfl, rfl, rfl, ⟨rfl, Nat.le_refl _⟩, by show c.w.heap.size ≤ W1.heap.size; omega, fun k hk _ => hold k hk, fun k hk => hold k (gd.inv.lt k hk), rfl, fun _ h => h, fun _ h => .inl h, rfl, fun o x hx => .inr ⟨o, x, hx, rfl⟩⟩
  have hob : ∀ o x, hp G o = some x → (c.ρ o).blk < c.w.heap.size := fun o x hx => by
    obtain ⟨_, ⟨⟨cur, hcb, _⟩, _⟩, _⟩ := gd.inv.obj o x hx
    exact (Array.getElem?_eq_some_iff.1 hcb).1
  let vs : Array Value := #[.func (.yield b) #[] #[]] ++ cv
  have hvs : vs.size = caps.length + 1 := by simp [vs, ← hcl]; omega
  have gI : Good nti c (hp G) n c1 ⟨fr (argL 0 (.sc (.func (.yield b) #[] #[]) :: caps)), hp G, n⟩ { tmps := vs ++ Array.replicate (fnI.ntmps - vs.size) undef, defers := [] } := by
    have hrel : VRels c1 false (.sc (.func (.yield b) #[] #[]) :: caps) vs := by
      refine ⟨by rw [hvs]; simp, fun i a v ha hv => ?_⟩
      cases i with
      | zero =>
        have hv' : vs[0]? = some (.func (.yield b) #[] #[]) := by simp only [vs]; rw [Array.getElem?_append_left (by simp)]; rfl
        rw [hv'] at hv
        simp only [List.getElem?_cons_zero, Option.some.injEq] at ha hv
        subst ha hv; exact .sc
      | succ i =>
        have hv' : cv[i]? = some v := by
          simp only [vs] at hv
          rw [Array.getElem?_append_right (by simp)] at hv
          simpa using hv
        simp only [List.getElem?_cons_succ] at ha
        refine (hcr i a v ha hv').mono r1.le (.inr ?_)
        cases hvo with | fn hvo => exact hvo a (List.mem_of_getElem? ha)
    have hok : ∀ a ∈ (.sc (.func (.yield b) #[] #[]) :: caps : List AV), a.Ok (· < n) := by
      intro a ha
      rcases List.mem_cons.1 ha with rfl | ha
      · exact .sc
      · cases hvo with | fn hvo => exact hvo a ha
    have : Good nti c (hp G) n c1 ⟨argA (.sc (.func (.yield b) #[] #[]) :: caps), hp G, n⟩ { tmps := vs ++ Array.replicate (fnI.ntmps - vs.size) undef, defers := [] } :=
      ⟨g1.inv, g1.solo, fun t => frame_args hrel _ t, fun t => argA_ok hok t, by have := Nat.le_of_ble_eq_true hle; simp only [Array.size_append, Array.size_replicate]; omega, r1, Nat.le_refl _⟩
    exact this.argL
  have mI : MOk n c (hp G) c1 (hp G) [(b, .loop rec0 nt n (fr L)), (D, .blk (.deferred (some [])))] { tmps := vs ++ Array.replicate (fnI.ntmps - vs.size) undef, defers := [] } := by
    refine ⟨fun p hp => ?_, fun p hp => ?_, by simp [b, D], rfl⟩
    · simp only [List.mem_cons, List.not_mem_nil, or_false] at hp
      rcases hp with rfl | rfl
      · exact ⟨⟨hL1, gd.size⟩, Nat.le_refl _, fun t => gd.ok t, fun t => g1.frame t⟩
      · exact hK1
    · simp only [List.mem_cons, List.not_mem_nil, or_false] at hp
      have key : ∀ k, c.w.heap.size ≤ k → ¬ c1.Sa k ∧ ¬ c1.So k ∧ (∀ o x, Av.hp G o = some x → (c1.ρ o).blk ≠ k) ∧ NewB c (Av.hp G) k := fun k hk =>
        ⟨fun hs => by have := gd.inv.lt k (.inl hs); omega, fun hs => by have := gd.inv.lt k (.inr hs); omega, fun o x hx e => by have h1 := hob o x hx; have h2 : (c.ρ o).blk = k := e; omega, ⟨Nat.le_trans gd.inv.base hk, .inl hk⟩⟩
      rcases hp with rfl | rfl
      · exact key b (by simp [b])
      · exact key D (Nat.le_refl _)
  refine ⟨b, [{ target := .collected D, args := #[] }], W1, { target := .fn (.func gf) cv, args := #[.func (.yield b) #[] #[]] }, W1, gf, vs, W1, run_enterLoop_outer _ _ _ _ _, ?_, fun _ _ => trivial, ?_, fun h => Bool.noConfusion h, ?_⟩
  · simp only [resolve, hcv]
    simp [go_sem]
  · simp only [invoke, callFunc, Sem.run_bind, run_program, Result.andThen_ok, hfn.here, hfn.name, hfn.body, Option.isNone_some, Bool.false_eq_true, if_false]
    rfl
  refine callsIn_of_wp hfn.here hfn.body trivial ?_ rfl
  refine wpIn_mono (SemM.ofCl (h b D rec0 rfl rfl rfl rfl rfl) c (hp G) c1 _ gI mI none .none) ?_
  rintro e a w' ⟨c2, s2, ae, μ2, rfl, g2, hm2, rfl, hne, rfl, hk⟩
  have hds : a.defers = [] := hm2.ds
  have fin : a.defers = [] ∧ ∃ v, (results fnI a.tmps).run P c2.w = .ok v c2.w ∧ rangePost (FR none) 0 P b (MQ nt c0 H0 n0 (Kont P nt n0 Q K)) { act with defers := [{ target := .collected D, args := #[] }] ++ act.defers } (.returned v) c2.w := by
    obtain ⟨⟨hrec, _⟩, _⟩ := hm2.is (b, .loop rec0 nt n (fr L)) (by simp)
    have hDk : c2.w.heap[D]? = some (.deferred (some [])) := hm2.is (D, .blk (.deferred (some []))) (by simp)
    obtain ⟨x1, x2, x3, x4⟩ := hm2.away (b, .loop rec0 nt n (fr L)) (by simp)
    obtain ⟨y1, y2, y3, y4⟩ := hm2.away (D, .blk (.deferred (some []))) (by simp)
    obtain ⟨g3, hle3⟩ := g2.turn (.loop { rec0 with state := .exhausted }) x1 x2 x3 x4
    refine ⟨hds, .tuple #[], by simp [results, hres, go_sem], ?_⟩
    refine ⟨none, _, run_endLoop hrec (by simp [rec0]), ?_⟩
    have rt := g3.reach
    have gc := gd.next (dst := none) (a := .sc undef) (v := undef) (fun d h => by cases h) rt.le rt.sa rt.so2 rt.fr rt.own g3.inv g3.solo g3.le0 .sc .sc
    have gc2 : Good nt c0 H0 n0 { c2 with w := c2.w.putObj b (.loop { rec0 with state := .exhausted }) } ⟨fr L, s2.H, s2.n⟩ { act with defers := [{ target := .collected D, args := #[] }] ++ act.defers } :=
      ⟨gc.inv, gc.solo, gc.frame, gc.ok, gc.size, gc.reach, gc.le0⟩
    have hmk := hm.kept (rt.weaken gd.le0) (act' := act) rfl
    refine ⟨_, ⟨fr L, s2.H, s2.n⟩, .normal, (D, .mark) :: μ, rfl, gc2, ⟨fun p hp => ?_, fun p hp => ?_, ?_, ?_⟩, rfl, hk⟩
    · rcases List.mem_cons.1 hp with rfl | hp
      · exact (World.putObj_heap_other (by simp [b, D])).trans hDk
      · exact hmk.is p hp
    · rcases List.mem_cons.1 hp with rfl | hp
      · exact ⟨y1, y2, y3, ⟨by rw [← gd.reach.B]; exact gd.inv.base, .inl gd.reach.size⟩⟩
      · exact hmk.away p hp
    · refine List.nodup_cons.2 ⟨fun hmem => ?_, hm.nodup⟩
      obtain ⟨p, hp, he⟩ := List.mem_map.1 hmem
      have := (hm.is p hp).lt
      simp only [D] at he
      omega
    · show [_] ++ act.defers = _ :: dsOf μ
      rw [hm.ds]; rfl
  cases ae with
  | exit id => exact (hne id rfl).elim
  | normal => exact fin
  | ret => exact fin
end Go.Av

namespace Go.Av
variable [Gls]
def zipA : List Nat → List AV → (Nat → AV) → (Nat → AV)
  | p :: ps, a :: as, A => zipA ps as (upd A p a)
  | _, _, A => A
theorem zipA_rel {c : Ctx} {n : Nat} : ∀ (ps : List Nat) (as : List AV) (vs : List Value) (A : Nat → AV) (tmps : Array Value), as.length = vs.length → (∀ (i : Nat) a v, as[i]? = some a → vs[i]? = some v → VRel c false a v ∧ a.Ok (· < n)) →
    (∀ p ∈ ps, p < tmps.size) → (∀ t, VRel c false (A t) (tmps.getD t undef) ∧ (A t).Ok (· < n)) →
    (∀ t, VRel c false (zipA ps as A t) (((ps.zip vs).foldl (fun t (p, v) => t.setIfInBounds p v) tmps).getD t undef) ∧ (zipA ps as A t).Ok (· < n)) ∧ ((ps.zip vs).foldl (fun t (p, v) => t.setIfInBounds p v) tmps).size = tmps.size := by
  intro ps
  induction ps with
  | nil => intro as vs A tmps _ _ _ h; cases as <;> exact ⟨h, rfl⟩
  | cons p ps ih =>
    intro as vs A tmps hl ha hp h
    cases as with
    | nil =>
      have : vs = [] := List.eq_nil_of_length_eq_zero (by rw [← hl]; rfl)
      subst this
      exact ⟨h, rfl⟩
    | cons a as =>
      cases vs with
      | nil => simp at hl
      | cons v vs =>
        have h0 := ha 0 a v rfl rfl
        obtain ⟨k1, k2⟩ := ih as vs (upd A p a) (tmps.setIfInBounds p v) (by simpa using hl) (fun i a v h1 h2 => ha (i + 1) a v (by simpa using h1) (by simpa using h2)) (fun q hq => by simpa using hp q (List.mem_cons_of_mem _ hq)) (fun t => by
          rw [getD_set (hp p List.mem_cons_self)]
          by_cases ht : t = p
          · subst ht; rw [if_pos rfl, upd_same]; exact h0
          · rw [if_neg ht]
            rw [upd_other _ _ ht]; exact h t)
        exact ⟨k1, by simpa using k2⟩
def jumpOf : AExit → Option Code
  | .normal => none
  | .exit id => some (.exit id)
  | .ret => some .ret
def setP (r : Loop) (e : AExit) : Loop := { r with state := if (jumpOf e).isNone then .ready else .done, pending := jumpOf e }
theorem setP_normal {r : Loop} (h1 : r.state = .ready) (h2 : r.pending = none) : setP r .normal = r := by
  obtain ⟨st, pe, fn, tm, pa, asg, bd, de⟩ := r
  simp only at h1 h2
  subst h1 h2; rfl
theorem setP_setP (r : Loop) (e e' : AExit) : setP (setP r e) e' = setP r e' := rfl
theorem putObj_twice (w : World) (b : Nat) (x y : Go.Obj) : (w.putObj b x).putObj b y = w.putObj b y := by
  simp [World.putObj]
theorem MOk.turn {n0 : Nat} {c0 c : Ctx} {H0 H : Heap} {μr : Mu} {act : Act} {b ntc m : Nat} {A : Nat → AV} {r r2 : Loop} (h : MOk n0 c0 H0 c H ((b, .loop r ntc m A) :: μr) act) (ht : r2.tmps = r.tmps)
    (hle : c.Le (fun _ => True) { c with w := c.w.putObj b (.loop r2) }) : MOk n0 c0 H0 { c with w := c.w.putObj b (.loop r2) } H ((b, .loop r2 ntc m A) :: μr) act := by
  have hlt : b < c.w.heap.size := (h.is _ List.mem_cons_self).lt
  refine ⟨fun p hp => ?_, fun p hp => ?_, h.nodup, h.ds⟩
  · rcases List.mem_cons.1 hp with rfl | hp
    · obtain ⟨⟨h1, h2⟩, h3, h4, h5⟩ := h.is _ List.mem_cons_self
      exact ⟨⟨World.putObj_heap_same hlt, by rw [ht]; exact h2⟩, h3, h4, fun t => by rw [ht]; exact (h5 t).mono hle (.inr ((h4 t).mono fun _ _ => trivial))⟩
    · have hne : p.1 ≠ b := fun e => by
        have := h.nodup
        simp only [List.map_cons, List.nodup_cons] at this
        exact this.1 (e ▸ List.mem_map_of_mem hp)
      exact (h.is p (List.mem_cons_of_mem _ hp)).le (World.putObj_heap_other hne) (hle.weaken fun _ _ => trivial)
  · rcases List.mem_cons.1 hp with rfl | hp
    · exact h.away (b, .loop r ntc m A) List.mem_cons_self
    · exact h.away p (List.mem_cons_of_mem _ hp)
theorem SemLM.yield {P : Program} {nt n0 n b ntc m : Nat} {ops : Array Oper} {l : List Oper} {o : Oper} {K : St → Mu → Prop} {A Ac : Nat → AV} {H : Heap} {μr : Mu} {x : Operand} {args : Array Operand} {ts : Array Nat} {r : Loop} {as : List AV}
    (ho : o.op = .call { callee := .value x, args := args, argTypes := ts }) (hg : o.guard = none) (hd : dstOk nt o.dst = true)
    (hx : evA A x = .sc (.func (.yield b) #[] #[])) (has : args.toList.map (evA A) = as) (h1 : r.state = .ready) (h2 : r.pending = none)
    (hp1 : as.length = r.params.size) (hp2 : ∀ p ∈ r.params.toList, p < ntc) (ht : topOnly r.assign = false ∧ topOnly r.body = false)
    (h : SemM P ntc n r.assign (fun e s μ1 => e = .normal ∧ μ1 = [] ∧ SemM P ntc n r.body (fun e s _ => SemLM P nt n0 ops l K ⟨updO A o.dst (.sc (.bool (jumpOf e).isNone)), s.H, s.n⟩ ((b, .loop (setP r e) ntc m Ac) :: μr)) s []) ⟨zipA r.params.toList as Ac, H, n⟩ []) :
    SemLM P nt n0 ops (o :: l) K ⟨A, H, n⟩ ((b, .loop r ntc m Ac) :: μr) := by
  subst has
  obtain ⟨htA, htB⟩ := ht
  have hμ : (b, MuE.loop r ntc m Ac) ∈ ((b, .loop r ntc m Ac) :: μr : Mu) := List.mem_cons_self
  intro c0 H0 c act g hm Qx hQ R hR
  cases R with
  | none => rw [noLoop_mem hμ] at hR; exact absurd (hR rfl) (by simp)
  | some R =>
  refine wpListR_step fun K' hK' => ?_
  rw [if_pos (by simp [Region.wanted, hg])]
  obtain ⟨⟨hrec, hsz⟩, hmn, hAok, hA⟩ := hm.is _ hμ
  obtain ⟨w1, w2, w3, w4⟩ := hm.away _ hμ
  have haw : Away c H b := ⟨w1, w2, w3⟩
  have hlt : b < c.w.heap.size := (Array.getElem?_eq_some_iff.1 hrec).1
  have ex : act.eval x = .func (.yield b) #[] #[] := by have := g.ev x; rw [show evA (St.A ⟨A, H, n⟩) x = _ from hx] at this; exact this.sc_inv
  have hy := run_yield (P := P) (args := args.map act.eval) hrec (by rw [Array.size_map, ← hp1]; simp)
  have hrun : (execOp act.eval o).run P c.w = .ok (.round b r.fn ((r.params.zip (args.map act.eval)).foldl (fun tmps (t, a) => tmps.setIfInBounds t a) r.tmps) r.assign r.body) c.w := by
    simp only [execOp, ho, resolve, ex, Deferred.ofValue, Sem.run_bind, Sem.run_pure, Result.andThen_ok, invoke, Array.empty_append, Array.append_empty]
    exact hy
  show Oper.wpIn (FR R) 0 P o act c.w K' Qx
  refine ⟨fun _ _ => trivial, ?_⟩
  rw [Oper.semAt_eq _ _ _ (fun d hd => by rw [hd] at ho; cases ho), hrun, Oper.uponIn_round]
  refine ⟨fun h => Bool.noConfusion h, roundIn_of_wpIn trivial ?_⟩
  have hz : (r.params.zip (args.map act.eval)).foldl (fun tmps (t, a) => tmps.setIfInBounds t a) r.tmps = (r.params.toList.zip (args.toList.map act.eval)).foldl (fun t (p, v) => t.setIfInBounds p v) r.tmps := by
    rw [← Array.foldl_toList]; simp
  have hzip := zipA_rel (c := c) (n := n) r.params.toList (args.toList.map (evA A)) (args.toList.map act.eval) Ac r.tmps (by simp) (fun i a v h1 h2 => by
      rw [List.getElem?_map] at h1
      rw [List.getElem?_map] at h2
      cases hq : args.toList[i]? with
      | none => simp [hq] at h1
      | some q =>
        simp only [hq, Option.map_some, Option.some.injEq] at h1 h2
        subst h1 h2
        exact ⟨g.ev q, g.evOk q⟩) (fun p hp => by rw [hsz]; exact hp2 p hp) (fun t => ⟨hA t, (hAok t).mono fun q hq => Nat.lt_of_lt_of_le hq (Nat.le_trans hmn g.le0)⟩)
  rw [← hz] at hzip
  have gB : Good ntc c H n c ⟨zipA r.params.toList (args.toList.map (evA A)) Ac, H, n⟩ { tmps := (r.params.zip (args.map act.eval)).foldl (fun tmps (t, a) => tmps.setIfInBounds t a) r.tmps, defers := [] } :=
    ⟨g.inv, g.solo, fun t => (hzip.1 t).1, fun t => (hzip.1 t).2, hzip.2.trans hsz, .refl _ _ _, Nat.le_refl _⟩
  refine wpIn_mono (h c H c _ gB (.nil rfl) (some b) (fun h => by rw [htA] at h; cases h)) ?_
  rintro e a1 w' ⟨c1, s1, ae, μ1, rfl, g1, hm1, rfl, rfl, rfl, hbody⟩
  have hrec1 : c1.w.heap[b]? = some (.loop r) := (g1.reach.block b hlt haw.ob).trans hrec
  refine ⟨_, run_beginRound hrec1 h1, ?_⟩
  have aw1 : Away c1 s1.H b := haw.kept hlt g1.reach
  obtain ⟨g1', _⟩ := g1.turn0 (.loop { r with state := .busy }) aw1
  refine wpIn_mono (hbody _ s1.H _ a1 g1' (.nil hm1.ds) (some b) (fun h => by rw [htB] at h; cases h)) ?_
  rintro e a2 w' ⟨c2, s2, ae, μ2, rfl, g2, hm2, rfl, hk⟩
  have hlt1 : b < c1.w.heap.size := (Array.getElem?_eq_some_iff.1 hrec1).1
  have hrec2 : c2.w.heap[b]? = some (.loop { r with state := .busy }) :=
    (g2.reach.block b (by show b < (c1.w.putObj b _).heap.size; rw [World.putObj_size]; exact hlt1) aw1.ob).trans (World.putObj_heap_same hlt1)
  have hend : ∀ j, (Instr.endRound b j).run P c2.w = .ok (.bool j.isNone) (c2.w.putObj b (.loop { r with state := if j.isNone then .ready else .done, pending := j })) := fun j => run_endRound (P := P) (r := { r with state := .busy }) j hrec2
  have aw2 : Away c2 s2.H b := (Away.mk aw1.sa aw1.so aw1.ob : Away { c1 with w := c1.w.putObj b (.loop { r with state := .busy }) } s1.H b).kept (by show b < (c1.w.putObj b _).heap.size; rw [World.putObj_size]; exact hlt1) g2.reach
  obtain ⟨g3, _⟩ := g2.turn0 (.loop r) aw2
  have rt : Reach c H n { c2 with w := c2.w.putObj b (.loop r) } s2.H := Reach.turnBack g1.reach g2.reach hrec haw
  have gf := g.next (dstOk_lt hd) rt.le rt.sa rt.so2 rt.fr rt.own g3.inv g3.solo g3.le0 (a := .sc (.bool (jumpOf ae).isNone)) (v := .bool (jumpOf ae).isNone) .sc .sc
  have mk := hm.kept (rt.weaken g.le0) (act' := act.put o.dst (.bool (jumpOf ae).isNone))
  obtain ⟨gt, hle⟩ := gf.turn (.loop (setP r ae)) aw2.sa aw2.so aw2.ob w4
  have mt := mk.turn (r2 := setP r ae) rfl hle
  have hw : ({ c2 with w := c2.w.putObj b (.loop (setP r ae)) } : Ctx) = { { c2 with w := c2.w.putObj b (.loop r) } with w := (c2.w.putObj b (.loop r)).putObj b (.loop (setP r ae)) } := by rw [putObj_twice]
  rw [← hw] at gt mt
  have fin := hK' _ _ (hk c0 H0 _ _ gt mt Qx hQ (some R) (fun h => by cases h))
  cases ae with
  | normal => exact ⟨_, _, hend none, fin⟩
  | exit id => exact ⟨_, _, hend (some (.exit id)), fin⟩
  | ret => exact ⟨_, _, hend (some .ret), fin⟩
theorem SemM.rangeFunc {P : Program} {nt n0 n gf nti : Nat} {Q : AExit → St → Mu → Prop} {A : Nat → AV} {H : Heap} {μ : Mu} {g : Operand} {ps : Array Nat} {assign body codeI : Code} {fnI : Func} {caps : List AV}
    (hg : evA A g = .fn gf caps) (hfn : FnOk P gf fnI codeI) (hnt : fnI.ntmps = nti) (hle : caps.length + 1 ≤ nti) (hres : fnI.results = #[])
    (h : ∀ (b D : Nat) (r : Loop), r.state = .ready → r.pending = none → r.params = ps → r.assign = assign → r.body = body →
      SemM P nti n codeI (fun e s μ' => (∀ id, e ≠ .exit id) ∧ ∃ pe, μ' = [(b, .loop (setP r pe) nt n A), (D, .blk (.deferred (some [])))] ∧ Q pe ⟨A, s.H, s.n⟩ ((D, .mark) :: μ)) ⟨argA (.sc (.func (.yield b) #[] #[]) :: caps), H, n⟩ [(b, .loop r nt n A), (D, .blk (.deferred (some [])))]) :
    SemM P nt n0 (.rangeFunc g ps assign body) Q ⟨A, H, n⟩ μ := by
  intro c0 H0 c act gd hm R hR
  obtain rfl := hR rfl
  have hv := gd.ev g
  rw [show evA (St.A ⟨A, H, n⟩) g = _ from hg] at hv
  have hvo := gd.evOk g
  rw [show evA (St.A ⟨A, H, n⟩) g = _ from hg] at hvo
  obtain ⟨cv, hcv, hcl, hcr⟩ := hv.fn_inv
  refine wpIn_rangeFunc ?_
  intro fn _
  let D := c.w.heap.size
  let b := c.w.heap.size + 1
  let rec0 : Loop := { state := .ready, pending := none, fn, tmps := act.tmps, params := ps, assign, body, defers := c.w.heap.size }
  let W1 : World := (c.w.alloc (.deferred (some []))).alloc (.loop rec0)
  let c1 : Ctx := { c with w := W1 }
  have hL1 : W1.heap[b]? = some (.loop rec0) := by
    have := World.alloc_heap_new (c.w.alloc (.deferred (some []))) (.loop rec0); rwa [World.size_alloc] at this
  have hK1 : W1.heap[D]? = some (.deferred (some [])) := (RowKit.Below.heap_alloc _ _ _ (by simp [D])).trans (World.alloc_heap_new c.w _)
  have hs1 : W1.heap.size = c.w.heap.size + 2 := by simp [W1]
  have g1 : Good nt c H n0 c1 ⟨A, H, n⟩ act := (gd.rebase.alloc (.deferred (some []))).alloc (.loop rec0)
  have hold : ∀ k, k < c.w.heap.size → W1.heap[k]? = c.w.heap[k]? := fun k hk => (RowKit.Below.heap_alloc _ _ _ (by simp; omega)).trans (RowKit.Below.heap_alloc _ _ _ hk)
  have r1 : Reach c H n c1 H := ⟨fun _ _ => rfl, rfl, rfl, ⟨rfl, Nat.le_refl _⟩, by show c.w.heap.size ≤ W1.heap.size; omega, fun k hk _ => hold k hk, fun k hk => hold k (gd.inv.lt k hk), rfl, fun _ h => h, fun _ h => .inl h, rfl, fun o x hx => .inr ⟨o, x, hx, rfl⟩⟩
  have hob : ∀ o x, H o = some x → (c.ρ o).blk < c.w.heap.size := fun o x hx => by
    obtain ⟨_, ⟨⟨cur, hcb, _⟩, _⟩, _⟩ := gd.inv.obj o x hx
    exact (Array.getElem?_eq_some_iff.1 hcb).1
  let vs : Array Value := #[.func (.yield b) #[] #[]] ++ cv
  have hvs : vs.size = caps.length + 1 := by simp [vs, ← hcl]; omega
  have gI : Good nti c H n c1 ⟨argA (.sc (.func (.yield b) #[] #[]) :: caps), H, n⟩ { tmps := vs ++ Array.replicate (fnI.ntmps - vs.size) undef, defers := [] } := by
    have hrel : VRels c1 false (.sc (.func (.yield b) #[] #[]) :: caps) vs := by
      refine ⟨by rw [hvs]; simp, fun i a v ha hv => ?_⟩
      cases i with
      | zero =>
        have hv' : vs[0]? = some (.func (.yield b) #[] #[]) := by simp only [vs]; rw [Array.getElem?_append_left (by simp)]; rfl
        rw [hv'] at hv
        simp only [List.getElem?_cons_zero, Option.some.injEq] at ha hv
        subst ha hv; exact .sc
      | succ i =>
        have hv' : cv[i]? = some v := by
          simp only [vs] at hv
          rw [Array.getElem?_append_right (by simp)] at hv
          simpa using hv
        simp only [List.getElem?_cons_succ] at ha
        refine (hcr i a v ha hv').mono r1.le (.inr ?_)
        cases hvo with | fn hvo => exact hvo a (List.mem_of_getElem? ha)
    have hok : ∀ a ∈ (.sc (.func (.yield b) #[] #[]) :: caps : List AV), a.Ok (· < n) := by
      intro a ha
      rcases List.mem_cons.1 ha with rfl | ha
      · exact .sc
      · cases hvo with | fn hvo => exact hvo a ha
    have : Good nti c H n c1 ⟨argA (.sc (.func (.yield b) #[] #[]) :: caps), H, n⟩ { tmps := vs ++ Array.replicate (fnI.ntmps - vs.size) undef, defers := [] } :=
      ⟨g1.inv, g1.solo, fun t => frame_args hrel _ t, fun t => argA_ok hok t, by simp only [Array.size_append, Array.size_replicate]; omega, r1, Nat.le_refl _⟩
    exact this
  have mI : MOk n c H c1 H [(b, .loop rec0 nt n A), (D, .blk (.deferred (some [])))] { tmps := vs ++ Array.replicate (fnI.ntmps - vs.size) undef, defers := [] } := by
    refine ⟨fun p hp => ?_, fun p hp => ?_, by simp [b, D], rfl⟩
    · simp only [List.mem_cons, List.not_mem_nil, or_false] at hp
      rcases hp with rfl | rfl
      · exact ⟨⟨hL1, gd.size⟩, Nat.le_refl _, fun t => gd.ok t, fun t => g1.frame t⟩
      · exact hK1
    · simp only [List.mem_cons, List.not_mem_nil, or_false] at hp
      have key : ∀ k, c.w.heap.size ≤ k → ¬ c1.Sa k ∧ ¬ c1.So k ∧ (∀ o x, H o = some x → (c1.ρ o).blk ≠ k) ∧ NewB c H k := fun k hk =>
        ⟨fun hs => by have := gd.inv.lt k (.inl hs); omega, fun hs => by have := gd.inv.lt k (.inr hs); omega, fun o x hx e => by have h1 := hob o x hx; have h2 : (c.ρ o).blk = k := e; omega, ⟨Nat.le_trans gd.inv.base hk, .inl hk⟩⟩
      rcases hp with rfl | rfl
      · exact key b (by simp [b])
      · exact key D (Nat.le_refl _)
  refine ⟨b, [{ target := .collected D, args := #[] }], W1, { target := .fn (.func gf) cv, args := #[.func (.yield b) #[] #[]] }, W1, gf, vs, W1, run_enterLoop_outer _ _ _ _ _, ?_, fun _ _ => trivial, ?_, fun h => Bool.noConfusion h, ?_⟩
  · simp only [resolve, hcv]
    simp [go_sem]
  · simp only [invoke, callFunc, Sem.run_bind, run_program, Result.andThen_ok, hfn.here, hfn.name, hfn.body, Option.isNone_some, Bool.false_eq_true, if_false]
    rfl
  refine callsIn_of_wp hfn.here hfn.body trivial ?_ rfl
  refine wpIn_mono (h b D rec0 rfl rfl rfl rfl rfl c H c1 _ gI mI none .none) ?_
  rintro e a w' ⟨c2, s2, ae, μ2, rfl, g2, hm2, rfl, hne, pe, rfl, hk⟩
  have hds : a.defers = [] := hm2.ds
  have fin : a.defers = [] ∧ ∃ v, (results fnI a.tmps).run P c2.w = .ok v c2.w ∧ rangePost (FR none) 0 P b (MQ nt c0 H0 n0 Q) { act with defers := [{ target := .collected D, args := #[] }] ++ act.defers } (.returned v) c2.w := by
    obtain ⟨⟨hrec, _⟩, _⟩ := hm2.is (b, .loop (setP rec0 pe) nt n A) (by simp)
    have hDk : c2.w.heap[D]? = some (.deferred (some [])) := hm2.is (D, .blk (.deferred (some []))) (by simp)
    obtain ⟨x1, x2, x3, x4⟩ := hm2.away (b, .loop (setP rec0 pe) nt n A) (by simp)
    obtain ⟨y1, y2, y3, y4⟩ := hm2.away (D, .blk (.deferred (some []))) (by simp)
    obtain ⟨g3, hle3⟩ := g2.turn (.loop { setP rec0 pe with state := .exhausted }) x1 x2 x3 x4
    refine ⟨hds, .tuple #[], by simp [results, hres, go_sem], ?_⟩
    refine ⟨jumpOf pe, _, run_endLoop hrec (by cases pe <;> simp [setP, jumpOf]), ?_⟩
    have rt := g3.reach
    have gc := gd.next (dst := none) (a := .sc undef) (v := undef) (fun d h => by cases h) rt.le rt.sa rt.so2 rt.fr rt.own g3.inv g3.solo g3.le0 .sc .sc
    have gc2 : Good nt c0 H0 n0 { c2 with w := c2.w.putObj b (.loop { setP rec0 pe with state := .exhausted }) } ⟨A, s2.H, s2.n⟩ { act with defers := [{ target := .collected D, args := #[] }] ++ act.defers } :=
      ⟨gc.inv, gc.solo, gc.frame, gc.ok, gc.size, gc.reach, gc.le0⟩
    have hmk := hm.kept (rt.weaken gd.le0) (act' := act) rfl
    have last : MQ nt c0 H0 n0 Q pe.of { act with defers := [{ target := .collected D, args := #[] }] ++ act.defers } (c2.w.putObj b (.loop { setP rec0 pe with state := .exhausted })) := by
      refine ⟨_, ⟨A, s2.H, s2.n⟩, pe, (D, .mark) :: μ, rfl, gc2, ⟨fun p hp => ?_, fun p hp => ?_, ?_, ?_⟩, rfl, hk⟩
      · rcases List.mem_cons.1 hp with rfl | hp
        · exact (World.putObj_heap_other (by simp [b, D])).trans hDk
        · exact hmk.is p hp
      · rcases List.mem_cons.1 hp with rfl | hp
        · exact ⟨y1, y2, y3, ⟨by rw [← gd.reach.B]; exact gd.inv.base, .inl gd.reach.size⟩⟩
        · exact hmk.away p hp
      · refine List.nodup_cons.2 ⟨fun hmem => ?_, hm.nodup⟩
        obtain ⟨p, hp, he⟩ := List.mem_map.1 hmem
        have := (hm.is p hp).lt
        simp only [D] at he
        omega
      · show [_] ++ act.defers = _ :: dsOf μ
        rw [hm.ds]; rfl
    cases pe with
    | normal => exact last
    | exit id => exact wpIn_exit last
    | ret => exact wpIn_ret last
  cases ae with
  | exit id => exact (hne id rfl).elim
  | normal => exact fin
  | ret => exact fin
end Go.Av

namespace Go.Av
variable [Gls]
inductive Tab (V : Type) where
  | leaf
  | node (k : Nat) (v : V) (l r : Tab V)
noncomputable def Tab.find {V : Type} (t : Tab V) : Nat → Option V :=
  Tab.rec (motive := fun _ => Nat → Option V) (fun _ => none) (fun k v _ _ ihl ihr n => bif Nat.beq n k then some v else bif Nat.blt n k then ihl n else ihr n) t
theorem Tab.find_node {V : Type} (k : Nat) (v : V) (l r : Tab V) (t : Nat) : (Tab.node k v l r).find t = bif Nat.beq t k then some v else bif Nat.blt t k then l.find t else r.find t := rfl
def Tab.All {V : Type} (p : Nat → V → Prop) : Tab V → Prop
  | .leaf => True
  | .node k v l r => p k v ∧ l.All p ∧ r.All p
theorem Tab.find_all {V : Type} {p : Nat → V → Prop} : ∀ (t : Tab V), t.All p → ∀ k v, t.find k = some v → p k v := by
  intro t
  induction t with
  | leaf => intro _ k v h; cases h
  | node k' v' l r ihl ihr =>
    intro h k v hf
    obtain ⟨h1, h2, h3⟩ := h
    rw [Tab.find_node] at hf
    cases hb : Nat.beq k k' with
    | true =>
      rw [hb, cond_true] at hf
      cases hf
      have : k = k' := Nat.eq_of_beq_eq_true hb
      subst this; exact h1
    | false =>
      rw [hb, cond_false] at hf
      cases hlt : Nat.blt k k' with
      | true => rw [hlt, cond_true] at hf; exact ihl h2 k v hf
      | false => rw [hlt, cond_false] at hf; exact ihr h3 k v hf
theorem tyOk_tab {P : Program} {t : Tab TI} (h : t.All (TiOk P)) : TyOk P t.find := fun k v hf => t.find_all h k v hf
theorem tiOk {P : Program} {t : Nat} {i : TypeInfo} {d : TypeDesc} {z : Value} (hi : P.info? t = some i) (hd : P.underlying t = some d) (hz : i.zero = some z)
    (hw : ((ofConst z).whole && Nat.beq (ofConst z).cells.length i.size) = true) : TiOk P t ⟨kindOf d, i.size, i.bytes, z, false⟩ := by
  simp only [Bool.and_eq_true] at hw
  exact ⟨⟨i, d, hi, hd, hz, rfl, rfl, rfl⟩, ⟨hw.1, Nat.eq_of_beq_eq_true hw.2⟩, fun h => by cases h⟩
theorem tiOkE {P : Program} {t : Nat} {i : TypeInfo} {d : TypeDesc} {z : Value} (hi : P.info? t = some i) (hd : P.underlying t = some d) (hz : i.zero = some z)
    (hw : ((ofConst z).whole && Nat.beq (ofConst z).cells.length i.size) = true) (h1 : P.stoodInHeld t = false) (h2 : P.eqGuardType P.depth t = false)
    (h3 : (match d with | .struct fs => fs.toList.all (fun f => !(f.name == "_")) | _ => true) = true) : TiOk P t ⟨kindOf d, i.size, i.bytes, z, true⟩ := by
  simp only [Bool.and_eq_true] at hw
  refine ⟨⟨i, d, hi, hd, hz, rfl, rfl, rfl⟩, ⟨hw.1, Nat.eq_of_beq_eq_true hw.2⟩, fun _ => ⟨h1, h2, fun fs hfs f hf => ?_⟩⟩
  rw [hd] at hfs
  cases hfs
  have := List.all_eq_true.1 h3 f (by simpa using hf)
  simpa using this
def bodyOf (fn : Func) : Code := fn.body.getD .skip
theorem envOk_tab {P : Program} {t : Tab (Func × Code)} (h : t.All (fun k v => FnOk P k v.1 v.2)) : EnvOk P t.find := fun k fn code hf => t.find_all h k (fn, code) hf
end Go.Av

namespace Go.Av
variable [Gls]
section
variable {P : Program} {ops : Array Oper} {keep : Nat → Bool} {v0 : Nat → Value}
def Kept (keep : Nat → Bool) (v0 : Nat → Value) (a : Act) : Prop := ∀ t, keep t = true → a.tmps.getD t undef = v0 t
theorem Kept.put {a : Act} {d : Option Nat} {v : Value} (h : Kept keep v0 a) (hd : ∀ t, d = some t → keep t = false) : Kept keep v0 (a.put d v) := by
  intro t ht
  rw [← h t ht]
  cases d with
  | none => rfl
  | some d =>
    show (a.tmps.setIfInBounds d v).getD t undef = _
    have hne : d ≠ t := fun e => by subst e; rw [hd d rfl] at ht; cases ht
    simp only [Array.getD_eq_getD_getElem?]
    rw [Array.getElem?_setIfInBounds_ne hne]
theorem Oper.wp_keep {o : Oper} {a : Act} {w : World} {K K' : Act → World → Prop} {Q Q' : Exit → Act → World → Prop} (hno : ∀ a w, ¬ Q .outgrown a w) (hd : ∀ t, o.dst = some t → keep t = false) (ha : Kept keep v0 a)
    (hK : ∀ a w, Kept keep v0 a → K a w → K' a w) (hQ : ∀ e a w, Kept keep v0 a → Q e a w → Q' e a w) (h : o.wp P a w K Q) : o.wp P a w K' Q' := by
  have hl : ¬ LetsOut Q := fun ⟨a, w, h⟩ => hno a w h
  unfold Oper.wp at *
  generalize (execOp a.eval o).run P w = r at *
  cases r with
  | ok n w' =>
    cases n <;> simp only [Oper.upon] at h ⊢ <;>
      first
        | exact hK _ _ (ha.put hd) h
        | exact hK _ _ (Kept.put (a := { a with defers := _ :: a.defers }) ha hd) h
        | exact Calls.mono h (fun e w'' he => by cases e <;> first | exact hK _ _ (ha.put hd) he | exact hQ _ _ _ ha he | exact (hl he).elim)
        | exact Rows.mono h (fun _ _ he => hK _ _ (ha.put hd) he)
        | exact h
  | halt x w' => cases x <;> simp only [Oper.upon] at h ⊢ <;> first | exact hQ _ _ _ ha h | exact h
theorem wpAny_keep {md : Region.Mode} {Q Q' : Exit → Act → World → Prop} (hno : ∀ a w, ¬ Q .outgrown a w) (hk : ∀ o ∈ ops.toList, ∀ d, o.dst = some d → keep d = false) (hQ : ∀ e a w, Kept keep v0 a → Q e a w → Q' e a w) :
    ∀ (fuel : Nat) (listed : Array Bool) (a : Act) (w : World), Kept keep v0 a → wpAny P md ops Q fuel listed a w → wpAny P md ops Q' fuel listed a w := by
  intro fuel
  induction fuel with
  | zero => intro listed a w ha h; exact ⟨h.1, hQ _ _ _ ha h.2⟩
  | succ fuel ih =>
    intro listed a w ha h
    refine ⟨fun hr => hQ _ _ _ ha (h.1 hr), fun i hi => ?_⟩
    have hh := h.2 i hi
    unfold wpOp at hh ⊢
    cases ho : ops[i]? with
    | none => rw [ho] at hh; exact ih _ _ _ ha hh
    | some o =>
      rw [ho] at hh
      have hm : o ∈ ops.toList := by rw [Array.mem_toList_iff]; exact Array.mem_of_getElem? ho
      simp only at hh ⊢
      by_cases hw : Region.wanted o (yielded ops a.tmps) = true
      · rw [if_pos hw] at hh ⊢
        rcases hh with hh | ⟨_, a, w, hq⟩
        · exact .inl (Oper.wp_keep hno (hk o hm) ha (fun a w ha h => ih _ a w ha h) hQ hh)
        · exact (hno a w hq).elim
      · rw [if_neg hw] at hh ⊢
        exact ih _ _ _ (ha.put (hk o hm)) hh
end
section
variable {hz : Oper → Nat → Bool} {P : Program} {T : Ty} {nt n0 : Nat} {ops : Array Oper}
theorem SemC.drawnK {id n : Nat} {Q : AExit → St → Prop} {A A0 A' : Nat → AV} {H H' : Heap} {keep : Nat → Bool} (hm : P.follows .mixedOrders = true) (hT : TyOk P T) (hpre : preLt 0 ops.toList = true)
    (hk : ∀ o ∈ ops.toList, ∀ d, o.dst = some d → keep d = false) (hA0 : ∀ t, A0 t = A t ∨ A0 t = .junk)
    (hrun : DRun hz P T nt n ops (masks ops.toList) 0 ops.toList A0 H [] A' H') (hQ : Q .normal ⟨fun t => bif keep t then A t else A' t, H', n + ops.toList.length⟩) : SemC P nt n0 (.region id ops true) Q ⟨A, H, n⟩ := by
  obtain ⟨rs, hall, hA, hH⟩ := hrun.all A0 H [] (Nat.zero_le _) rfl rfl rfl rfl rfl (fun k o r _ hr => by simp at hr)
  subst hA hH
  intro c0 HH c act gA R hR
  have g1 : Good nt c0 HH n0 c ⟨A0, H, n⟩ act := by
    refine ⟨gA.inv, gA.solo, fun t => ?_, fun t => ?_, gA.size, gA.reach, gA.le0⟩
    · show VRel c false (A0 t) _
      rcases hA0 t with h | h
      · rw [h]; exact gA.frame t
      · rw [h]; exact .junk
    · show (A0 t).Ok _
      rcases hA0 t with h | h
      · rw [h]; exact gA.ok t
      · rw [h]; exact .junk
  have g := g1.drew
  have hno : ∀ (Q : AExit → St → Prop) a w, ¬ CQ nt c HH n0 act.defers Q .outgrown a w := by rintro Q a w ⟨c, s, ae, _, _, _, h, _⟩; cases ae <;> cases h
  refine wpR_region_any hm hR (by rintro a w ⟨c, s, ae, _, _, _, h, _⟩; cases ae <;> cases h) ?_
  have hzz : ∀ k, (Array.replicate ops.size false).getD k false = false := by
    intro k
    simp only [Array.getD_eq_getD_getElem?, Array.getElem?_replicate]
    split <;> rfl
  have hfn : (fun k => (Array.replicate ops.size false).getD k false) = (fun _ => false) := funext hzz
  let cb : Ctx := { c with w := { c.w with drawn := c.w.drawn + 1 } }
  have gb : Good nt cb H n cb ⟨A0, H, n⟩ act := ⟨g.inv, g.solo, g.frame, g.ok, g.size, .refl _ _ _, Nat.le_refl _⟩
  refine wpAny_keep (keep := keep) (v0 := fun t => act.tmps.getD t undef) (Q := CQ nt cb H n act.defers (fun e s => e = .normal ∧ s = ⟨_, _, n + ops.toList.length⟩)) (by rintro a w ⟨c, s, ae, _, _, _, h, _⟩; cases ae <;> cases h) hk ?_ _ _ _ _ (fun t _ => rfl)
    (drawn_go hT hpre hall (Q := fun e s => e = .normal ∧ s = ⟨_, _, n + ops.toList.length⟩) ⟨rfl, rfl⟩ (Nat.le_refl n) ops.size _ (List.range ops.size) cb act (by simp) (by simp) (fun k hk _ => List.mem_range.2 hk) (fun i o _ h => by rw [hzz] at h; cases h) ?_ rfl)
  · rintro e a w hkept ⟨c', s', ae, rfl, g', hds, rfl, rfl, rfl⟩
    have hr : Reach c0 HH n0 c' _ := g.reach.trans (g'.reach.weaken gA.le0)
    refine ⟨c', ⟨fun t => bif keep t then A t else foldS (stepA ops.toList rs) (fun x => true) ops.toList.length A0 t, _, _⟩, .normal, rfl, ⟨g'.inv, g'.solo, fun t => ?_, fun t => ?_, g'.size, hr, Nat.le_trans gA.le0 g'.le0⟩, hds, rfl, hQ⟩
    · show VRel c' false (bif keep t then A t else _) _
      cases ht : keep t with
      | false => exact g'.frame t
      | true =>
        rw [hkept t ht]
        have h0 : VRel cb false (A t) (act.tmps.getD t undef) := by
          have := gA.drew.frame t
          exact this
        exact h0.mono g'.reach.le (.inr (gA.ok t))
    · show (bif keep t then A t else _ : AV).Ok _
      cases ht : keep t with
      | false => exact g'.ok t
      | true => exact (gA.ok t).mono fun q hq => Nat.lt_of_lt_of_le hq g'.le0
  · rw [hfn, foldS_none, foldS_none]
    have hM : ∀ q, q < n → AtS n (fun _ => false) q := fun q h => .inl h
    exact ⟨gb.inv.more hM, gb.solo, gb.frame, fun t => (gb.ok t).mono hM, gb.size, gb.reach, fun q hq => hM q (Nat.lt_of_lt_of_le hq (Nat.le_refl _))⟩
end
end Go.Av

namespace Go.Av.X
variable [Gls]
open Go.Av
noncomputable def sgn : AV := .cond false .nils
noncomputable def isG (a : AV) : Bool := match a with
  | .cond false .nils => true
  | _ => false
theorem isG_eq {a : AV} (h : isG a = true) : a = sgn := by
  unfold isG at h
  split at h
  · rfl
  · cases h
theorem isG_strip {a : AV} (h : isG a = true) : strip a = .junk := by rw [isG_eq h]; rfl
abbrev YC := List AV → HX → Nat → (AExit → HX → Nat → Prop) → Prop
noncomputable def yieldV (b : Nat) : AV := .sc (.func (.yield b) #[] #[])
noncomputable def sfA (b : Nat) (A : Nat → AV) (t : Nat) : AV := bif isG (A t) then yieldV b else A t
noncomputable def sf (yo : Option YC) (b : Nat) (A : Nat → AV) : Nat → AV := match yo with
  | none => A
  | some _ => sfA b A
noncomputable def jnA (A : Nat → AV) (t : Nat) : AV := bif isG (A t) then .junk else A t
noncomputable def jn (yo : Option YC) (A : Nat → AV) : Nat → AV := match yo with
  | none => A
  | some _ => jnA A
theorem jn_ev (yo : Option YC) (A : Nat → AV) : evA (jn yo A) = evA A := by
  cases yo with
  | none => rfl
  | some y =>
    funext x
    cases x with
    | tmp t =>
      show strip (jnA A t) = strip (A t)
      unfold jnA
      cases h : isG (A t) with
      | true => rw [cond_true, isG_strip h]; rfl
      | false => rw [cond_false]
    | _ => rfl
theorem OpR.hide {P : Program} {nt : Nat} {o : Oper} {A A' : Nat → AV} {H : Heap} {n : Nat} {R : AV → Heap → Nat → Prop} (hA : ∀ t, A' t = A t ∨ (A' t = .junk ∧ ∃ v, A t = .sc v)) (h : OpR P nt o ⟨A', H, n⟩ R) : OpR P nt o ⟨A, H, n⟩ R := by
  intro c0 H0 n0 c act g K Q hK Rm
  have g' : Good nt c0 H0 n0 c ⟨A', H, n⟩ act := by
    refine ⟨g.inv, g.solo, fun t => ?_, fun t => ?_, g.size, g.reach, g.le0⟩
    · show VRel c false (A' t) _
      rcases hA t with h | ⟨h, _⟩
      · rw [h]; exact g.frame t
      · rw [h]; exact .junk
    · show (A' t).Ok _
      rcases hA t with h | ⟨h, _⟩
      · rw [h]; exact g.ok t
      · rw [h]; exact .junk
  refine h c0 H0 n0 c act g' K Q (fun c' a H' n' v hR hgood => hK c' a H' n' v hR fun dst hd => ?_) Rm
  have g2 := hgood dst hd
  have keep : ∀ t, (∀ d, dst = some d → t ≠ d) → (act.put dst v).tmps.getD t undef = act.tmps.getD t undef := by
    intro t ht
    cases dst with
    | none => rfl
    | some d =>
      have hlt : d < act.tmps.size := by rw [g.size]; exact hd d rfl
      show (act.tmps.setIfInBounds d v).getD t undef = _
      rw [getD_set hlt, if_neg (ht d rfl)]
  refine ⟨g2.inv, g2.solo, fun t => ?_, fun t => ?_, g2.size, g2.reach, g2.le0⟩
  · have h2 := g2.frame t
    show VRel c' false (updO A dst a t) _
    rcases hA t with he | ⟨he, u, hu⟩
    · have : updO A dst a t = updO A' dst a t := by
        cases dst with
        | none => exact he.symm
        | some d => by_cases htd : t = d
                    · subst htd; simp only [updO, upd_same]
                    · simp only [updO, upd_other _ _ htd]; exact he.symm
      rw [this]; exact h2
    · by_cases hdt : ∃ d, dst = some d ∧ t = d
      · obtain ⟨d, rfl, rfl⟩ := hdt
        have h2 : VRel c' false (updO A' (some t) a t) _ := h2
        simp only [updO, upd_same] at h2 ⊢; exact h2
      · have hne : ∀ d, dst = some d → t ≠ d := fun d hd he => hdt ⟨d, hd, he⟩
        have e : updO A dst a t = A t := by
          cases dst with
          | none => rfl
          | some d => simp only [updO, upd_other _ _ (hne d rfl)]
        rw [e, keep t hne, hu]
        have := g.frame t
        have h0 : VRel c false (A t) (act.tmps.getD t undef) := this
        rw [hu] at h0
        rw [h0.sc_inv]; exact .sc
  · have h2 := g2.ok t
    show (updO A dst a t).Ok _
    rcases hA t with he | ⟨he, u, hu⟩
    · have : updO A dst a t = updO A' dst a t := by
        cases dst with
        | none => exact he.symm
        | some d => by_cases htd : t = d
                    · subst htd; simp only [updO, upd_same]
                    · simp only [updO, upd_other _ _ htd]; exact he.symm
      rw [this]; exact h2
    · by_cases hdt : ∃ d, dst = some d ∧ t = d
      · obtain ⟨d, rfl, rfl⟩ := hdt
        have h2 : (updO A' (some t) a t).Ok _ := h2
        simp only [updO, upd_same] at h2 ⊢; exact h2
      · have e : updO A dst a t = A t := by
          cases dst with
          | none => rfl
          | some d => simp only [updO, upd_other _ _ (fun he => hdt ⟨d, rfl, he⟩)]
        rw [e, hu]; exact .sc
theorem jn_sf (yo : Option YC) (b : Nat) (A : Nat → AV) (t : Nat) : jn yo A t = sf yo b A t ∨ (jn yo A t = .junk ∧ ∃ v, sf yo b A t = .sc v) := by
  cases yo with
  | none => exact .inl rfl
  | some y =>
    show jnA A t = sfA b A t ∨ (jnA A t = .junk ∧ ∃ v, sfA b A t = .sc v)
    unfold jnA sfA
    cases h : isG (A t) with
    | true => exact .inr ⟨rfl, _, rfl⟩
    | false => exact .inl rfl
theorem sf_upd (yo : Option YC) (b : Nat) (A : Nat → AV) (d : Option Nat) (a : AV) (ha : isG a = false) : updO (sf yo b A) d a = sf yo b (updO A d a) := by
  cases yo with
  | none => rfl
  | some y =>
    cases d with
    | none => rfl
    | some d =>
      funext t
      show upd (sfA b A) d a t = sfA b (upd A d a) t
      by_cases h : t = d
      · subst h
        have : sfA b (upd A t a) t = a := by unfold sfA; rw [upd_same, ha]; rfl
        rw [upd_same, this]
      · have : sfA b (upd A d a) t = sfA b A t := by unfold sfA; rw [upd_other _ _ h]
        rw [upd_other _ _ h, this]
theorem sf_sgn (b : Nat) (A : Nat → AV) (d : Option Nat) : updO (sfA b A) d (yieldV b) = sfA b (updO A d sgn) := by
  cases d with
  | none => rfl
  | some d =>
    funext t
    show upd (sfA b A) d (yieldV b) t = sfA b (upd A d sgn) t
    by_cases h : t = d
    · subst h
      have : sfA b (upd A t sgn) t = yieldV b := by unfold sfA; rw [upd_same]; rfl
      rw [upd_same, this]
    · have : sfA b (upd A d sgn) t = sfA b A t := by unfold sfA; rw [upd_other _ _ h]
      rw [upd_other _ _ h, this]
theorem sf_keep (yo : Option YC) (b : Nat) (A : Nat → AV) {t : Nat} {v : AV} (h : strip (A t) = v) (hv : v ≠ .junk) : sf yo b A t = A t := by
  cases yo with
  | none => rfl
  | some y =>
    show sfA b A t = A t
    unfold sfA
    cases hg : isG (A t) with
    | false => rfl
    | true => rw [isG_strip hg] at h; exact absurd h.symm hv
def YcOk (P : Program) (yc : YC) (ps : Array Nat) (assign body : Code) (ntc : Nat) (A : Nat → AV) : Prop :=
  ∀ as H n k, yc as H n k → as.length = ps.size ∧ (∀ p ∈ ps.toList, p < ntc) ∧ topOnly assign = false ∧ topOnly body = false ∧ ∃ e H' n', k e H' n' ∧
    SemM P ntc n assign (fun e1 s μ1 => e1 = .normal ∧ μ1 = [] ∧ SemM P ntc n body (fun e2 s _ => e2 = e ∧ s.H = hpX H' ∧ s.n = n') s []) ⟨zipA ps.toList as A, hpX H, n⟩ []
structure Rd where
  ps : Array Nat
  assign : Code
  body : Code
  ntc : Nat
  A : Nat → AV
def RdOk (d : Rd) (r : Loop) : Prop := r.state = .ready ∧ r.pending = none ∧ r.params = d.ps ∧ r.assign = d.assign ∧ r.body = d.body
def MuOf (yo : Option YC) (d : Rd) (b m : Nat) (r : Loop) (pe : AExit) (μr : Mu) : Mu := match yo with
  | none => μr
  | some _ => (b, .loop (setP r pe) d.ntc m d.A) :: μr
def YOk (P : Program) (yo : Option YC) (d : Rd) : Prop := ∀ yc, yo = some yc → YcOk P yc d.ps d.assign d.body d.ntc d.A
noncomputable def noJ (l : List AV) : Bool := List.rec (motive := fun _ => Bool) true (fun a _ ih => AV.casesOn (motive_1 := fun _ => Bool) a false (fun _ => ih) ih (fun _ => ih) (fun _ => ih) (fun _ _ => ih) (fun _ _ _ => ih) (fun _ _ _ => ih) (fun _ _ _ => ih) (fun _ _ => ih) (fun _ _ => ih) (fun _ _ => ih) (fun _ _ => ih)) l
theorem noJ_ok : ∀ (l : List AV), noJ l = true → ∀ a ∈ l, a ≠ .junk := by
  intro l
  induction l with
  | nil => intro _ a h; simp at h
  | cons b l ih =>
    intro h a ha
    have h2 : b ≠ .junk ∧ noJ l = true := by
      cases b <;> first | (cases h; done) | exact ⟨(fun e => by cases e), h⟩
    rcases List.mem_cons.1 ha with rfl | ha
    · exact h2.1
    · exact ih h2.2 a ha
noncomputable def ckG (k : AV → HX → Nat → Prop) (a : AV) (H : HX) (n : Nat) : Prop := Bool.rec (motive := fun _ => Prop) (k a H n) (stk 113) (isG a)
theorem ckG_ok {k : AV → HX → Nat → Prop} {a : AV} {H : HX} {n : Nat} (h : ckG k a H n) : isG a = false ∧ k a H n := by
  unfold ckG at h
  cases hg : isG a with
  | true => rw [hg] at h; cases h
  | false => rw [hg] at h; exact ⟨rfl, h⟩
abbrev KP := AV → HX → Nat → AExit → Prop
noncomputable def kpe (k : KP) (pe : AExit) (a : AV) (H : HX) (n : Nat) : Prop := k a H n pe
noncomputable def ykP (k : KP) (e : AExit) (H : HX) (n : Nat) : Prop := AExit.rec (motive := fun _ => Prop) (k (.sc (.bool true)) H n .normal) (fun i => k (.sc (.bool false)) H n (.exit i)) (k (.sc (.bool false)) H n .ret) e
theorem ykP_eq (k : KP) (e : AExit) (H : HX) (n : Nat) : ykP k e H n = k (.sc (.bool (jumpOf e).isNone)) H n e := by cases e <;> rfl
noncomputable def nrm (e : AExit) (p : Prop) : Prop := AExit.rec (motive := fun _ => Prop) p (fun _ => stk 122) (stk 123) e
theorem nrm_ok {e : AExit} {p : Prop} (h : nrm e p) : e = .normal ∧ p := by
  cases e with
  | normal => exact ⟨rfl, h⟩
  | exit i => cases h
  | ret => cases h
noncomputable def opY (T : Ty) (rec : RecX) (pe : AExit) (F : FX) (H : HX) (n : Nat) (o : Oper) (yc : YC) (k : KP) : Prop :=
  match o.op with
  | .move (.tmp t) => Bool.rec (motive := fun _ => Prop) (opX T rec F H n o (ckG (kpe k pe))) (k sgn H n pe) (isG (frX F t))
  | .assign (.tmp t) => Bool.rec (motive := fun _ => Prop) (opX T rec F H n o (ckG (kpe k pe))) (k sgn H n pe) (isG (frX F t))
  | .call { callee := .value (.tmp t), args := args, argTypes := _ } => Bool.rec (motive := fun _ => Prop) (opX T rec F H n o (ckG (kpe k pe)))
      (match o.guard with
      | none => nrm pe (fL (args.toList.map (evA (frX F))) fun as => Bool.rec (motive := fun _ => Prop) (stk 111) (yc as H n (ykP k)) (noJ as))
      | some _ => stk 112) (isG (frX F t))
  | _ => opX T rec F H n o (ckG (kpe k pe))
noncomputable def opZ (T : Ty) (rec : RecX) (yo : Option YC) (pe : AExit) (F : FX) (H : HX) (n : Nat) (o : Oper) (k : KP) : Prop :=
  Option.rec (motive := fun _ => Prop) (opX T rec F H n o (kpe k pe)) (fun yc => opY T rec pe F H n o yc k) yo
noncomputable def gz1 (nt : Nat) (ops : Array Oper) (A : Nat → AV) (run skip : Prop) (p : Nat × Bool) : Prop :=
  match (ops[p.1]?).bind (·.dst) with
    | some t => Bool.rec (motive := fun _ => Prop) (stk 51) (match gdS p.2 (A t) with
      | some g => Bool.rec (motive := fun _ => Prop) skip run g
      | none => stk 52) (Nat.blt t nt)
    | none => stk 53
noncomputable def gdZ (nt : Nat) (ops : Array Oper) (A : Nat → AV) (o : Oper) (run skip : Prop) : Prop := Option.rec (motive := fun _ => Prop) run (gz1 nt ops A run skip) o.guard
theorem gdZ_ok {nt : Nat} {ops : Array Oper} {A : Nat → AV} {o : Oper} {run skip : Prop} (h : gdZ nt ops A o run skip) :
    (run ∧ (o.guard = none ∨ ∃ j want t, o.guard = some (j, want) ∧ (ops[j]?).bind (·.dst) = some t ∧ Nat.blt t nt = true ∧ gdS want (A t) = some true)) ∨
    (skip ∧ ∃ j want t, o.guard = some (j, want) ∧ (ops[j]?).bind (·.dst) = some t ∧ Nat.blt t nt = true ∧ gdS want (A t) = some false) := by
  unfold gdZ at h
  cases hg : o.guard with
  | none => rw [hg] at h; exact .inl ⟨h, .inl rfl⟩
  | some p =>
    obtain ⟨j, want⟩ := p
    rw [hg] at h
    have h : gz1 nt ops A run skip (j, want) := h
    unfold gz1 at h
    split at h
    · rename_i t hj
      cases ht : Nat.blt t nt with
      | false => rw [ht] at h; cases h
      | true =>
        rw [ht] at h
        have h : (match gdS want (A t) with
          | some g => Bool.rec (motive := fun _ => Prop) skip run g
          | none => stk 52) := h
        split at h
        · rename_i g hv
          cases g with
          | false => exact .inr ⟨h, j, want, t, rfl, hj, ht, hv⟩
          | true => exact .inl ⟨h, .inr ⟨j, want, t, rfl, hj, ht, hv⟩⟩
        · cases h
    · cases h
theorem gdS_sf (yo : Option YC) (b : Nat) (A : Nat → AV) {want : Bool} {t : Nat} {q : Bool} (h : gdS want (A t) = some q) : gdS want (sf yo b A t) = some q := by
  have : sf yo b A t = A t := by
    cases yo with
    | none => rfl
    | some y =>
      show sfA b A t = A t
      unfold sfA
      cases hg : isG (A t) with
      | false => rfl
      | true => rw [isG_eq hg] at h; cases h
  rw [this]; exact h
noncomputable def opsZ (T : Ty) (rec : RecX) (yo : Option YC) (nt : Nat) (ops : Array Oper) (l : List Oper) : AExit → FX → HX → Nat → (AExit → FX → HX → Nat → Prop) → Prop :=
  List.rec (motive := fun _ => AExit → FX → HX → Nat → (AExit → FX → HX → Nat → Prop) → Prop) (fun pe F H n k => k pe F H n) (fun o _ ih pe F H n k =>
    Bool.rec (motive := fun _ => Prop) (stk 61) (gdZ nt ops (frX F) o (opZ T rec yo pe F H n o fun a H n pe => setOX F o.dst a fun F => ih pe F H n k) (setOX F o.dst (.cond false (.sc (.bool false))) fun F => ih pe F H n k)) (dstOk nt o.dst)) l
theorem evA_sf {yo : Option YC} {b : Nat} {A : Nat → AV} {x : Operand} (h : evA A x ≠ .junk) : evA (sf yo b A) x = evA A x := by
  cases x with
  | tmp t =>
    show strip (sf yo b A t) = strip (A t)
    rw [sf_keep yo b A (v := strip (A t)) rfl h]
  | _ => rfl
theorem opZ_ok {P : Program} {T : Ty} {rec : RecX} {yo : Option YC} {nt : Nat} {ops : Array Oper} {l : List Oper} {pe : AExit} {F : FX} {H : HX} {n : Nat} {o : Oper} {k : KP} {d : Rd} (hT : TyOk P T) (hr : RecOkX P rec) (hy : YOk P yo d) (hd : dstOk nt o.dst = true)
    (h : opZ T rec yo pe F H n o k) : ∃ a H' n' pe', k a H' n' pe' ∧ ∀ n0 b m r μr (K : St → Mu → Prop), (yo ≠ none → RdOk d r) →
      (∀ (c0 c : Ctx) (H0 : Heap) (act : Act), Good nt c0 H0 n0 c ⟨sf yo b (frX F), hpX H, n⟩ act → Region.wanted o (yielded ops act.tmps) = true) →
      SemLM P nt n0 ops l K ⟨sf yo b (updO (frX F) o.dst a), hpX H', n'⟩ (MuOf yo d b m r pe' μr) → SemLM P nt n0 ops (o :: l) K ⟨sf yo b (frX F), hpX H, n⟩ (MuOf yo d b m r pe μr) := by
  have plain : ∀ k', opX T rec F H n o k' → ∃ a H' n', k' a H' n' ∧ ∀ n0 b μ (K : St → Mu → Prop), (isG a = false ∨ yo = none) →
      (∀ (c0 c : Ctx) (H0 : Heap) (act : Act), Good nt c0 H0 n0 c ⟨sf yo b (frX F), hpX H, n⟩ act → Region.wanted o (yielded ops act.tmps) = true) →
      SemLM P nt n0 ops l K ⟨sf yo b (updO (frX F) o.dst a), hpX H', n'⟩ μ → SemLM P nt n0 ops (o :: l) K ⟨sf yo b (frX F), hpX H, n⟩ μ := by
    intro k' h
    obtain ⟨a, H', n', hR, hk⟩ := opX_ok (nt := nt) (A := jn yo (frX F)) (jn_ev yo _) hT hr h
    refine ⟨a, H', n', hk, fun n0 b μ K hg hw hn => ?_⟩
    refine SemLM.step hw (dstOk_lt hd) (OpR.hide (fun t => jn_sf yo b (frX F) t) hR) ?_
    rintro a' H2 n2 ⟨rfl, rfl, rfl⟩
    show SemLM P nt n0 ops l K ⟨updO (sf yo b (frX F)) o.dst a', hpX H', n2⟩ μ
    rcases hg with hg | hg
    · rw [sf_upd yo b _ _ _ hg]; exact hn
    · subst hg; exact hn
  cases yo with
  | none =>
    obtain ⟨a, H', n', hk, hs⟩ := plain _ h
    exact ⟨a, H', n', pe, hk, fun n0 b m r μr K _ hw hn => hs n0 b _ K (.inr rfl) hw hn⟩
  | some yc =>
    have h : opY T rec pe F H n o yc k := h
    have plain2 : opX T rec F H n o (ckG (kpe k pe)) → ∃ a H' n' pe', k a H' n' pe' ∧ ∀ n0 b m r μr (K : St → Mu → Prop), (some yc ≠ none → RdOk d r) →
        (∀ (c0 c : Ctx) (H0 : Heap) (act : Act), Good nt c0 H0 n0 c ⟨sf (some yc) b (frX F), hpX H, n⟩ act → Region.wanted o (yielded ops act.tmps) = true) →
        SemLM P nt n0 ops l K ⟨sf (some yc) b (updO (frX F) o.dst a), hpX H', n'⟩ (MuOf (some yc) d b m r pe' μr) → SemLM P nt n0 ops (o :: l) K ⟨sf (some yc) b (frX F), hpX H, n⟩ (MuOf (some yc) d b m r pe μr) := by
      intro h
      obtain ⟨a, H', n', hk, hs⟩ := plain _ h
      obtain ⟨hg, hk⟩ := ckG_ok hk
      exact ⟨a, H', n', pe, hk, fun n0 b m r μr K _ hw hn => hs n0 b _ K (.inl hg) hw hn⟩
    have mv : ∀ (x : Operand) (t : Nat), x = .tmp t → isG (frX F t) = true → (o.op = .move x ∨ o.op = .assign x) → k sgn H n pe → ∃ a H' n' pe', k a H' n' pe' ∧ ∀ n0 b m r μr (K : St → Mu → Prop), (some yc ≠ none → RdOk d r) →
        (∀ (c0 c : Ctx) (H0 : Heap) (act : Act), Good nt c0 H0 n0 c ⟨sf (some yc) b (frX F), hpX H, n⟩ act → Region.wanted o (yielded ops act.tmps) = true) →
        SemLM P nt n0 ops l K ⟨sf (some yc) b (updO (frX F) o.dst a), hpX H', n'⟩ (MuOf (some yc) d b m r pe' μr) → SemLM P nt n0 ops (o :: l) K ⟨sf (some yc) b (frX F), hpX H, n⟩ (MuOf (some yc) d b m r pe μr) := by
      intro x t hx hg ho hk
      refine ⟨_, _, _, _, hk, fun n0 b m r μr K _ hw hn => ?_⟩
      have he : evA (sf (some yc) b (frX F)) x = yieldV b := by
        rw [hx]
        show strip (sfA b (frX F) t) = _
        unfold sfA; rw [hg]; rfl
      have hR : OpR P nt o ⟨sf (some yc) b (frX F), hpX H, n⟩ (fun a' H' n' => a' = yieldV b ∧ H' = hpX H ∧ n' = n) := by
        refine OpR.pu hT (s := ⟨sf (some yc) b (frX F), hpX H, n⟩) ?_
        rw [← he]
        rcases ho with ho | ho
        · rw [ho]; exact .move
        · rw [ho]; exact .assign
      refine SemLM.step hw (dstOk_lt hd) hR ?_
      rintro a' H2 n2 ⟨rfl, rfl, rfl⟩
      show SemLM P nt n0 ops l K ⟨updO (sfA b (frX F)) o.dst (yieldV b), hpX H, n2⟩ _
      rw [sf_sgn]; exact hn
    unfold opY at h
    split at h
    · rename_i t ho
      cases hg : isG (frX F t) with
      | false => rw [hg] at h; exact plain2 h
      | true => rw [hg] at h; exact mv _ t rfl hg (.inl ho) h
    · rename_i t ho
      cases hg : isG (frX F t) with
      | false => rw [hg] at h; exact plain2 h
      | true => rw [hg] at h; exact mv _ t rfl hg (.inr ho) h
    · rename_i t args ts ho
      cases hg : isG (frX F t) with
      | false => rw [hg] at h; exact plain2 h
      | true =>
        rw [hg] at h
        have h : (match o.guard with
          | none => nrm pe (fL (args.toList.map (evA (frX F))) fun as => Bool.rec (motive := fun _ => Prop) (stk 111) (yc as H n (ykP k)) (noJ as))
          | some _ => stk 112) := h
        split at h
        · rename_i hgd
          obtain ⟨rfl, h⟩ := nrm_ok h
          rw [fL_eq] at h
          cases hj : noJ (args.toList.map (evA (frX F))) with
          | false => rw [hj] at h; cases h
          | true =>
            rw [hj] at h
            obtain ⟨p1, p2, p3, p4, e, H', n', hk, hs⟩ := hy yc rfl _ _ _ _ h
            rw [ykP_eq] at hk
            refine ⟨_, H', n', e, hk, fun n0 b m r μr K hrd hw hn => ?_⟩
            obtain ⟨r1, r2, r3, r4, r5⟩ := hrd (by simp)
            have hx : evA (sf (some yc) b (frX F)) (.tmp t) = yieldV b := by
              show strip (sfA b (frX F) t) = _
              unfold sfA; rw [hg]; rfl
            have has : args.toList.map (evA (sf (some yc) b (frX F))) = args.toList.map (evA (frX F)) := by
              refine List.map_congr_left fun x hx => evA_sf ?_
              exact noJ_ok _ hj _ (List.mem_map_of_mem hx)
            show SemLM P nt n0 ops (o :: l) K _ ((b, .loop (setP r .normal) d.ntc m d.A) :: μr)
            rw [setP_normal r1 r2]
            refine SemLM.yield (r := r) (ntc := d.ntc) (m := m) (Ac := d.A) ho hgd hd hx has r1 r2 (by rw [r3]; exact p1) (by rw [r3]; exact p2) (by rw [r4, r5]; exact ⟨p3, p4⟩) ?_
            rw [r3, r4, r5]
            refine hs.mono ?_
            rintro e1 s μ1 ⟨rfl, rfl, hb⟩
            refine ⟨rfl, rfl, hb.mono ?_⟩
            rintro e2 s _ ⟨rfl, e1, e2⟩
            rw [e1, e2, sf_upd (some yc) b _ _ _ rfl]; exact hn
        · cases h
    · exact plain2 h
theorem opsZ_ok {P : Program} {T : Ty} {rec : RecX} {yo : Option YC} {nt : Nat} {ops : Array Oper} {d : Rd} (hnt : nt ≤ 289) (hT : TyOk P T) (hr : RecOkX P rec) (hy : YOk P yo d) : ∀ (l : List Oper) (pe : AExit) (F : FX) (H : HX) (n : Nat) (k : AExit → FX → HX → Nat → Prop), opsZ T rec yo nt ops l pe F H n k →
    ∃ pe' F' H' n', k pe' F' H' n' ∧ ∀ n0 b m r μr, (yo ≠ none → RdOk d r) → SemLM P nt n0 ops l (fun s' μ' => μ' = MuOf yo d b m r pe' μr ∧ s' = ⟨sf yo b (frX F'), hpX H', n'⟩) ⟨sf yo b (frX F), hpX H, n⟩ (MuOf yo d b m r pe μr) := by
  intro l
  induction l with
  | nil => intro pe F H n k h; exact ⟨pe, F, H, n, h, fun n0 b m r μr _ => SemLM.nil ⟨rfl, rfl⟩⟩
  | cons o l ih =>
    intro pe F H n k h
    have h : Bool.rec (motive := fun _ => Prop) (stk 61) (gdZ nt ops (frX F) o (opZ T rec yo pe F H n o fun a H n pe => setOX F o.dst a fun F => opsZ T rec yo nt ops l pe F H n k) (setOX F o.dst (.cond false (.sc (.bool false))) fun F => opsZ T rec yo nt ops l pe F H n k)) (dstOk nt o.dst) := h
    cases hd : dstOk nt o.dst with
    | false => rw [hd] at h; cases h
    | true =>
      rw [hd] at h
      have h : gdZ nt ops (frX F) o (opZ T rec yo pe F H n o fun a H n pe => setOX F o.dst a fun F => opsZ T rec yo nt ops l pe F H n k) (setOX F o.dst (.cond false (.sc (.bool false))) fun F => opsZ T rec yo nt ops l pe F H n k) := h
      have hdlt := dstOk_lt hd
      have hd2 : ∀ t, o.dst = some t → t < 289 := fun t ht => Nat.lt_of_lt_of_le (hdlt t ht) hnt
      rcases gdZ_ok h with ⟨h, hg⟩ | ⟨h, j, want, t, hg, hj, ht, hb⟩
      · obtain ⟨a, H1, n1, pe1, h, hs⟩ := opZ_ok (ops := ops) (l := l) hT hr hy hd h
        obtain ⟨F1, hF, h⟩ := setOX_ok hd2 h
        obtain ⟨pe', F', H', n', hk, hsem⟩ := ih _ _ _ _ _ h
        refine ⟨pe', F', H', n', hk, fun n0 b m r μr hin => hs n0 b m r μr _ hin ?_ ?_⟩
        · intro c0 c H0 act g
          rcases hg with hgn | ⟨j, want, t, hg, hj, ht, hv⟩
          · simp [Region.wanted, hgn]
          · exact wanted_gd hg hj ht (gdS_sf yo b _ hv) g
        · rw [← hF]; exact hsem n0 b m r μr hin
      · obtain ⟨F1, hF, h⟩ := setOX_ok hd2 h
        obtain ⟨pe', F', H', n', hk, hsem⟩ := ih _ _ _ _ _ h
        refine ⟨pe', F', H', n', hk, fun n0 b m r μr hin => SemLM.skip hg hj ht (gdS_sf yo b _ hb) hdlt ?_⟩
        show SemLM P nt n0 ops l _ ⟨updO (sf yo b (frX F)) o.dst _, hpX H, n⟩ _
        rw [sf_upd yo b _ _ _ rfl, ← hF]; exact hsem n0 b m r μr hin
abbrev KZ := AExit → AExit → FX → HX → Nat → Prop
abbrev CY := Option YC → AExit → FX → HX → Nat → KZ → Prop
abbrev RecY := Option YC → RecX
noncomputable def zipX (ps : List Nat) : List AV → FX → (FX → Prop) → Prop :=
  List.rec (motive := fun _ => List AV → FX → (FX → Prop) → Prop) (fun _ F k => k F) (fun p _ ih as F k => List.rec (motive := fun _ => Prop) (k F) (fun a as _ => Bool.rec (motive := fun _ => Prop) (stk 121) (setX F p a fun F => ih as F k) (Nat.blt p 289)) as) ps
theorem zipX_ok : ∀ (ps : List Nat) (as : List AV) (F : FX) (k : FX → Prop), zipX ps as F k → ∃ F', frX F' = zipA ps as (frX F) ∧ k F' := by
  intro ps
  induction ps with
  | nil => intro as F k h; exact ⟨F, by cases as <;> rfl, h⟩
  | cons p ps ih =>
    intro as F k h
    cases as with
    | nil => exact ⟨F, rfl, h⟩
    | cons a as =>
      have h : Bool.rec (motive := fun _ => Prop) (stk 121) (setX F p a fun F => zipX ps as F k) (Nat.blt p 289) := h
      cases hp : Nat.blt p 289 with
      | false => rw [hp] at h; cases h
      | true =>
        rw [hp] at h
        have h : setX F p a (fun F => zipX ps as F k) := h
        rw [setX_eq] at h
        obtain ⟨F', h1, h2⟩ := ih _ _ _ h
        refine ⟨F', ?_, h2⟩
        rw [h1, frX_put F p (by simpa using hp)]; rfl
noncomputable def allLt (nt : Nat) (l : List Nat) : Bool := List.rec (motive := fun _ => Bool) true (fun p _ ih => Bool.rec (motive := fun _ => Bool) false ih (Nat.blt p nt)) l
theorem allLt_ok {nt : Nat} : ∀ l : List Nat, allLt nt l = true → ∀ p ∈ l, p < nt := by
  intro l
  induction l with
  | nil => intro _ p h; simp at h
  | cons a l ih =>
    intro h p hp
    have h : Bool.rec (motive := fun _ => Bool) false (allLt nt l) (Nat.blt a nt) = true := h
    cases ha : Nat.blt a nt with
    | false => rw [ha] at h; cases h
    | true =>
      rw [ha] at h
      rcases List.mem_cons.1 hp with rfl | hp
      · simpa using ha
      · exact ih h p hp
noncomputable def rndX (nt : Nat) (ps : List Nat) (assign body : CY) (F : FX) : YC := fun as H n k =>
  Bool.rec (motive := fun _ => Prop) (stk 124) (zipX ps as F fun F => assign none .normal F H n fun e _ F H n => nrm e (body none .normal F H n fun e _ _ H n => k e H n)) (Nat.beq as.length ps.length)
noncomputable def encP (e : AExit) : AV := AExit.rec (motive := fun _ => AV) (.tup []) (fun i => .ptr i 0 0) .nils e
noncomputable def decP (a : AV) (k : AExit → Prop) : Prop :=
  AV.casesOn (motive_1 := fun _ => (AExit → Prop) → Prop) a (fun _ => stk 135) (fun _ _ => stk 135) (fun k => k .ret) (fun _ _ => stk 135) (fun _ k => k .normal) (fun _ _ _ => stk 135) (fun _ _ _ _ => stk 135) (fun i _ _ k => k (.exit i)) (fun _ _ _ _ => stk 135) (fun _ _ _ => stk 135) (fun _ _ _ => stk 135) (fun _ _ _ => stk 135) (fun _ _ _ => stk 135) k
theorem decP_encP (e : AExit) (k : AExit → Prop) : decP (encP e) k = k e := by cases e <;> rfl
noncomputable def rfX (rec : RecY) (nt : Nat) (g : Operand) (ps : Array Nat) (ca cb : Code) (assign body : CY) : CY := fun yo pe F H n k =>
  Option.rec (motive := fun _ => Prop) (match evA (frX F) g with
    | .fn gf caps => Bool.rec (motive := fun _ => Prop) (stk 131) (rec (some (rndX nt ps.toList assign body F)) gf (sgn :: caps) H n fun a H n => decP a fun e => k e pe F H n) (Bool.not (topOnly ca) && (Bool.not (topOnly cb) && allLt nt ps.toList))
    | a => StkA 132 a) (fun _ => stk 133) yo
abbrev BZ := AExit → FX → HX → Nat → KZ → Prop
noncomputable def loopZ (b : BZ) (m : Nat) : BZ :=
  Nat.rec (motive := fun _ => BZ) (fun _ _ _ _ _ => stk 91) (fun _ ih pe F H n k => b pe F H n fun e pe F H n => AExit.rec (motive := fun _ => Prop) (ih pe F H n k) (fun i => k (.exit i) pe F H n) (k .ret pe F H n) e) m
noncomputable def clrX (m : Nat) : FX → (FX → Prop) → Prop :=
  Nat.rec (motive := fun _ => FX → (FX → Prop) → Prop) (fun F k => k F) (fun i ih F k => Bool.rec (motive := fun _ => Prop) (ih F k) (setX F i .junk fun F => ih F k) (isG (frX F i))) m
theorem clrX_ok : ∀ (m : Nat) (F : FX) (k : FX → Prop), m ≤ 289 → clrX m F k → ∃ F', k F' ∧ ∀ t, frX F' t = bif Nat.blt t m && isG (frX F t) then .junk else frX F t := by
  intro m
  induction m with
  | zero => intro F k _ h; exact ⟨F, h, fun t => rfl⟩
  | succ m ih =>
    intro F k hm h
    have h : Bool.rec (motive := fun _ => Prop) (clrX m F k) (setX F m .junk fun F => clrX m F k) (isG (frX F m)) := h
    cases hg : isG (frX F m) with
    | false =>
      rw [hg] at h
      obtain ⟨F', hk, hF⟩ := ih _ _ (by omega) h
      refine ⟨F', hk, fun t => ?_⟩
      rw [hF]
      by_cases ht : t = m
      · subst ht; rw [hg]; simp
      · have : Nat.blt t (m + 1) = Nat.blt t m := by
          rw [Bool.eq_iff_iff]; simp; omega
        rw [this]
    | true =>
      rw [hg] at h
      have h : setX F m .junk (fun F => clrX m F k) := h
      rw [setX_eq] at h
      obtain ⟨F', hk, hF⟩ := ih _ _ (by omega) h
      refine ⟨F', hk, fun t => ?_⟩
      rw [hF, frX_put F m (by omega)]
      by_cases ht : t = m
      · subst ht; rw [hg, upd_same, show Nat.blt t (t + 1) = true by simp]; simp
      · rw [upd_other _ _ ht]
        have : Nat.blt t (m + 1) = Nat.blt t m := by
          rw [Bool.eq_iff_iff]; simp; omega
        rw [this]
noncomputable def rstX (G : FX) (m : Nat) : FX → (FX → Prop) → Prop :=
  Nat.rec (motive := fun _ => FX → (FX → Prop) → Prop) (fun F k => k F) (fun i ih F k => Bool.rec (motive := fun _ => Prop) (Bool.rec (motive := fun _ => Prop) (ih F k) (stk 136) (isG (frX F i))) (setX F i sgn fun F => ih F k) (isG (frX G i))) m
theorem rstX_ok {G : FX} : ∀ (m : Nat) (F : FX) (k : FX → Prop), m ≤ 289 → rstX G m F k → ∃ F', k F' ∧ (∀ t, frX F' t = bif Nat.blt t m && isG (frX G t) then sgn else frX F t) ∧ ∀ t, t < m → isG (frX G t) = false → isG (frX F t) = false := by
  intro m
  induction m with
  | zero => intro F k _ h; exact ⟨F, h, fun t => rfl, fun t ht => by omega⟩
  | succ m ih =>
    intro F k hm h
    have h : Bool.rec (motive := fun _ => Prop) (Bool.rec (motive := fun _ => Prop) (rstX G m F k) (stk 136) (isG (frX F m))) (setX F m sgn fun F => rstX G m F k) (isG (frX G m)) := h
    have hb : ∀ t, t ≠ m → Nat.blt t (m + 1) = Nat.blt t m := fun t ht => by rw [Bool.eq_iff_iff]; simp; omega
    cases hg : isG (frX G m) with
    | false =>
      rw [hg] at h
      have h : Bool.rec (motive := fun _ => Prop) (rstX G m F k) (stk 136) (isG (frX F m)) := h
      cases hf : isG (frX F m) with
      | true => rw [hf] at h; cases h
      | false =>
        rw [hf] at h
        obtain ⟨F', hk, hF, hn⟩ := ih _ _ (by omega) h
        refine ⟨F', hk, fun t => ?_, fun t ht hgt => ?_⟩
        · rw [hF]
          by_cases ht : t = m
          · subst ht; rw [hg]; simp
          · rw [hb t ht]
        · by_cases h2 : t = m
          · subst h2; exact hf
          · exact hn t (by omega) hgt
    | true =>
      rw [hg] at h
      have h : setX F m sgn (fun F => rstX G m F k) := h
      rw [setX_eq] at h
      obtain ⟨F', hk, hF, hn⟩ := ih _ _ (by omega) h
      refine ⟨F', hk, fun t => ?_, fun t ht hgt => ?_⟩
      · rw [hF, frX_put F m (by omega)]
        by_cases ht : t = m
        · subst ht; rw [hg, upd_same, show Nat.blt t (t + 1) = true by simp]; simp
        · rw [upd_other _ _ ht, hb t ht]
      · by_cases h2 : t = m
        · subst h2; rw [hg] at hgt; cases hgt
        · have := hn t (by omega) hgt
          rw [frX_put F m (by omega), upd_other _ _ h2] at this; exact this
noncomputable def dstNo (F : FX) (l : List Oper) : Bool := List.rec (motive := fun _ => Bool) true (fun o _ ih => Option.rec (motive := fun _ => Bool) ih (fun d => Bool.rec (motive := fun _ => Bool) ih false (isG (frX F d))) o.dst) l
theorem dstNo_ok {F : FX} : ∀ l : List Oper, dstNo F l = true → ∀ o ∈ l, ∀ d, o.dst = some d → isG (frX F d) = false := by
  intro l
  induction l with
  | nil => intro _ o h; cases h
  | cons o l ih =>
    intro h q hq d hd
    have h : Option.rec (motive := fun _ => Bool) (dstNo F l) (fun d => Bool.rec (motive := fun _ => Bool) (dstNo F l) false (isG (frX F d))) o.dst = true := h
    have h2 : dstNo F l = true ∧ ∀ d, o.dst = some d → isG (frX F d) = false := by
      cases ho : o.dst with
      | none => rw [ho] at h; exact ⟨h, fun d hd => by cases hd⟩
      | some e =>
        rw [ho] at h
        have h : Bool.rec (motive := fun _ => Bool) (dstNo F l) false (isG (frX F e)) = true := h
        cases hg : isG (frX F e) with
        | true => rw [hg] at h; cases h
        | false => rw [hg] at h; exact ⟨h, fun d hd => by cases hd; exact hg⟩
    rcases List.mem_cons.1 hq with rfl | hq
    · exact h2.2 d hd
    · exact ih h2.1 q hq d hd
noncomputable def drY (T : Ty) (rec : RecX) (nt : Nat) (ops : Array Oper) (pe : AExit) (F : FX) (H : HX) (n : Nat) (k : KZ) : Prop :=
  Bool.rec (motive := fun _ => Prop) (stk 134) (clrX 289 F fun F0 => hzK ops.toList F0 fun hz => drX T rec hz nt n ops (masks ops.toList) ((masks ops.toList).zip (ops.toList.map hz)) ops.toList 0 F0 H [] fun F1 H => rstX F 289 F1 fun F2 => fN (n + ops.toList.length) fun n => k .normal pe F2 H n) (dstNo F ops.toList)
noncomputable def rootV (ops : List Oper) (n : Nat) : Operand → Option Operand :=
  Nat.rec (motive := fun _ => Operand → Option Operand) (fun _ => none) (fun _ ih x => match x with
    | .tmp t => match ops.find? (fun o => match o.dst with | some d => Nat.beq d t | none => false) with
      | none => some x
      | some o => match o.op with
        | .move y => ih y
        | .assign y => ih y
        | _ => none
    | _ => none) n
noncomputable def cut1 (ops : List Oper) (ev : Operand → AV) (o : Oper) (H : HX) (k : HX → Prop) : Prop :=
  match o.op with
  | .call { callee := .builtin .append, args := ⟨[s, _]⟩, argTypes := _ } => match rootV ops 6 s with
    | some x => match ev x with
      | .ref q 0 m => match hpX H q with
        | some y => Bool.rec (motive := fun _ => Prop) (k H) (fO sh { y with es := y.es.take m } fun y => storeH H q (some y) k) (Nat.blt m y.es.length)
        | none => k H
      | _ => k H
    | none => k H
  | _ => k H
noncomputable def cutD (ev : Operand → AV) (l : List Oper) : List Oper → HX → (HX → Prop) → Prop :=
  List.rec (motive := fun _ => List Oper → HX → (HX → Prop) → Prop) (fun _ H k => k H) (fun o _ ih pre H k => cut1 pre ev o H fun H => ih (o :: pre) H k) l
inductive Cut : Heap → Heap → Prop
  | refl {H} : Cut H H
  | step {H H' q y m} (hy : H q = some y) (h : Cut (upd H q (some { y with es := y.es.take m })) H') : Cut H H'
theorem Cut.trans {H H' H'' : Heap} (h : Cut H H') (k : Cut H' H'') : Cut H H'' := by
  induction h with
  | refl => exact k
  | step hy _ ih => exact .step hy (ih k)
theorem cutD_ok {ev : Operand → AV} : ∀ (l pre : List Oper) (H : HX) (k : HX → Prop), cutD ev l pre H k → ∃ H', Cut (hpX H) (hpX H') ∧ k H' := by
  intro l
  induction l with
  | nil => intro pre H k h; exact ⟨H, .refl, h⟩
  | cons o l ih =>
    intro pre H k h
    have h : cut1 pre ev o H (fun H => cutD ev l (o :: pre) H k) := h
    have same : cutD ev l (o :: pre) H k → ∃ H', Cut (hpX H) (hpX H') ∧ k H' := fun h => ih _ H k h
    unfold cut1 at h
    split at h
    · split at h
      · split at h
        · split at h
          · rename_i q m _ _ y hy
            cases hb : Nat.blt m y.es.length with
            | false => rw [hb] at h; exact same h
            | true =>
              rw [hb] at h
              have h : fO sh { y with es := y.es.take m } (fun y => storeH H q (some y) fun H => cutD ev l (o :: pre) H k) := h
              rw [fO_eq sh_eq] at h
              obtain ⟨H1, h1, h2⟩ := storeH_ok h
              obtain ⟨H', h3, h4⟩ := ih _ _ _ h2
              exact ⟨H', .step hy (by rw [← h1]; exact h3), h4⟩
          · exact same h
        · exact same h
      · exact same h
    · exact same h
theorem SemM.cutH {P : Program} {nt n0 n : Nat} {code : Code} {Q : AExit → St → Mu → Prop} {A : Nat → AV} {H H' : Heap} {μ : Mu} (hc : Cut H H') (h : SemM P nt n0 code Q ⟨A, H', n⟩ μ) : SemM P nt n0 code Q ⟨A, H, n⟩ μ := by
  induction hc with
  | refl => exact h
  | @step H H' q y m hy _ ih =>
    have h := ih h
    intro c0 H0 c act g hm
    refine h c0 H0 c act (g.trunc hy m) ⟨hm.is, fun p hp => ?_, hm.nodup, hm.ds⟩
    obtain ⟨a1, a2, a3, a4⟩ := hm.away p hp
    refine ⟨a1, a2, fun o x hx => ?_, a4⟩
    have hx : upd H q (some { y with es := y.es.take m }) o = some x := hx
    by_cases ho : o = q
    · subst ho; exact a3 o y hy
    · rw [upd_other _ _ ho] at hx; exact a3 o x hx
inductive Fz : (Nat → AV) → Heap → (Nat → AV) → Heap → Prop
  | refl {A H} : Fz A H A H
  | step {A H A' H' t q y} (ht : A t = .ref q 0 y.es.length) (hy : H q = some y) (hf : ∀ e ∈ y.es, ∀ a ∈ e.cells, ∃ v, a = .sc v) (h : Fz (upd A t (.list true y.es)) (upd H q none) A' H') : Fz A H A' H'
theorem SemM.fz {P : Program} {nt n0 n : Nat} {code : Code} {Q : AExit → St → Mu → Prop} {A A' : Nat → AV} {H H' : Heap} {μ : Mu} (hc : Fz A H A' H') (h : SemM P nt n0 code Q ⟨A', H', n⟩ μ) : SemM P nt n0 code Q ⟨A, H, n⟩ μ := by
  induction hc with
  | refl => exact h
  | @step A H A' H' t q y ht hy hf _ ih =>
    have h := ih h
    intro c0 H0 c act g hm R hR
    obtain ⟨c', hw, g', hfrz, hle, hρ, hSa, hSo⟩ := Good.frz g hy hf
    rw [← hw]
    refine h c0 H0 c' act ⟨g'.inv, g'.solo, fun t' => ?_, fun t' => ?_, g'.size, g'.reach, g'.le0⟩ ⟨fun p hp => (hm.is p hp).le (by rw [hw]) (hle _), fun p hp => ?_, hm.nodup, hm.ds⟩ R hR
    · show VRel c' false (upd A t (.list true y.es) t') _
      by_cases e : t' = t
      · subst e
        rw [upd_same]
        have := g.frame t'
        rw [show St.A ⟨A, H, n⟩ t' = _ from ht] at this
        exact hfrz this
      · rw [upd_other _ _ e]; exact g'.frame t'
    · show (upd A t (.list true y.es) t').Ok _
      by_cases e : t' = t
      · subst e; rw [upd_same]; exact .list
      · rw [upd_other _ _ e]; exact g'.ok t'
    · obtain ⟨a1, a2, a3, a4⟩ := hm.away p hp
      refine ⟨by rw [hSa]; exact a1, fun hs => (hSo _ hs).elim a2 fun e => a3 q y hy e.symm, fun o x hx => ?_, a4⟩
      have hx : upd H q none o = some x := hx
      rw [hρ]
      by_cases ho : o = q
      · subst ho; rw [upd_same] at hx; cases hx
      · rw [upd_other _ _ ho] at hx; exact a3 o x hx
noncomputable def r3L (ops : List Oper) : List Nat := ops.filterMap fun o => match o.op with
  | .slice _ x _ (some _) (some _) => match rootV ops 8 x with
    | some (.tmp t) => some t
    | _ => none
  | _ => none
noncomputable def fzD (l : List Nat) : FX → HX → (FX → HX → Prop) → Prop :=
  List.rec (motive := fun _ => FX → HX → (FX → HX → Prop) → Prop) (fun F H k => k F H) (fun t _ ih F H k => match frX F t with
    | .ref q 0 len => match hpX H q with
      | some y => bif Nat.blt t 289 && (Nat.beq y.es.length len && flB y.es) then fA (.list true y.es) fun a => setOX F (some t) a fun F => storeH H q none fun H => ih F H k else ih F H k
      | none => ih F H k
    | _ => ih F H k) l
theorem fzD_ok : ∀ (l : List Nat) (F : FX) (H : HX) (k : FX → HX → Prop), fzD l F H k → ∃ F' H', Fz (frX F) (hpX H) (frX F') (hpX H') ∧ k F' H' := by
  intro l
  induction l with
  | nil => intro F H k h; exact ⟨F, H, .refl, h⟩
  | cons t l ih =>
    intro F H k h
    have h : (match frX F t with
      | .ref q 0 len => match hpX H q with
        | some y => bif Nat.blt t 289 && (Nat.beq y.es.length len && flB y.es) then fA (.list true y.es) fun a => setOX F (some t) a fun F => storeH H q none fun H => fzD l F H k else fzD l F H k
        | none => fzD l F H k
      | _ => fzD l F H k) := h
    split at h
    · rename_i q len ht
      split at h
      · rename_i y hy
        cases hc : (Nat.blt t 289 && (Nat.beq y.es.length len && flB y.es)) with
        | false => rw [hc, cond_false] at h; exact ih _ _ _ h
        | true =>
          rw [hc, cond_true, fA_eq] at h
          simp only [Bool.and_eq_true, Nat.beq_eq] at hc
          obtain ⟨c1, rfl, c3⟩ := hc
          have c1 : t < 289 := by simpa using c1
          obtain ⟨F1, e1, h⟩ := setOX_ok (fun t' ht' => by cases ht'; exact c1) h
          obtain ⟨H1, e2, h⟩ := storeH_ok h
          obtain ⟨F', H', h1, h2⟩ := ih _ _ _ h
          refine ⟨F', H', .step ht hy (flB_ok c3) ?_, h2⟩
          rw [e1, e2] at h1
          exact h1
      · exact ih _ _ _ h
    · exact ih _ _ _ h
noncomputable def codeZ (T : Ty) (X : Nat → Option (List AV → Option AV)) (rec : RecY) (nt fuel : Nat) (c : Code) : CY :=
  Code.rec (motive := fun _ => CY) (fun _ pe F H n k => k .normal pe F H n)
    (fun _ ops draw yo pe F H n k => Bool.rec (motive := fun _ => Prop) (opsZ T (extR X (rec none)) yo nt ops ops.toList pe F H n fun pe F H n => k .normal pe F H n)
      (Bool.rec (motive := fun _ => Prop) (stk 94) (cutD (evA (frX F)) ops.toList [] H fun H => Option.rec (motive := fun _ => Prop) (fzD (r3L ops.toList) F H fun F H => hzK ops.toList F fun hz => drX T (rec none) hz nt n ops (masks ops.toList) ((masks ops.toList).zip (ops.toList.map hz)) ops.toList 0 F H [] fun F H => fN (n + ops.toList.length) fun n => k .normal pe F H n) (fun _ => drY T (rec none) nt ops pe F H n k) yo) (preLt 0 ops.toList)) draw)
    (fun _ _ iha ihb yo pe F H n k => iha yo pe F H n fun e pe F H n => AExit.rec (motive := fun _ => Prop) (ihb yo pe F H n k) (fun i => k (.exit i) pe F H n) (k .ret pe F H n) e)
    (fun c _ _ iha ihb yo pe F H n k => condX (evA (frX F) c) (iha yo pe F H n k) (ihb yo pe F H n k))
    (fun id _ ih yo pe F H n k => ih yo pe F H n fun e pe F H n => AExit.rec (motive := fun _ => Prop) (k .normal pe F H n) (fun i => Bool.rec (motive := fun _ => Prop) (k (.exit i) pe F H n) (k .normal pe F H n) (Nat.beq i id)) (k .ret pe F H n) e)
    (fun _ ih yo pe F H n k => loopZ (ih yo) fuel pe F H n k)
    (fun g ps ca cb iha ihb => rfX rec nt g ps ca cb iha ihb)
    (fun i _ pe F H n k => k (.exit i) pe F H n)
    (fun _ ih yo pe F H n k => ih yo pe F H n k) (fun _ _ pe F H n k => k .normal pe F H n) (fun _ _ _ _ _ _ _ => stk 96) (fun _ pe F H n k => k .ret pe F H n) (fun _ _ _ _ _ _ _ => stk 97) c
def IterOk (P : Program) (rec : RecY) : Prop := ∀ (yc : YC) f caps H n k d, YOk P (some yc) d → rec (some yc) f (sgn :: caps) H n k →
  ∃ fn code pe H' n', FnOk P f fn code ∧ fn.results = #[] ∧ caps.length + 1 ≤ fn.ntmps ∧ k (encP pe) H' n' ∧ ∀ b m r μr, RdOk d r →
    SemM P fn.ntmps n code (fun e s μ' => (∀ id, e ≠ .exit id) ∧ μ' = MuOf (some yc) d b m r pe μr ∧ s.H = hpX H' ∧ s.n = n') ⟨argA (yieldV b :: caps), hpX H, n⟩ (MuOf (some yc) d b m r .normal μr)
def Fix (c : Code) (yo : Option YC) : Prop := topOnly c = false ∨ yo ≠ none
def EndZ (yo : Option YC) (d : Rd) (c : Code) (b m : Nat) (r : Loop) (μr : Mu) (e : AExit) (pe' : AExit) (F' : FX) (H' : HX) (n' : Nat) : AExit → St → Mu → Prop :=
  fun e2 s μ' => e2 = e ∧ (∃ μr', (Fix c yo → μr' = μr) ∧ μ' = MuOf yo d b m r pe' μr') ∧ s = ⟨sf yo b (frX F'), hpX H', n'⟩
def SemZ (P : Program) (yo : Option YC) (d : Rd) (nt : Nat) (c : Code) (pe : AExit) (F : FX) (H : HX) (n : Nat) (e : AExit) (pe' : AExit) (F' : FX) (H' : HX) (n' : Nat) : Prop :=
  ∀ n0 b m r μr, (yo ≠ none → RdOk d r) → SemM P nt n0 c (EndZ yo d c b m r μr e pe' F' H' n') ⟨sf yo b (frX F), hpX H, n⟩ (MuOf yo d b m r pe μr)
theorem EndZ.here {yo : Option YC} {d : Rd} {c : Code} {b m : Nat} {r : Loop} {μr : Mu} {e pe : AExit} {F : FX} {H : HX} {n : Nat} : EndZ yo d c b m r μr e pe F H n e ⟨sf yo b (frX F), hpX H, n⟩ (MuOf yo d b m r pe μr) :=
  ⟨rfl, ⟨μr, fun _ => rfl, rfl⟩, rfl⟩
theorem EndZ.on {P : Program} {yo : Option YC} {d : Rd} {nt n0 : Nat} {c x y : Code} {b m : Nat} {r : Loop} {μr : Mu} {e pe : AExit} {F : FX} {H : HX} {n : Nat} {e' pe' : AExit} {F' : FX} {H' : HX} {n' : Nat} {μr1 : Mu}
    (hx : Fix c yo → μr1 = μr) (hy : Fix c yo → Fix y yo) (hin : yo ≠ none → RdOk d r) (h : SemZ P yo d nt y pe F H n e' pe' F' H' n') :
    SemM P nt n0 y (EndZ yo d c b m r μr e' pe' F' H' n') ⟨sf yo b (frX F), hpX H, n⟩ (MuOf yo d b m r pe μr1) := by
  refine (h n0 b m r μr1 hin).mono ?_
  rintro e2 s μ2 ⟨rfl, ⟨μr2, hf, rfl⟩, rfl⟩
  exact ⟨rfl, ⟨μr2, fun hc => (hf (hy hc)).trans (hx hc), rfl⟩, rfl⟩
inductive LoopZ (P : Program) (yo : Option YC) (d : Rd) (nt : Nat) (b : Code) (e : AExit) (pe' : AExit) (F' : FX) (H' : HX) (n' : Nat) : Nat → AExit → FX → HX → Nat → Prop
  | more {m pe F H n pe1 F1 H1 n1} (h : SemZ P yo d nt b pe F H n .normal pe1 F1 H1 n1) (hs : LoopZ P yo d nt b e pe' F' H' n' m pe1 F1 H1 n1) : LoopZ P yo d nt b e pe' F' H' n' (m + 1) pe F H n
  | last {m pe F H n} (h : SemZ P yo d nt b pe F H n e pe' F' H' n') (hne : e ≠ .normal) : LoopZ P yo d nt b e pe' F' H' n' (m + 1) pe F H n
theorem LoopZ.sem {P : Program} {yo : Option YC} {d : Rd} {nt : Nat} {c : Code} {e : AExit} {pe' : AExit} {F' : FX} {H' : HX} {n' : Nat} {k : Nat} {pe : AExit} {F : FX} {H : HX} {n : Nat} (h : LoopZ P yo d nt c e pe' F' H' n' k pe F H n) :
    ∀ n0 b m r μr, (yo ≠ none → RdOk d r) → SemLoop P nt n0 c (EndZ yo d c b m r μr e pe' F' H' n') ⟨sf yo b (frX F), hpX H, n⟩ (MuOf yo d b m r pe μr) := by
  induction h with
  | more h _ ih =>
    intro n0 b m r μr hin
    refine SemLoop.round ((h n0 b m r μr hin).mono ?_)
    rintro e2 s μ1 ⟨rfl, ⟨μr1, hf, rfl⟩, rfl⟩
    have := ih n0 b m r μr1 hin
    intro c0 H0 c act g hm R hR
    have h2 := this c0 H0 c act g hm R hR
    intro b' k cs hro
    obtain ⟨e, a', w', hq, harr⟩ := h2 b' k cs hro
    obtain ⟨c', s', ae, μ', e1, e2, e3, e4, e5, ⟨μr2, e6, e7⟩, e8⟩ := hq
    exact ⟨e, a', w', ⟨c', s', ae, μ', e1, e2, e3, e4, e5, ⟨μr2, fun hx => (e6 hx).trans (hf hx), e7⟩, e8⟩, harr⟩
  | last h hne =>
    intro n0 b m r μr hin
    refine SemLoop.round ((h n0 b m r μr hin).mono ?_)
    rintro e2 s μ1 ⟨rfl, hf, rfl⟩
    cases e2 with
    | normal => exact absurd rfl hne
    | exit id => exact ⟨rfl, hf, rfl⟩
    | ret => exact ⟨rfl, hf, rfl⟩
theorem codeZ_ok {P : Program} {T : Ty} {X : Nat → Option (List AV → Option AV)} {rec : RecY} {nt fuel : Nat} (hm : P.follows .mixedOrders = true) (hnt : nt ≤ 289) (hX : ExtOk P X) (hT : TyOk P T) (hr : RecOk P (rec none)) (hit : IterOk P rec) : ∀ (code : Code) (yo : Option YC) (d : Rd) (pe : AExit) (F : FX) (H : HX) (n : Nat) (k : KZ), YOk P yo d → codeZ T X rec nt fuel code yo pe F H n k →
    ∃ e pe' F' H' n', k e pe' F' H' n' ∧ SemZ P yo d nt code pe F H n e pe' F' H' n' := by
  intro code
  induction code with
  | skip => intro yo d pe F H n k hy h; exact ⟨.normal, pe, F, H, n, h, fun n0 b m r μr _ => SemM.skip .here⟩
  | label l => intro yo d pe F H n k hy h; exact ⟨.normal, pe, F, H, n, h, fun n0 b m r μr _ => SemM.label .here⟩
  | exit id => intro yo d pe F H n k hy h; exact ⟨.exit id, pe, F, H, n, h, fun n0 b m r μr _ => SemM.exit .here⟩
  | ret => intro yo d pe F H n k hy h; exact ⟨.ret, pe, F, H, n, h, fun n0 b m r μr _ => SemM.ret .here⟩
  | seq x y iha ihb =>
    intro yo d pe F H n k hy h
    have h : codeZ T X rec nt fuel x yo pe F H n (fun e pe F H n => AExit.rec (motive := fun _ => Prop) (codeZ T X rec nt fuel y yo pe F H n k) (fun i => k (.exit i) pe F H n) (k .ret pe F H n) e) := h
    obtain ⟨e, pe1, F1, H1, n1, h1, s1⟩ := iha _ _ _ _ _ _ _ hy h
    have fx : Fix (.seq x y) yo → Fix x yo := fun hf => hf.imp (fun h => by simp only [topOnly, Bool.or_eq_false_iff] at h; exact h.1) id
    have fy : Fix (.seq x y) yo → Fix y yo := fun hf => hf.imp (fun h => by simp only [topOnly, Bool.or_eq_false_iff] at h; exact h.2) id
    cases e with
    | normal =>
      obtain ⟨e, pe2, F2, H2, n2, h2, s2⟩ := ihb _ _ _ _ _ _ _ hy h1
      refine ⟨e, pe2, F2, H2, n2, h2, fun n0 b m r μr hin => SemM.seq ((s1 n0 b m r μr hin).mono ?_)⟩
      rintro e' s μ1 ⟨rfl, ⟨μr1, hf, rfl⟩, rfl⟩
      exact EndZ.on (x := x) (e := e) (fun hc => hf (fx hc)) fy hin s2
    | exit i =>
      refine ⟨.exit i, pe1, F1, H1, n1, h1, fun n0 b m r μr hin => SemM.seq ((s1 n0 b m r μr hin).mono ?_)⟩
      rintro e' s μ1 ⟨rfl, ⟨μr1, hf, rfl⟩, rfl⟩
      exact ⟨rfl, ⟨μr1, fun hx => hf (fx hx), rfl⟩, rfl⟩
    | ret =>
      refine ⟨.ret, pe1, F1, H1, n1, h1, fun n0 b m r μr hin => SemM.seq ((s1 n0 b m r μr hin).mono ?_)⟩
      rintro e' s μ1 ⟨rfl, ⟨μr1, hf, rfl⟩, rfl⟩
      exact ⟨rfl, ⟨μr1, fun hx => hf (fx hx), rfl⟩, rfl⟩
  | cond x p q iha ihb =>
    intro yo d pe F H n k hy h
    have h : condX (evA (frX F) x) (codeZ T X rec nt fuel p yo pe F H n k) (codeZ T X rec nt fuel q yo pe F H n k) := h
    have fx : Fix (.cond x p q) yo → Fix p yo := fun hf => hf.imp (fun h => by simp only [topOnly, Bool.or_eq_false_iff] at h; exact h.1) id
    have fy : Fix (.cond x p q) yo → Fix q yo := fun hf => hf.imp (fun h => by simp only [topOnly, Bool.or_eq_false_iff] at h; exact h.2) id
    rcases condX_ok h with ⟨hx, h⟩ | ⟨hx, h⟩
    · obtain ⟨e, pe1, F1, H1, n1, h1, s1⟩ := iha _ _ _ _ _ _ _ hy h
      refine ⟨e, pe1, F1, H1, n1, h1, fun n0 b m r μr hin => SemM.cond (s := ⟨sf yo b (frX F), hpX H, n⟩) (t := true) ?_ (fun _ => (s1 n0 b m r μr hin).mono ?_) (fun h => by cases h)⟩
      · show evA (sf yo b (frX F)) x = _
        rw [evA_sf (by rw [hx]; simp)]; exact hx
      · rintro e' s μ1 ⟨rfl, ⟨μr1, hf, rfl⟩, rfl⟩
        exact ⟨rfl, ⟨μr1, fun hx => hf (fx hx), rfl⟩, rfl⟩
    · obtain ⟨e, pe1, F1, H1, n1, h1, s1⟩ := ihb _ _ _ _ _ _ _ hy h
      refine ⟨e, pe1, F1, H1, n1, h1, fun n0 b m r μr hin => SemM.cond (s := ⟨sf yo b (frX F), hpX H, n⟩) (t := false) ?_ (fun h => by cases h) (fun _ => (s1 n0 b m r μr hin).mono ?_)⟩
      · show evA (sf yo b (frX F)) x = _
        rw [evA_sf (by rw [hx]; simp)]; exact hx
      · rintro e' s μ1 ⟨rfl, ⟨μr1, hf, rfl⟩, rfl⟩
        exact ⟨rfl, ⟨μr1, fun hx => hf (fy hx), rfl⟩, rfl⟩
  | block id c ih =>
    intro yo d pe F H n k hy h
    have h : codeZ T X rec nt fuel c yo pe F H n (fun e pe F H n => AExit.rec (motive := fun _ => Prop) (k .normal pe F H n) (fun i => Bool.rec (motive := fun _ => Prop) (k (.exit i) pe F H n) (k .normal pe F H n) (Nat.beq i id)) (k .ret pe F H n) e) := h
    obtain ⟨e, pe1, F1, H1, n1, h1, s1⟩ := ih _ _ _ _ _ _ _ hy h
    cases e with
    | normal =>
      refine ⟨.normal, pe1, F1, H1, n1, h1, fun n0 b m r μr hin => SemM.block ((s1 n0 b m r μr hin).mono ?_)⟩
      rintro e' s μ1 ⟨rfl, hf, rfl⟩
      exact ⟨rfl, hf, rfl⟩
    | ret =>
      refine ⟨.ret, pe1, F1, H1, n1, h1, fun n0 b m r μr hin => SemM.block ((s1 n0 b m r μr hin).mono ?_)⟩
      rintro e' s μ1 ⟨rfl, hf, rfl⟩
      exact ⟨rfl, hf, rfl⟩
    | exit i =>
      have h1 : Bool.rec (motive := fun _ => Prop) (k (.exit i) pe1 F1 H1 n1) (k .normal pe1 F1 H1 n1) (Nat.beq i id) := h1
      cases hb : Nat.beq i id with
      | true =>
        rw [hb] at h1
        refine ⟨.normal, pe1, F1, H1, n1, h1, fun n0 b m r μr hin => SemM.block ((s1 n0 b m r μr hin).mono ?_)⟩
        rintro e' s μ1 ⟨rfl, hf, rfl⟩
        show bif Nat.beq i id then _ else _
        rw [hb]
        exact ⟨rfl, hf, rfl⟩
      | false =>
        rw [hb] at h1
        refine ⟨.exit i, pe1, F1, H1, n1, h1, fun n0 b m r μr hin => SemM.block ((s1 n0 b m r μr hin).mono ?_)⟩
        rintro e' s μ1 ⟨rfl, hf, rfl⟩
        show bif Nat.beq i id then _ else _
        rw [hb]
        exact ⟨rfl, hf, rfl⟩
  | loop c ih =>
    intro yo d pe F H n k hy h
    have h : loopZ (codeZ T X rec nt fuel c yo) fuel pe F H n k := h
    have key : ∀ m pe F H n, loopZ (codeZ T X rec nt fuel c yo) m pe F H n k → ∃ e pe' F' H' n', k e pe' F' H' n' ∧ LoopZ P yo d nt c e pe' F' H' n' m pe F H n := by
      intro m
      induction m with
      | zero => intro pe F H n h; cases h
      | succ m ihm =>
        intro pe F H n h
        have h : codeZ T X rec nt fuel c yo pe F H n (fun e pe F H n => AExit.rec (motive := fun _ => Prop) (loopZ (codeZ T X rec nt fuel c yo) m pe F H n k) (fun i => k (.exit i) pe F H n) (k .ret pe F H n) e) := h
        obtain ⟨e, pe1, F1, H1, n1, h1, s1⟩ := ih _ _ _ _ _ _ _ hy h
        cases e with
        | normal =>
          obtain ⟨e, pe2, F2, H2, n2, h2, s2⟩ := ihm _ _ _ _ h1
          exact ⟨e, pe2, F2, H2, n2, h2, .more s1 s2⟩
        | exit i => exact ⟨_, pe1, F1, H1, n1, h1, .last s1 (by simp)⟩
        | ret => exact ⟨_, pe1, F1, H1, n1, h1, .last s1 (by simp)⟩
    obtain ⟨e, pe', F', H', n', hk, hl⟩ := key _ _ _ _ _ h
    exact ⟨e, pe', F', H', n', hk, fun n0 b m r μr hin => SemM.loop (hl.sem n0 b m r μr hin)⟩
  | scope c ih =>
    intro yo d pe F H n k hy h
    obtain ⟨e, pe1, F1, H1, n1, h1, s1⟩ := ih yo d pe F H n k hy h
    refine ⟨e, pe1, F1, H1, n1, h1, fun n0 b m r μr hin => SemM.scope ((s1 n0 b m r μr hin).mono ?_)⟩
    rintro e' s μ1 ⟨rfl, ⟨μr1, hf, rfl⟩, rfl⟩
    exact ⟨rfl, ⟨μr1, fun hx => hf (hx.imp (fun h => by cases h) id), rfl⟩, rfl⟩
  | region id ops draw =>
    intro yo d pe F H n k hy h
    cases draw with
    | false =>
      have h : opsZ T (extR X (rec none)) yo nt ops ops.toList pe F H n (fun pe F H n => k .normal pe F H n) := h
      obtain ⟨pe', F', H', n', hk, hs⟩ := opsZ_ok hnt hT (extR_ok hX hr) hy _ _ _ _ _ _ h
      refine ⟨.normal, pe', F', H', n', hk, fun n0 b m r μr hin => SemM.region ?_⟩
      intro c0 H0 c act g hmo Qx hQ
      exact hs n0 b m r μr hin c0 H0 c act g hmo Qx fun c' s' act' μ' g' hm' hq => hQ c' s' act' μ' g' hm' ⟨rfl, ⟨μr, fun _ => rfl, hq.1⟩, hq.2⟩
    | true =>
      cases hp : preLt 0 ops.toList with
      | false =>
        have h : Bool.rec (motive := fun _ => Prop) (stk 94) (cutD (evA (frX F)) ops.toList [] H fun H => Option.rec (motive := fun _ => Prop) (fzD (r3L ops.toList) F H fun F H => hzK ops.toList F fun hz => drX T (rec none) hz nt n ops (masks ops.toList) ((masks ops.toList).zip (ops.toList.map hz)) ops.toList 0 F H [] fun F H => fN (n + ops.toList.length) fun n => k .normal pe F H n) (fun _ => drY T (rec none) nt ops pe F H n k) yo) (preLt 0 ops.toList) := h
        rw [hp] at h; cases h
      | true =>
        have h : Bool.rec (motive := fun _ => Prop) (stk 94) (cutD (evA (frX F)) ops.toList [] H fun H => Option.rec (motive := fun _ => Prop) (fzD (r3L ops.toList) F H fun F H => hzK ops.toList F fun hz => drX T (rec none) hz nt n ops (masks ops.toList) ((masks ops.toList).zip (ops.toList.map hz)) ops.toList 0 F H [] fun F H => fN (n + ops.toList.length) fun n => k .normal pe F H n) (fun _ => drY T (rec none) nt ops pe F H n k) yo) (preLt 0 ops.toList) := h
        rw [hp] at h
        obtain ⟨Hc, hcut, h⟩ := cutD_ok _ _ _ _ h
        cases yo with
        | some y =>
          have h : drY T (rec none) nt ops pe F Hc n k := h
          unfold drY at h
          cases hds : dstNo F ops.toList with
          | false => rw [hds] at h; cases h
          | true =>
            rw [hds] at h
            obtain ⟨F0, h, hF0⟩ := clrX_ok 289 _ _ (Nat.le_refl _) h
            obtain ⟨hz, h⟩ := hzK_ok h
            obtain ⟨F1, H', h, hrun⟩ := drX_ok hnt hr _ _ _ _ _ _ h
            obtain ⟨F2, hk, hF2, hno⟩ := rstX_ok 289 _ _ (Nat.le_refl _) h
            rw [fN_eq] at hk
            have lo : ∀ t, isG (frX F t) = true → Nat.blt t 289 = true := by
              intro t ht
              cases hb : Nat.blt t 289 with
              | true => rfl
              | false =>
                rw [frX_eq] at ht
                have : Nat.ble 289 t = true := by
                  have h1 : ¬ Nat.blt t 289 = true := by rw [hb]; simp
                  simp at h1 ⊢; omega
                rw [this] at ht; cases ht
            refine ⟨.normal, pe, F2, H', _, hk, fun n0 b m r μr _ => SemM.cutH hcut (SemM.of (SemC.drawnK (A := sf (some y) b (frX F)) (A0 := frX F0) (keep := fun t => isG (frX F t)) hm hT hp (dstNo_ok _ hds) (fun t => ?_) hrun ⟨rfl, ⟨μr, fun _ => rfl, rfl⟩, ?_⟩))⟩
            · rw [hF0]
              show _ = sfA b (frX F) t ∨ _
              unfold sfA
              cases hg : isG (frX F t) with
              | true => rw [lo t hg]; exact .inr rfl
              | false => rw [Bool.and_false]; exact .inl rfl
            · congr 1
              funext t
              show (bif isG (frX F t) then sfA b (frX F) t else frX F1 t) = sfA b (frX F2) t
              unfold sfA
              rw [hF2]
              cases hg : isG (frX F t) with
              | true => rw [lo t hg]; rfl
              | false =>
                rw [Bool.and_false, cond_false, cond_false]
                cases hb : Nat.blt t 289 with
                | true => rw [hno t (by simpa using hb) hg]; rfl
                | false =>
                  have : frX F1 t = .sc undef := by
                    rw [frX_eq]
                    have : Nat.ble 289 t = true := by
                      have h1 : ¬ Nat.blt t 289 = true := by rw [hb]; simp
                      simp at h1 ⊢; omega
                    rw [this]; rfl
                  rw [this]; rfl
        | none =>
          obtain ⟨Ff, Hf, hfz, h⟩ := fzD_ok _ _ _ _ h
          obtain ⟨hz, h⟩ := hzK_ok h
          obtain ⟨F', H', hk, hrun⟩ := drX_ok hnt hr _ _ _ _ _ _ h
          rw [fN_eq] at hk
          exact ⟨.normal, pe, F', H', _, hk, fun n0 b m r μr _ => SemM.cutH hcut (SemM.fz hfz (SemM.of (SemC.drawn (s := ⟨frX Ff, hpX Hf, n⟩) hm hT hp hrun ⟨rfl, ⟨μr, fun _ => rfl, rfl⟩, rfl⟩)))⟩
  | rangeFunc g ps ca cb iha ihb =>
    intro yo d pe F H n k hy h
    have h : rfX rec nt g ps ca cb (codeZ T X rec nt fuel ca) (codeZ T X rec nt fuel cb) yo pe F H n k := h
    cases yo with
    | some y => cases h
    | none =>
      have h : (match evA (frX F) g with
        | .fn gf caps => Bool.rec (motive := fun _ => Prop) (stk 131) (rec (some (rndX nt ps.toList (codeZ T X rec nt fuel ca) (codeZ T X rec nt fuel cb) F)) gf (sgn :: caps) H n fun a H n => decP a fun e => k e pe F H n) (Bool.not (topOnly ca) && (Bool.not (topOnly cb) && allLt nt ps.toList))
        | a => StkA 132 a) := h
      split at h
      · rename_i gf caps hg
        cases hc : (Bool.not (topOnly ca) && (Bool.not (topOnly cb) && allLt nt ps.toList)) with
        | false => rw [hc] at h; cases h
        | true =>
          rw [hc] at h
          simp only [Bool.and_eq_true, Bool.not_eq_true'] at hc
          obtain ⟨c1, c2, c3⟩ := hc
          let d2 : Rd := ⟨ps, ca, cb, nt, frX F⟩
          have hyc : YOk P (some (rndX nt ps.toList (codeZ T X rec nt fuel ca) (codeZ T X rec nt fuel cb) F)) d2 := by
            intro yc he
            cases he
            intro as H n k h
            have h : Bool.rec (motive := fun _ => Prop) (stk 124) (zipX ps.toList as F fun F => codeZ T X rec nt fuel ca none .normal F H n fun e _ F H n => nrm e (codeZ T X rec nt fuel cb none .normal F H n fun e _ _ H n => k e H n)) (Nat.beq as.length ps.toList.length) := h
            cases hl : Nat.beq as.length ps.toList.length with
            | false => rw [hl] at h; cases h
            | true =>
              rw [hl] at h
              obtain ⟨F1, hF, h⟩ := zipX_ok _ _ _ _ h
              obtain ⟨e, pe2, F2, H2, n2, h, s1⟩ := iha none d2 _ _ _ _ _ (fun _ h => by cases h) h
              obtain ⟨rfl, h⟩ := nrm_ok h
              obtain ⟨e, pe3, F3, H3, n3, h, s2⟩ := ihb none d2 _ _ _ _ _ (fun _ h => by cases h) h
              refine ⟨by simpa using hl, allLt_ok _ c3, c1, c2, e, H3, n3, h, ?_⟩
              have r0 : ∀ r, ((none : Option YC) ≠ none → RdOk d2 r) := fun r h => absurd rfl h
              have e1 := s1 n 0 0 { state := .ready, pending := none, fn := 0, tmps := #[], params := ps, assign := ca, body := cb, defers := 0 } [] (r0 _)
              rw [show sf none 0 (frX F1) = zipA ps.toList as (frX F) from hF] at e1
              refine e1.mono ?_
              rintro e1 s μ1 ⟨rfl, ⟨μr1, hf, rfl⟩, rfl⟩
              refine ⟨rfl, hf (.inl c1), (s2 n 0 0 { state := .ready, pending := none, fn := 0, tmps := #[], params := ps, assign := ca, body := cb, defers := 0 } [] (r0 _)).mono ?_⟩
              rintro e2 s μ1 ⟨rfl, hf, rfl⟩
              exact ⟨rfl, rfl, rfl⟩
          obtain ⟨fn, codeI, pe1, H', n', hfn, hres, hle, hk, hs⟩ := hit _ _ _ _ _ _ d2 hyc h
          rw [decP_encP] at hk
          refine ⟨pe1, pe, F, H', n', hk, fun n0 b m r μr _ => ?_⟩
          refine SemM.rangeFunc hg hfn rfl hle hres ?_
          intro b D r r1 r2 r3 r4 r5
          have := hs b n r [(D, .blk (.deferred (some [])))] ⟨r1, r2, r3, r4, r5⟩
          rw [show MuOf (some (rndX nt ps.toList (codeZ T X rec nt fuel ca) (codeZ T X rec nt fuel cb) F)) d2 b n r .normal [(D, .blk (.deferred (some [])))] = [(b, .loop r nt n (frX F)), (D, .blk (.deferred (some [])))] from by show [(b, MuE.loop (setP r .normal) nt n (frX F)), _] = _; rw [setP_normal r1 r2]] at this
          refine this.mono ?_
          rintro e s μ1 ⟨he, rfl, e1, e2⟩
          refine ⟨he, pe1, rfl, rfl, ⟨(D, .mark) :: μr, fun hf => ?_, rfl⟩, ?_⟩
          · rcases hf with hf | hf
            · cases hf
            · exact absurd rfl hf
          · rw [e1, e2]
      · cases h
  | _ => intro yo d pe F H n k hy h; cases h
noncomputable def noG (l : List AV) : Bool := List.rec (motive := fun _ => Bool) true (fun a _ ih => Bool.rec (motive := fun _ => Bool) ih false (isG a)) l
theorem noG_ok : ∀ l : List AV, noG l = true → ∀ a ∈ l, isG a = false := by
  intro l
  induction l with
  | nil => intro _ a h; simp at h
  | cons b l ih =>
    intro h a ha
    have h : Bool.rec (motive := fun _ => Bool) (noG l) false (isG b) = true := h
    cases hb : isG b with
    | true => rw [hb] at h; cases h
    | false =>
      rw [hb] at h
      rcases List.mem_cons.1 ha with rfl | ha
      · exact hb
      · exact ih h a ha
noncomputable def retY (T : Ty) (l : List ResultVar) (yo : Option YC) (pe : AExit) (F : FX) (H : HX) (n : Nat) (k : AV → HX → Nat → Prop) : Prop :=
  Option.rec (motive := fun _ => Prop) (retX T l F H n k) (fun _ => List.rec (motive := fun _ => Prop) (k (encP pe) H n) (fun _ _ _ => stk 141) l) yo
noncomputable def argOk (as : List AV) (yo : Option YC) : Bool := Option.rec (motive := fun _ => Bool) true (fun _ => noG as.tail) yo
noncomputable def stepY (T : Ty) (X : Nat → Option (List AV → Option AV)) (E : Env) (fuel : Nat) (rec : RecY) : RecY := fun yo f as H n k =>
    match E f with
    | some (fn, code) => Bool.rec (motive := fun _ => Prop) (stk 103) (argX as 0 f4 fun F => codeZ T X rec fn.ntmps fuel code yo .normal F H n fun e pe F H n =>
        AExit.rec (motive := fun _ => Prop) (retY T fn.results.toList yo pe F H n k) (fun _ => stk 104) (retY T fn.results.toList yo pe F H n k) e) (argOk as yo && (Nat.ble as.length fn.ntmps && Nat.ble fn.ntmps 289))
    | none => stk (1000 + f)
abbrev Memo := List (List AV × AV)
noncomputable def findM (l : Memo) (bs : List AV) : Option AV :=
  List.rec (motive := fun _ => Option AV) none (fun p _ ih => Bool.rec (motive := fun _ => Option AV) ih (some p.2) (eqL (eqA 60) p.1 bs)) l
theorem findM_ok {bs : List AV} {r : AV} : ∀ l : Memo, findM l bs = some r → (bs, r) ∈ l := by
  intro l
  induction l with
  | nil => intro h; cases h
  | cons p l ih =>
    intro h
    have h : Bool.rec (motive := fun _ => Option AV) (findM l bs) (some p.2) (eqL (eqA 60) p.1 bs) = some r := h
    cases hb : eqL (eqA 60) p.1 bs with
    | false => rw [hb] at h; exact List.mem_cons_of_mem _ (ih h)
    | true =>
      rw [hb] at h
      have h : some p.2 = some r := h
      cases h
      rw [← eqL_ok (eqA_ok 60) _ _ hb]
      exact List.mem_cons_self
noncomputable def meX (M : Nat → Option Memo) (nx : RecX) : RecX := fun f as H n k =>
  match M f with
  | none => nx f as H n k
  | some l => match mapO (cvF false noH 100) as with
    | some bs => fDs bs fun bs => match findM l bs with
      | none => nx f as H n k
      | some r => k r H n
    | none => match mapO (cvF false (hpX H) 100) as with
      | none => nx f as H n k
      | some bs => fDs bs fun bs => match findM l bs with
        | none => nx f as H n k
        | some r => Bool.rec (motive := fun _ => Prop) (nx f as H n k) (k r H n) (ownF 60 r)
def MemoOk (P : Program) (M : Nat → Option Memo) : Prop := ∀ f l, M f = some l → ∀ p ∈ l, Pure P f p.1 p.2
theorem meX_ok {P : Program} {M : Nat → Option Memo} {nx : RecX} (hM : MemoOk P M) (hn : RecOk P nx) : RecOk P (meX M nx) := by
  intro f as H n k h
  unfold meX at h
  split at h
  · exact hn _ _ _ _ _ h
  · rename_i l hf
    split at h
    · rename_i bs hm
      rw [fDs_eq] at h
      split at h
      · exact hn _ _ _ _ _ h
      · rename_i r hr
        have h1 := hM f l hf _ (findM_ok l hr)
        obtain ⟨m1, m2⟩ := mapO_ok hm
        exact ⟨r, H, n, HC.of_pure (H := hpX H) (Hr := noH) (n := n) h1 ⟨m1, fun i a b ha hb => cvF_ok _ _ _ (m2 i a b ha hb)⟩ (fun _ _ h => by cases h) (.inr fun _ => rfl), h⟩
    · split at h
      · exact hn _ _ _ _ _ h
      · rename_i bs hm
        rw [fDs_eq] at h
        split at h
        · exact hn _ _ _ _ _ h
        · rename_i r hr
          have h1 := hM f l hf _ (findM_ok l hr)
          obtain ⟨m1, m2⟩ := mapO_ok hm
          cases ho : ownF 60 r with
          | false => rw [ho] at h; exact hn _ _ _ _ _ h
          | true =>
            rw [ho] at h
            exact ⟨r, H, n, HC.of_pure (H := hpX H) (n := n) h1 ⟨m1, fun i a b ha hb => cvF_ok _ _ _ (m2 i a b ha hb)⟩ (fun _ _ h => h) (.inl (ownF_ok _ _ ho)), h⟩
def AllM (P : Program) (f : Nat) : Memo → Prop
  | [] => True
  | p :: l => Pure P f p.1 p.2 ∧ AllM P f l
theorem allM_ok {P : Program} {f : Nat} : ∀ l : Memo, AllM P f l → ∀ p ∈ l, Pure P f p.1 p.2 := by
  intro l
  induction l with
  | nil => intro _ p h; cases h
  | cons q l ih =>
    intro h p hp
    rcases List.mem_cons.1 hp with rfl | hp
    · exact h.1
    · exact ih h.2 p hp
theorem memoOk_tab {P : Program} {t : Tab Memo} (h : t.All (AllM P)) : MemoOk P t.find := fun k l hf => allM_ok l (t.find_all h k l hf)
def all2 (f : AV → AV → Bool) : List AV → List AV → Bool
  | [], [] => true
  | a :: l, b :: m => f a b && all2 f l m
  | _, _ => false
theorem all2_ok {f : AV → AV → Bool} : ∀ {l m : List AV}, all2 f l m = true → l.length = m.length ∧ ∀ (i : Nat) a b, l[i]? = some a → m[i]? = some b → f a b = true := by
  intro l
  induction l with
  | nil => intro m h; cases m with
    | nil => exact ⟨rfl, fun i a b ha => by simp at ha⟩
    | cons b m => cases h
  | cons a l ih => intro m h; cases m with
    | nil => cases h
    | cons b m =>
      simp only [all2, Bool.and_eq_true] at h
      obtain ⟨h1, h2⟩ := ih h.2
      refine ⟨by simp [h1], fun i x y hx hy => ?_⟩
      cases i with
      | zero => simp at hx hy; subst hx hy; exact h.1
      | succ i => exact h2 i x y (by simpa using hx) (by simpa using hy)
noncomputable def wkB : Nat → AV → AV → Bool
  | 0, _, _ => false
  | n + 1, a, b => match a, b with
    | .list o es, .list o' es' => (!o' || o) && all2 (fun e e' => all2 (wkB n) e.cells e'.cells) es es'
    | .agg cs, .agg cs' => all2 (wkB n) cs cs'
    | .tup cs, .tup cs' => all2 (wkB n) cs cs'
    | .nils, .list _ [] => true
    | a, b => eqA 60 a b
theorem wkB_ok {c : Ctx} : ∀ (n : Nat) (a b : AV) (d : Bool) (v : Value), wkB n a b = true → VRel c d a v → VRel c d b v := by
  intro n
  induction n with
  | zero => intro a b d v h; cases h
  | succ n ih =>
    intro a b d v h hr
    unfold wkB at h
    split at h
    · rename_i o es o' es'
      simp only [Bool.and_eq_true, Bool.or_eq_true, Bool.not_eq_true'] at h
      obtain ⟨ho, h⟩ := h
      obtain ⟨hl, hE⟩ := all2_ok h
      have hback : ∀ (i : Nat) e', es'[i]? = some e' → ∃ e, es[i]? = some e ∧ e.cells.length = e'.cells.length ∧ ∀ (k : Nat) x', e'.cells[k]? = some x' → ∃ x, e.cells[k]? = some x ∧ wkB n x x' = true := fun i e' he' => by
        have hlt : i < es.length := by rw [hl]; exact (List.getElem?_eq_some_iff.1 he').1
        obtain ⟨g1, g2⟩ := all2_ok (hE i _ e' (List.getElem?_eq_getElem hlt) he')
        refine ⟨_, List.getElem?_eq_getElem hlt, g1, fun k x' hx' => ?_⟩
        have hk : k < es[i].cells.length := by rw [g1]; exact (List.getElem?_eq_some_iff.1 hx').1
        exact ⟨_, List.getElem?_eq_getElem hk, g2 k _ x' (List.getElem?_eq_getElem hk) hx'⟩
      cases hr with
      | listNil =>
        have : es' = [] := List.eq_nil_of_length_eq_zero (by rw [← hl]; rfl)
        subst this; exact .listNil
      | @list _ _ _ _ _ _ esz _ vf hne hS hn hcap hsz hcell h1 h =>
        refine .list (esz := esz) vf (fun e => hne (List.eq_nil_of_length_eq_zero (by rw [hl, e]; rfl))) ?_ (hn.trans hl) (by rw [← hl]; exact hcap) (fun i e' he' => ?_) (fun i e' k x' he' hx' => ?_) (fun i e' k x' he' hx' => ?_) (fun i e' k x' he' hx' => ?_)
        · rcases ho with ho | ho
          · subst ho; exact hS.elim (fun q => .inl ⟨rfl, q.2⟩) .inr
          · subst ho; exact hS.elim (fun q => by cases q.1) .inr
        · obtain ⟨e, he, g, _⟩ := hback i e' he'
          rw [← g]; exact hsz i e he
        · obtain ⟨e, he, _, g⟩ := hback i e' he'
          obtain ⟨x, hx, _⟩ := g k x' hx'
          exact hcell i e k x he hx
        · obtain ⟨e, he, _, g⟩ := hback i e' he'
          obtain ⟨x, hx, _⟩ := g k x' hx'
          exact h1 i e k x he hx
        · obtain ⟨e, he, _, g⟩ := hback i e' he'
          obtain ⟨x, hx, hw⟩ := g k x' hx'
          exact ih x x' true _ hw (h i e k x he hx)
    · rename_i cs cs'
      obtain ⟨hl, hE⟩ := all2_ok h
      cases hr with
      | agg hls hoc hrl =>
        refine .agg (hl.symm.trans hls) hoc fun i x' v hx' hv => ?_
        have hlt : i < cs.length := by rw [hl]; exact (List.getElem?_eq_some_iff.1 hx').1
        exact ih _ x' _ v (hE i _ x' (List.getElem?_eq_getElem hlt) hx') (hrl i _ v (List.getElem?_eq_getElem hlt) hv)
    · rename_i cs cs'
      obtain ⟨hl, hE⟩ := all2_ok h
      cases hr with
      | tup hls hrl =>
        refine .tup (hl.symm.trans hls) fun i x' v hx' hv => ?_
        have hlt : i < cs.length := by rw [hl]; exact (List.getElem?_eq_some_iff.1 hx').1
        exact ih _ x' _ v (hE i _ x' (List.getElem?_eq_getElem hlt) hx') (hrl i _ v (List.getElem?_eq_getElem hlt) hv)
    · obtain ⟨p, rfl⟩ := hr.nils_inv; exact .listNil
    · rw [← eqA_ok 60 _ _ h]; exact hr
theorem Pure.weaken {P : Program} {f : Nat} {as : List AV} {r r' : AV} (hp : Pure P f as r) (h : wkB 100 r r' = true) : Pure P f as r' :=
  ⟨hp.1, fun w S vs hS hG hv => (hp.2 w S vs hS hG hv).mono fun _ _ ⟨v, he, hr, hb⟩ => ⟨v, he, wkB_ok _ _ _ _ _ h hr, hb⟩⟩
noncomputable def wkO (a : Option AV) (r : AV) : Bool := match a with
  | some a => wkB 100 a r
  | none => false
theorem wkO_ok {a : Option AV} {r : AV} (h : wkO a r = true) : ∃ a', a = some a' ∧ wkB 100 a' r = true := by
  cases a with
  | none => cases h
  | some a => exact ⟨a, rfl, h⟩
noncomputable def callM (T : Ty) (X : Nat → Option (List AV → Option AV)) (E : Env) (M : Nat → Option Memo) (fuel d : Nat) : RecY :=
  Nat.rec (motive := fun _ => RecY) (fun _ _ _ _ _ _ => stk 102) (fun _ ih yo => Option.rec (motive := fun _ => RecX) (meX M (stepY T X E fuel ih none)) (fun yc => stepY T X E fuel ih (some yc)) yo) d
theorem retX_ok {P : Program} {T : Ty} {l : List ResultVar} {F : FX} {H : HX} {n : Nat} {k : AV → HX → Nat → Prop} (h : retX T l F H n k) : ∃ r, k r H n ∧ ∃ rs, ResRs T ⟨frX F, hpX H, n⟩ l rs ∧ packA rs = r := by
  unfold retX at h
  split at h
  · rename_i rs hrs
    rw [fsp_eq fA_eq, sh_eq] at h
    exact ⟨_, h, rs, resG_ok (s := ⟨frX F, hpX H, n⟩) _ _ hrs, rfl⟩
  · cases h
theorem HC.of_bodyA {P : Program} {T : Ty} (hT : TyOk P T) {f : Nat} {fn : Func} {code : Code} (hfn : FnOk P f fn code) {as : List AV} {H : Heap} {n nt : Nat} {K : AV → Heap → Nat → Prop} (hnt : fn.ntmps = nt)
    (hle : as.length ≤ nt) (h : SemM P nt n code (retM T fn K) ⟨argA as, H, n⟩ []) : HC P f as H n K := by
  refine ⟨⟨fn, code, hfn⟩, fun c vs hI hs hv ho => ?_⟩
  have g : Good nt c H n c ⟨argA as, H, n⟩ { tmps := vs ++ Array.replicate (fn.ntmps - vs.size) undef, defers := [] } := by
    refine ⟨hI, hs, fun t => frame_args hv _ t, fun t => argA_ok ho t, ?_, .refl c H n, Nat.le_refl _⟩
    have := hv.len
    simp only [Array.size_append, Array.size_replicate]; omega
  refine calls_of_semM hfn g h ?_
  intro e s' μ hq
  have fin : (∃ rs, ResRs T s' fn.results.toList rs ∧ K (packA rs) s'.H s'.n) → ∀ c' act', Good nt c H n c' s' act' → ∃ v, (results fn act'.tmps).run P c'.w = .ok v c'.w ∧ ∃ v' r H' n' c2, K r H' n' ∧ Ending.returned v = .returned v' ∧ c2.w = c'.w ∧ c.Le (· < n) c2 ∧ c2.Sa = c.Sa ∧ (∀ b, c2.So b → c.So b ∨ c.w.heap.size ≤ b ∨ ∃ o x, H o = some x ∧ (c.ρ o).blk = b) ∧
      Fr c H c'.w ∧ OwnRel c H c2 H' ∧ Inv c2 H' (· < n') ∧ (∀ o x, H' o = some x → x.solo = true ∧ x.spent = false) ∧ n ≤ n' ∧ VRel c2 false r v' ∧ r.Ok (· < n') := by
    rintro ⟨rs, hrs, hk⟩ c' act' g'
    obtain ⟨v, h1, h2, h3⟩ := res_ok hT g' hrs
    exact ⟨v, h1, v, _, s'.H, s'.n, c', hk, rfl, rfl, g'.reach.le, g'.reach.sa, g'.reach.so2, g'.reach.fr, g'.reach.own, g'.inv, g'.solo, g'.le0, h2, h3⟩
  cases e with
  | exit id => exact hq.elim
  | normal => exact ⟨(fun _ h => by cases h), fin hq⟩
  | ret => exact ⟨(fun _ h => by cases h), fin hq⟩
theorem stepY_ok {P : Program} {T : Ty} {X : Nat → Option (List AV → Option AV)} {E : Env} {fuel : Nat} {rec : RecY} (hm : P.follows .mixedOrders = true) (hX : ExtOk P X) (hT : TyOk P T) (hE : EnvOk P E) (ihr : RecOk P (rec none)) (ihi : IterOk P rec) : RecOk P (stepY T X E fuel rec none) ∧ IterOk P (stepY T X E fuel rec) := by
    refine ⟨fun f as H n k h => ?_, fun yc f caps H n k d hy h => ?_⟩
    · have h : (match E f with
        | some (fn, code) => Bool.rec (motive := fun _ => Prop) (stk 103) (argX as 0 f4 fun F => codeZ T X rec fn.ntmps fuel code none .normal F H n fun e _ F H n =>
            AExit.rec (motive := fun _ => Prop) (retX T fn.results.toList F H n k) (fun _ => stk 104) (retX T fn.results.toList F H n k) e) (true && (Nat.ble as.length fn.ntmps && Nat.ble fn.ntmps 289))
        | none => stk (1000 + f)) := h
      split at h
      · rename_i fn code hf
        cases hle : (true && (Nat.ble as.length fn.ntmps && Nat.ble fn.ntmps 289)) with
        | false => rw [hle] at h; cases h
        | true =>
          rw [hle] at h
          simp only [Bool.true_and, Bool.and_eq_true, Nat.ble_eq] at hle
          obtain ⟨F0, h, hF0⟩ := argX_fr (by omega) h
          obtain ⟨e, pe, F', H', n', h1, hsem⟩ := codeZ_ok hm hle.2 hX hT ihr ihi code none ⟨#[], .skip, .skip, 0, fun _ => .junk⟩ _ _ _ _ _ (fun _ h => by cases h) h
          have hs := hsem n 0 0 { state := .ready, pending := none, fn := 0, tmps := #[], params := #[], assign := .skip, body := .skip, defers := 0 } [] (fun h => absurd rfl h)
          rw [show sf none 0 (frX F0) = argA as from hF0] at hs
          cases e with
          | exit i => cases h1
          | normal =>
            obtain ⟨r, hk, rs, hrs, hpk⟩ := retX_ok (P := P) h1
            refine ⟨r, H', n', ?_, hk⟩
            refine HC.of_bodyA hT (hE _ _ _ hf) rfl hle.1 (hs.mono ?_)
            rintro e' s' μ' ⟨rfl, _, rfl⟩
            exact ⟨rs, hrs, hpk, rfl, rfl⟩
          | ret =>
            obtain ⟨r, hk, rs, hrs, hpk⟩ := retX_ok (P := P) h1
            refine ⟨r, H', n', ?_, hk⟩
            refine HC.of_bodyA hT (hE _ _ _ hf) rfl hle.1 (hs.mono ?_)
            rintro e' s' μ' ⟨rfl, _, rfl⟩
            exact ⟨rs, hrs, hpk, rfl, rfl⟩
      · cases h
    · have h : (match E f with
        | some (fn, code) => Bool.rec (motive := fun _ => Prop) (stk 103) (argX (sgn :: caps) 0 f4 fun F => codeZ T X rec fn.ntmps fuel code (some yc) .normal F H n fun e pe F H n =>
            AExit.rec (motive := fun _ => Prop) (retY T fn.results.toList (some yc) pe F H n k) (fun _ => stk 104) (retY T fn.results.toList (some yc) pe F H n k) e) (noG caps && (Nat.ble (caps.length + 1) fn.ntmps && Nat.ble fn.ntmps 289))
        | none => stk (1000 + f)) := h
      split at h
      · rename_i fn code hf
        cases hle : (noG caps && (Nat.ble (caps.length + 1) fn.ntmps && Nat.ble fn.ntmps 289)) with
        | false => rw [hle] at h; cases h
        | true =>
          rw [hle] at h
          simp only [Bool.and_eq_true, Nat.ble_eq] at hle
          obtain ⟨hng, hl1, hl2⟩ := hle
          obtain ⟨F0, h, hF0⟩ := argX_fr (by simp only [List.length_cons]; omega) h
          obtain ⟨e, pe, F', H', n', h1, hsem⟩ := codeZ_ok hm hl2 hX hT ihr ihi code (some yc) d _ _ _ _ _ hy h
          have hfr : ∀ b, sf (some yc) b (frX F0) = argA (yieldV b :: caps) := by
            intro b
            rw [hF0]
            funext t
            show sfA b (argA (sgn :: caps)) t = _
            unfold sfA
            cases t with
            | zero => rfl
            | succ t =>
              have e1 : argA (sgn :: caps) (t + 1) = argA (yieldV b :: caps) (t + 1) := rfl
              rw [e1]
              have : isG (argA (yieldV b :: caps) (t + 1)) = false := by
                show isG (((yieldV b :: caps)[t + 1]?).getD (.sc undef)) = false
                rw [List.getElem?_cons_succ]
                cases hq : caps[t]? with
                | none => rfl
                | some a => exact noG_ok _ hng a (List.mem_of_getElem? hq)
              rw [this, cond_false]
          have fin : retY T fn.results.toList (some yc) pe F' H' n' k → fn.results = #[] ∧ k (encP pe) H' n' := by
            intro h
            have h : List.rec (motive := fun _ => Prop) (k (encP pe) H' n') (fun _ _ _ => stk 141) fn.results.toList := h
            cases hrs : fn.results.toList with
            | nil =>
              rw [hrs] at h
              exact ⟨by rw [← Array.toList_inj, hrs], h⟩
            | cons r l => rw [hrs] at h; cases h
          cases e with
          | exit i => cases h1
          | normal =>
            obtain ⟨g1, g2⟩ := fin h1
            refine ⟨fn, code, pe, H', n', hE _ _ _ hf, g1, hl1, g2, fun b m r μr hin => ?_⟩
            have := hsem n b m r μr (fun _ => hin)
            rw [hfr] at this
            refine this.mono ?_
            rintro e' s' μ' ⟨rfl, ⟨μr1, hf, rfl⟩, rfl⟩
            exact ⟨(fun _ h => by cases h), by rw [hf (.inr (by simp))], rfl, rfl⟩
          | ret =>
            obtain ⟨g1, g2⟩ := fin h1
            refine ⟨fn, code, pe, H', n', hE _ _ _ hf, g1, hl1, g2, fun b m r μr hin => ?_⟩
            have := hsem n b m r μr (fun _ => hin)
            rw [hfr] at this
            refine this.mono ?_
            rintro e' s' μ' ⟨rfl, ⟨μr1, hf, rfl⟩, rfl⟩
            exact ⟨(fun _ h => by cases h), by rw [hf (.inr (by simp))], rfl, rfl⟩
      · cases h
theorem callM_ok {P : Program} {T : Ty} {X : Nat → Option (List AV → Option AV)} {E : Env} {M : Nat → Option Memo} {fuel : Nat} (hm : P.follows .mixedOrders = true) (hX : ExtOk P X) (hT : TyOk P T) (hE : EnvOk P E) (hM : MemoOk P M) : ∀ d, RecOk P (callM T X E M fuel d none) ∧ IterOk P (callM T X E M fuel d) := by
  intro d
  induction d with
  | zero =>
    refine ⟨?_, ?_⟩
    · intro f as H n k h; cases h
    · intro yc f caps H n k d _ h; cases h
  | succ m ih =>
    obtain ⟨h1, h2⟩ := stepY_ok (fuel := fuel) hm hX hT hE ih.1 ih.2
    exact ⟨meX_ok hM h1, fun yc f caps H n k d hy h => h2 yc f caps H n k d hy h⟩
theorem run_pureM {P : Program} {T : Ty} {X : Nat → Option (List AV → Option AV)} {E : Env} {M : Nat → Option Memo} {fuel d f : Nat} {as : List AV} {r : AV} (hm : P.follows .mixedOrders = true) (hX : ExtOk P X) (hT : TyOk P T) (hE : EnvOk P E) (hM : MemoOk P M)
    (h : stepY T X E fuel (callM T X E M fuel d) none f as g8 0 (fun a H _ => cvF true (hpX H) 100 a = some r) = (some r = some r)) : Pure P f as r := by
  have ok := callM_ok (fuel := fuel) hm hX hT hE hM d
  obtain ⟨r', H', n', h1, h2⟩ := (stepY_ok (fuel := fuel) hm hX hT hE ok.1 ok.2).1 _ _ _ _ _ (cast h.symm rfl)
  rw [hpX_g8] at h1
  exact Pure.of_hc h1 (cvF_ok _ _ _ h2)
theorem run_pureW {P : Program} {T : Ty} {X : Nat → Option (List AV → Option AV)} {E : Env} {M : Nat → Option Memo} {fuel d f : Nat} {as : List AV} {r : AV} (hm : P.follows .mixedOrders = true) (hX : ExtOk P X) (hT : TyOk P T) (hE : EnvOk P E) (hM : MemoOk P M)
    (h : stepY T X E fuel (callM T X E M fuel d) none f as g8 0 (fun a H _ => wkO (cvF true (hpX H) 100 a) r = true) = (true = true)) : Pure P f as r := by
  have ok := callM_ok (fuel := fuel) hm hX hT hE hM d
  obtain ⟨r', H', n', h1, h2⟩ := (stepY_ok (fuel := fuel) hm hX hT hE ok.1 ok.2).1 _ _ _ _ _ (cast h.symm rfl)
  rw [hpX_g8] at h1
  obtain ⟨a', e1, e2⟩ := wkO_ok h2
  exact Pure.weaken (Pure.of_hc h1 (cvF_ok _ _ _ e1)) e2
end Go.Av.X

namespace Go.Av
variable [Gls]
theorem Oper.wp_mono2 {P : Program} {o : Oper} {a : Act} {w : World} {K K' : Act → World → Prop} {Q Q' : Exit → Act → World → Prop} (h : ∀ a w, K a w → K' a w) (hq : ∀ e a w, e ≠ .normal → Q e a w → Q' e a w)
    (hh : o.wp P a w K Q) : o.wp P a w K' Q' := by
  unfold Oper.wp at *
  generalize (execOp a.eval o).run P w = r at *
  cases r with
  | ok n w' =>
    cases n with
    | enter f args =>
      simp only [Oper.upon] at hh ⊢
      refine Calls.mono hh (fun e w'' he => ?_)
      cases e with
      | returned v => exact h _ _ he
      | panicked ch => exact hq _ _ _ (by intro h; cases h) he
      | outgrown => obtain ⟨a0, w0, h0⟩ := he; exact ⟨a0, w0, hq _ _ _ (by intro h; cases h) h0⟩
    | row row args => simp only [Oper.upon] at hh ⊢; exact Rows.mono hh (fun _ _ he => h _ _ he)
    | _ => simp only [Oper.upon] at hh ⊢ <;> exact h _ _ hh
  | halt x w' => cases x <;> simp only [Oper.upon] at hh ⊢ <;> first | exact hh | exact hq _ _ _ (by intro h; cases h) hh
section
variable {P : Program} {ops : Array Oper} {Q : Exit → Act → World → Prop}
theorem wpAny_more : ∀ (f : Nat) (listed : Array Bool) (a : Act) (w : World), wpAny P .any ops Q f listed a w → wpAny P .any ops Q (f + 1) listed a w
  | 0, listed, a, w, h => ⟨fun _ => h.2, fun i hi => by rw [h.1] at hi; cases hi⟩
  | f + 1, listed, a, w, h => ⟨h.1, fun i hi => wpOp_mono (fun a' w' h' => wpAny_more f _ a' w' h') (h.2 i hi)⟩
theorem wpAny_moreN (n : Nat) : ∀ (f : Nat) (listed : Array Bool) (a : Act) (w : World), wpAny P .any ops Q f listed a w → wpAny P .any ops Q (f + n) listed a w := by
  induction n with
  | zero => intro f l a w h; exact h
  | succ n ih => intro f l a w h; exact wpAny_more (f + n) l a w (ih f l a w h)
def barOk (j : Nat) (l : List Oper) : Bool := (List.range l.length).all fun i => Nat.blt i j || (List.range i).all fun q => ((masks l).getD i 0).testBit q
def guardsLt (l : List Oper) : Bool := l.all fun o => match o.guard with
  | some (j, _) => Nat.blt j l.length
  | none => true
theorem barOk_spec {j : Nat} {l : List Oper} (h : barOk j l = true) {i q : Nat} (hi : i < l.length) (hj : j ≤ i) (hq : q < i) : ((masks l).getD i 0).testBit q = true := by
  have := List.all_eq_true.1 h i (List.mem_range.2 hi)
  simp only [Bool.or_eq_true, Nat.blt_eq] at this
  rcases this with h1 | h1
  · omega
  · exact List.all_eq_true.1 h1 q (List.mem_range.2 hq)
theorem ready_pre {listed : Array Bool} {i : Nat} {o : Oper} (hi : i ∈ Region.ready .any ops listed) (ho : ops.toList[i]? = some o) : ∀ j ∈ preOf o, listed.getD j false = true := by
  rw [ready_mem] at hi
  obtain ⟨_, _, h3⟩ := hi
  have ho' : ops[i]? = some o := by simpa using ho
  rw [ho'] at h3
  simp only [Option.map_some, Option.getD_some] at h3
  intro j hj
  obtain ⟨e, he, rfl⟩ := List.mem_map.1 hj
  obtain ⟨he1, he2⟩ := List.mem_filter.1 he
  rw [Array.all_eq_true_iff_forall_mem] at h3
  have := h3 e (by simpa using he1)
  rw [he2] at this
  simpa using this
theorem mem_ready {listed : Array Bool} {i : Nat} {o : Oper} (hsz : listed.size = ops.size) (ho : ops.toList[i]? = some o) (hl : listed.getD i false = false) (h : ∀ j ∈ preOf o, listed.getD j false = true) : i ∈ Region.ready .any ops listed := by
  have hi : i < ops.size := by have := (List.getElem?_eq_some_iff.1 ho).1; simpa using this
  rw [ready_mem]
  refine ⟨hi, ?_, ?_⟩
  · have hil : i < listed.size := by omega
    simp only [Array.getD_eq_getD_getElem?, Array.getElem?_eq_getElem hil, Option.getD_some] at hl ⊢
    exact hl
  · have ho' : ops[i]? = some o := by simpa using ho
    rw [ho']
    simp only [Option.map_some, Option.getD_some]
    rw [Array.all_eq_true_iff_forall_mem]
    intro e he
    cases hb : Region.binds .any e with
    | false => rfl
    | true => simpa using h e.on (List.mem_map.2 ⟨e, List.mem_filter.2 ⟨by simpa using he, hb⟩, rfl⟩)
def ClosedL (ops : Array Oper) (listed : Array Bool) : Prop := ∀ (i : Nat) o, ops.toList[i]? = some o → listed.getD i false = true → ∀ j ∈ preOf o, listed.getD j false = true
theorem ready_all (hpre : preLt 0 ops.toList = true) {listed : Array Bool} (hc : ClosedL ops listed) {i : Nat} (hi : i ∈ Region.ready .any ops listed) {q : Nat} (hq : ((masks ops.toList).getD i 0).testBit q = true) : listed.getD q false = true := by
  have hlt := (ready_mem.1 hi).1
  have ho : ops.toList[i]? = some ops[i] := by simp [hlt]
  have hp : ∀ (i : Nat) o, ops.toList[i]? = some o → ∀ j ∈ preOf o, j < i := fun i o ho j hj => by have := preLt_spec _ 0 hpre i o ho j hj; omega
  exact (closed_masks (S := fun k => listed.getD k false) hp hc i _ ho (ready_pre hi ho) q hq).1
theorem getD_set_list {listed : Array Bool} {i k : Nat} (hi : i < listed.size) : (listed.setIfInBounds i true).getD k false = (listed.getD k false || Nat.beq k i) := by
  simp only [Array.getD_eq_getD_getElem?]
  by_cases h : k = i
  · subst h; simp [hi]
  · have : Nat.beq k i = false := by rw [← Bool.not_eq_true, Nat.beq_eq]; exact h
    rw [Array.getElem?_setIfInBounds_ne (fun e => h e.symm), this, Bool.or_false]
theorem wpAny_end (hpre : preLt 0 ops.toList = true) {j : Nat} (hbar : barOk j ops.toList = true) : ∀ (f m : Nat) (listed : Array Bool) (a : Act) (w : World), listed.size = ops.size → j ≤ m → m + f = ops.size → (∀ k, k < ops.size → (listed.getD k false = true ↔ k < m)) →
    wpList P ops Q (ops.toList.drop m) a w → wpAny P .any ops Q f listed a w := by
  have hlen : ops.toList.length = ops.size := Array.length_toList
  intro f
  induction f with
  | zero =>
    intro m listed a w hsz hj hm hl h
    refine ⟨?_, ?_⟩
    · rw [List.eq_nil_iff_forall_not_mem]
      intro i hi
      obtain ⟨h1, h2, _⟩ := ready_mem.1 hi
      have := (hl i h1).2 (by omega)
      have hil : i < listed.size := by omega
      simp only [Array.getD_eq_getD_getElem?, Array.getElem?_eq_getElem hil, Option.getD_some] at h2 this
      rw [h2] at this; cases this
    · rw [List.drop_of_length_le (by omega)] at h; exact h
  | succ f ih =>
    intro m listed a w hsz hj hm hl h
    have hmo : ops.toList[m]? = some (ops.toList[m]'(by omega)) := List.getElem?_eq_getElem (by omega)
    have hc : ClosedL ops listed := fun i o ho hi q hq => by
      have hio : i < ops.size := by have := (List.getElem?_eq_some_iff.1 ho).1; omega
      have h1 := preLt_spec _ 0 hpre i o ho q hq
      have h2 := (hl i hio).1 hi
      exact (hl q (by omega)).2 (by omega)
    have hrm : m ∈ Region.ready .any ops listed := by
      refine mem_ready hsz hmo ?_ fun q hq => ?_
      · rw [← Bool.not_eq_true]; exact fun e => by have := (hl m (by omega)).1 e; omega
      · have h1 := preLt_spec _ 0 hpre m _ hmo q hq
        exact (hl q (by omega)).2 (by omega)
    refine ⟨fun hr => (by rw [hr] at hrm; cases hrm), fun i hi => ?_⟩
    have him : i = m := by
      obtain ⟨h1, h2, _⟩ := ready_mem.1 hi
      have hil : i < listed.size := by omega
      have hge : m ≤ i := by
        rcases Nat.lt_or_ge i m with h3 | h3
        · have := (hl i h1).2 h3
          simp only [Array.getD_eq_getD_getElem?, Array.getElem?_eq_getElem hil, Option.getD_some] at h2 this
          rw [h2] at this; cases this
        · exact h3
      rcases Nat.lt_or_eq_of_le hge with h3 | h3
      · have := ready_all hpre hc hi (barOk_spec hbar (by omega) (by omega) h3)
        have := (hl m (by omega)).1 this
        omega
      · exact h3.symm
    subst him
    rw [List.drop_eq_getElem_cons (by omega)] at h
    unfold wpList at h
    unfold wpOp
    have ho' : ops[i]? = some (ops.toList[i]'(by omega)) := by simpa using hmo
    rw [ho']
    simp only
    have hnext : ∀ a' w', wpList P ops Q (ops.toList.drop (i + 1)) a' w' → wpAny P .any ops Q f (listed.setIfInBounds i true) a' w' := fun a' w' h' =>
      ih (i + 1) _ a' w' (by simpa using hsz) (by omega) (by omega) (fun k hk => by
        rw [getD_set_list (by omega), Bool.or_eq_true, hl k hk, Nat.beq_eq]; omega) h'
    by_cases hw : Region.wanted (ops.toList[i]'(by omega)) (yielded ops a.tmps) = true
    · rw [if_pos hw] at h ⊢
      exact h.imp (Oper.wp_mono hnext) id
    · rw [if_neg hw] at h ⊢
      exact hnext _ _ h
theorem preOf_take {j i : Nat} {o : Oper} (h : (ops.toList.take j)[i]? = some o) : ops.toList[i]? = some o ∧ i < j := by
  rw [List.getElem?_take] at h
  split at h
  · exact ⟨h, by assumption⟩
  · cases h
theorem wpAny_cut {R : Exit → Act → World → Prop} {j : Nat} {pre : Array Oper} (hp : pre.toList = ops.toList.take j) (hjl : j ≤ ops.size) (hpre : preLt 0 ops.toList = true) (hbar : barOk j ops.toList = true) (hgd : guardsLt (ops.toList.take j) = true)
    (hRQ : ∀ e a w, e ≠ .normal → R e a w → Q e a w) (r : Nat)
    (hend : ∀ listed a w, listed.size = ops.size → (∀ k, k < ops.size → (listed.getD k false = true ↔ k < j)) → R .normal a w → wpAny P .any ops Q r listed a w) :
    ∀ (f : Nat) (lp lo : Array Bool) (a : Act) (w : World), lp.size = pre.size → lo.size = ops.size → (∀ k, lo.getD k false = (lp.getD k false && Nat.blt k j)) → ClosedL pre lp →
      wpAny P .any pre R f lp a w → wpAny P .any ops Q (f + r) lo a w := by
  have hlen : ops.toList.length = ops.size := Array.length_toList
  have hps : pre.size = j := by rw [← Array.length_toList, hp, List.length_take]; omega
  have hpp : preLt 0 pre.toList = true := by
    have key : ∀ (l : List Oper) (i k : Nat), preLt i l = true → preLt i (l.take k) = true := by
      intro l
      induction l with
      | nil => intro i k _; simp [preLt]
      | cons a l ih =>
        intro i k h
        cases k with
        | zero => rfl
        | succ k =>
          simp only [preLt, Bool.and_eq_true, List.take_succ_cons] at h ⊢
          exact ⟨h.1, ih _ _ h.2⟩
    rw [hp]; exact key _ _ _ hpre
  have same : ∀ (k : Nat) o, ops.toList[k]? = some o → k < j → pre.toList[k]? = some o := fun k o ho hk => by rw [hp, List.getElem?_take, if_pos hk]; exact ho
  have full : ∀ (lp : Array Bool), lp.size = pre.size → Region.ready .any pre lp = [] → ∀ k, k < j → lp.getD k false = true := by
    intro lp hs hr k
    induction k using Nat.strongRecOn with
    | _ k ih =>
      intro hk
      cases hl : lp.getD k false with
      | true => rfl
      | false =>
        have hko : pre.toList[k]? = some (pre.toList[k]'(by rw [Array.length_toList]; omega)) := List.getElem?_eq_getElem _
        have := mem_ready hs hko hl fun q hq => by
          have h1 := preLt_spec _ 0 hpp k _ hko q hq
          exact ih q (by omega) (by omega)
        rw [hr] at this; cases this
  have yl : ∀ (tmps : Array Value) (q : Nat), q < j → yielded ops tmps q = yielded pre tmps q := by
    intro tmps q hq
    have : ops[q]? = pre[q]? := by
      have h1 : ops.toList[q]? = pre.toList[q]? := by rw [hp, List.getElem?_take, if_pos hq]
      simpa using h1
    unfold yielded
    rw [this]
  intro f
  induction f with
  | zero =>
    intro lp lo a w hs1 hs2 hrel hcl h
    obtain ⟨h1, h2⟩ := h
    rw [Nat.zero_add]
    refine hend lo a w hs2 (fun k hk => ?_) h2
    rw [hrel]
    constructor
    · intro h3; simp only [Bool.and_eq_true, Nat.blt_eq] at h3; exact h3.2
    · intro h3; simp only [Bool.and_eq_true, Nat.blt_eq]; exact ⟨full lp hs1 h1 k h3, h3⟩
  | succ f ih =>
    intro lp lo a w hs1 hs2 hrel hcl h
    obtain ⟨h1, h2⟩ := h
    by_cases hr : Region.ready .any pre lp = []
    · have : wpAny P .any ops Q r lo a w := hend lo a w hs2 (fun k hk => by
        rw [hrel]
        constructor
        · intro h3; simp only [Bool.and_eq_true, Nat.blt_eq] at h3; exact h3.2
        · intro h3; simp only [Bool.and_eq_true, Nat.blt_eq]; exact ⟨full lp hs1 hr k h3, h3⟩) (h1 hr)
      have := wpAny_moreN (f + 1) r lo a w this
      rwa [Nat.add_comm] at this
    · have hclo : ClosedL ops lo := by
        intro i o ho hi q hq
        rw [hrel] at hi ⊢
        simp only [Bool.and_eq_true, Nat.blt_eq] at hi ⊢
        have hq2 := preLt_spec _ 0 hpre i o ho q hq
        exact ⟨hcl i o (same i o ho hi.2) hi.1 q hq, by omega⟩
      obtain ⟨p, hpr⟩ := List.exists_mem_of_ne_nil _ hr
      have hpj : p < j := by have := (ready_mem.1 hpr).1; omega
      have hnl : lo.getD p false = false := by
        rw [hrel]
        have h3 := (ready_mem.1 hpr).2.1
        have hpl : p < lp.size := by omega
        simp only [Array.getD_eq_getD_getElem?, Array.getElem?_eq_getElem hpl, Option.getD_some] at h3 ⊢
        rw [h3]; rfl
      have low : ∀ i, i ∈ Region.ready .any ops lo → i < j := by
        intro i hi
        rcases Nat.lt_or_ge i j with h3 | h3
        · exact h3
        · have := ready_all hpre hclo hi (barOk_spec hbar (by have := (ready_mem.1 hi).1; omega) h3 (show p < i by omega))
          rw [hnl] at this; cases this
      rw [show f + 1 + r = (f + r) + 1 by omega]
      refine ⟨fun hro => ?_, fun i hi => ?_⟩
      · exfalso
        have hpo : pre.toList[p]? = some (pre.toList[p]'(by rw [Array.length_toList]; omega)) := List.getElem?_eq_getElem _
        have hpo2 : ops.toList[p]? = some (pre.toList[p]'(by rw [Array.length_toList]; omega)) := (preOf_take (by rw [← hp]; exact hpo)).1
        have : p ∈ Region.ready .any ops lo := mem_ready hs2 hpo2 hnl fun q hq => by
          have h3 := ready_pre hpr hpo q hq
          have h4 := preLt_spec _ 0 hpre p _ hpo2 q hq
          rw [hrel, h3]; simp; omega
        rw [hro] at this; cases this
      · have hij := low i hi
        have hio : ops.toList[i]? = some (ops.toList[i]'(by omega)) := List.getElem?_eq_getElem _
        have hip := same i _ hio hij
        have hli : lp.getD i false = false := by
          have h3 := (ready_mem.1 hi).2.1
          have hil : i < lo.size := by omega
          have h5 : lo.getD i false = false := by
            simp only [Array.getD_eq_getD_getElem?, Array.getElem?_eq_getElem hil, Option.getD_some] at h3 ⊢
            exact h3
          rw [hrel] at h5
          have : Nat.blt i j = true := by simpa using hij
          rw [this, Bool.and_true] at h5
          exact h5
        have hir : i ∈ Region.ready .any pre lp := mem_ready hs1 hip hli fun q hq => by
          have h3 := ready_pre hi hio q hq
          rw [hrel] at h3
          simp only [Bool.and_eq_true] at h3
          exact h3.1
        have hk := h2 i hir
        unfold wpOp at hk ⊢
        have e1 : ops[i]? = some (ops.toList[i]'(by omega)) := by simpa using hio
        have e2 : pre[i]? = some (ops.toList[i]'(by omega)) := by simpa using hip
        rw [e2] at hk
        rw [e1]
        simp only at hk ⊢
        have hw : Region.wanted (ops.toList[i]'(by omega)) (yielded ops a.tmps) = Region.wanted (ops.toList[i]'(by omega)) (yielded pre a.tmps) := by
          unfold Region.wanted
          cases hgu : (ops.toList[i]'(by omega)).guard with
          | none => rfl
          | some g =>
            obtain ⟨gj, want⟩ := g
            have h5 := List.all_eq_true.1 hgd (ops.toList[i]'(by omega)) (List.mem_of_getElem? (i := i) (by rw [List.getElem?_take, if_pos hij]; exact hio))
            rw [hgu] at h5
            simp only [Nat.blt_eq, List.length_take] at h5
            simp only [yl a.tmps gj (by omega)]
        rw [hw]
        have hnext : ∀ a' w', wpAny P .any pre R f (lp.setIfInBounds i true) a' w' → wpAny P .any ops Q (f + r) (lo.setIfInBounds i true) a' w' := by
          intro a' w' h'
          refine ih _ _ a' w' (by simpa using hs1) (by simpa using hs2) (fun k => ?_) ?_ h'
          · rw [getD_set_list (by omega), getD_set_list (by omega), hrel]
            by_cases hki : k = i
            · subst hki
              have : Nat.blt k j = true := by simpa using hij
              simp [this]
            · have : Nat.beq k i = false := by rw [← Bool.not_eq_true, Nat.beq_eq]; exact hki
              simp [this]
          · intro k o ho hk q hq
            rw [getD_set_list (by omega)] at hk ⊢
            rcases Bool.or_eq_true_iff.1 hk with hk | hk
            · rw [hcl k o ho hk q hq]; rfl
            · have : k = i := by simpa using hk
              subst this
              rw [ready_pre hir ho q hq]; rfl
        by_cases hwt : Region.wanted (ops.toList[i]'(by omega)) (yielded pre a.tmps) = true
        · rw [if_pos hwt] at hk ⊢
          rcases hk with hk | ⟨hk, a0, w0, hl⟩
          · exact .inl (Oper.wp_mono2 hnext hRQ hk)
          · exact .inr ⟨hk, a0, w0, hRQ _ _ _ (by intro h; cases h) hl⟩
        · rw [if_neg hwt] at hk ⊢
          exact hnext _ _ hk
end
theorem SemM.drawnCut {P : Program} {T : Ty} {nt n0 id j n : Nat} {ops : Array Oper} {L L' : List (Nat × AV)} {G G' : List (Nat × Obj)} {Q : AExit → St → Mu → Prop} {μ : Mu} (hT : TyOk P T ∧ P.follows .mixedOrders = true) (hpre : preLt 0 ops.toList = true)
    (hjl : Nat.ble j ops.size = true) (hbar : barOk j ops.toList = true) (hgd : guardsLt (ops.toList.take j) = true) (hs : List Hint) {hs' : List Hint} {ps' : List Prop}
    (h : drawS hz0 P T nt n ⟨ops.toList.take j⟩ (masks (ops.toList.take j)) ((masks (ops.toList.take j)).zip ((ops.toList.take j).map hz0)) 0 (ops.toList.take j) L G [] hs [] = some (L', G', hs', ps')) (hp' : allP ps')
    (k : SemLM P nt n0 ops (ops.toList.drop j) (fun s μ => Q .normal s μ) ⟨fr L', hp G', n + j⟩ μ) (hμ : noLoop μ = true := by rfl) : SemM P nt n0 (.region id ops true) Q ⟨fr L, hp G, n⟩ μ := by
  have hjl' : j ≤ ops.size := by simpa using hjl
  obtain ⟨_, hrun⟩ := drawS_ok _ _ _ _ _ _ _ _ _ _ _ h hp'
  obtain ⟨rs, hall, hA, hH⟩ := hrun.all (fr L) (hp G) [] (Nat.zero_le _) rfl rfl rfl rfl rfl (fun k o r _ hr => by simp at hr)
  have hpl : preLt 0 (ops.toList.take j) = true := by
    have key : ∀ (l : List Oper) (i k : Nat), preLt i l = true → preLt i (l.take k) = true := by
      intro l
      induction l with
      | nil => intro i k _; simp [preLt]
      | cons a l ih =>
        intro i k h
        cases k with
        | zero => rfl
        | succ k =>
          simp only [preLt, Bool.and_eq_true, List.take_succ_cons] at h ⊢
          exact ⟨h.1, ih _ _ h.2⟩
    exact key _ _ _ hpre
  have hlenp : (ops.toList.take j).length = j := by rw [List.length_take, Array.length_toList]; omega
  intro c0 HH c act g0 hm R0 hR0
  have g := g0.rebase.drew
  refine wpR_region_any hT.2 hR0 (by rintro a w ⟨c, s, ae, μ, _, _, _, h, _⟩; cases ae <;> cases h) ?_
  have hz : ∀ m k, (Array.replicate m false).getD k false = false := by
    intro m k
    simp only [Array.getD_eq_getD_getElem?, Array.getElem?_replicate]
    split <;> rfl
  have hfn : ∀ m, (fun k => (Array.replicate m false).getD k false) = (fun _ => false) := fun m => funext (hz m)
  have hM : ∀ q, q < n → AtS n (fun _ => false) q := fun q h => .inl h
  have hdg := drawn_go (n0 := n0) (Q := fun e s => e = .normal ∧ s = ⟨fr L', hp G', n + j⟩) hT.1 (ops := ⟨ops.toList.take j⟩) hpl hall ⟨rfl, by rw [hA, hH]; congr 1; simp only [hlenp]⟩ (c0 := c) (HH := hp G) g.le0 j (Array.replicate j false) (List.range j)
    { c with w := { c.w with drawn := c.w.drawn + 1 } } act (by simp [hlenp]) (by simp) (fun k hk _ => List.mem_range.2 (by simpa [hlenp] using hk)) (fun i o _ h => by rw [hz] at h; cases h) (by
      rw [hfn, foldS_none, foldS_none]
      exact ⟨g.inv.more hM, g.solo, g.frame, fun t => (g.ok t).mono hM, g.size, g.reach, fun q hq => hM q (Nat.lt_of_lt_of_le hq g.le0)⟩) rfl
  have := wpAny_cut (Q := MQ nt c0 HH n0 Q) (pre := ⟨ops.toList.take j⟩) (R := CQ nt c (hp G) n0 act.defers (fun e s => e = .normal ∧ s = ⟨fr L', hp G', n + j⟩)) (j := j) rfl hjl' hpre hbar hgd
    (by rintro e a w hne ⟨c', s', ae, _, _, _, rfl, rfl, _⟩; exact absurd rfl hne) (ops.size - j) (by
      rintro listed a w hsz hl ⟨c', s', ae, rfl, g', hd', _, rfl, rfl⟩
      refine wpAny_end hpre hbar (ops.size - j) j listed a c'.w hsz (Nat.le_refl _) (by omega) hl ?_
      exact k c0 HH c' a (.join g0.reach g') (hm.kept g'.reach hd') _ (fun c2 s2 a2 μ2 g2 hm2 hq => ⟨c2, s2, .normal, μ2, rfl, g2, hm2, rfl, hq⟩) none (fun _ => hμ))
    j (Array.replicate j false) (Array.replicate ops.size false) act { c.w with drawn := c.w.drawn + 1 } (by simp [hlenp]) (by simp) (fun k => by rw [hz, hz]; rfl) (fun i o _ h => by rw [hz] at h; cases h) hdg
  rwa [show j + (ops.size - j) = ops.size by omega] at this
theorem SemK.drawnCut {P : Program} {T : Ty} {nt n0 id n : Nat} {ops : Array Oper} {L L' : List (Nat × AV)} {G G' : List (Nat × Obj)} {K : List Kn} {Q : AExit → St → Mu → Prop} {μ : Mu} (j : Nat) (hT : TyOk P T ∧ P.follows .mixedOrders = true) (hs : List Hint) {hs' : List Hint} {ps' : List Prop} (hpre : preLt 0 ops.toList = true)
    (hjl : Nat.ble j ops.size = true) (hbar : barOk j ops.toList = true) (hgd : guardsLt (ops.toList.take j) = true)
    (h : drawS hz0 P T nt n ⟨ops.toList.take j⟩ (masks (ops.toList.take j)) ((masks (ops.toList.take j)).zip ((ops.toList.take j).map hz0)) 0 (ops.toList.take j) L G [] hs [] = some (L', G', hs', ps')) (hp' : allP ps')
    (k : SemK P nt n0 Q (.ops ops (ops.toList.drop j)) K ⟨fr L', hp G', n + j⟩ μ) (hμ : noLoop μ = true := by rfl) : SemK P nt n0 Q (.code (.region id ops true)) K ⟨fr L, hp G, n⟩ μ :=
  SemM.drawnCut hT hpre hjl hbar hgd hs h hp' k hμ
end Go.Av
namespace Go.Av
theorem SemK.nilsList {P : Program} {nt n0 n : Nat} {Q : AExit → St → Mu → Prop} {cf : Cf} {K : List Kn} {μ : Mu} {L : List (Nat × AV)} {H : Heap} (t : Nat) (own : Bool) (h0 : fr L t = .nils)
    (h : SemK P nt n0 Q cf K ⟨fr ((t, .list own []) :: L), H, n⟩ μ) : SemK P nt n0 Q cf K ⟨fr L, H, n⟩ μ := by
  refine SemK.sub (s' := ⟨fr ((t, .list own []) :: L), H, n⟩) (fun c0 H0 c act μ g hm => ⟨?_, hm⟩) h
  have hfr : ∀ q, fr ((t, .list own []) :: L) q = if q = t then .list own [] else fr L q := by
    intro q
    simp only [fr]
    by_cases hq : q = t
    · subst hq; simp
    · have : Nat.beq q t = false := by rw [← Bool.not_eq_true, Nat.beq_eq]; exact hq
      rw [this, if_neg hq]; rfl
  refine ⟨g.inv, g.solo, fun q => ?_, fun q => ?_, g.size, g.reach, g.le0⟩
  · show VRel c false (fr ((t, .list own []) :: L) q) _
    rw [hfr]
    by_cases hq : q = t
    · subst hq
      rw [if_pos rfl]
      have := g.frame q
      rw [show St.A ⟨fr L, H, n⟩ q = .nils from h0] at this
      obtain ⟨p, hp⟩ := this.nils_inv
      rw [hp]; exact .listNil
    · rw [if_neg hq]; exact g.frame q
  · show (fr ((t, .list own []) :: L) q).Ok _
    rw [hfr]
    by_cases hq : q = t
    · rw [if_pos hq]; exact .list
    · rw [if_neg hq]; exact g.ok q
end Go.Av

namespace Go.Av
variable [Gls]
def denC : AV → AV
  | .nils => .list true []
  | a => a
def denil : AV → AV
  | .agg cs => .agg (cs.map denC)
  | a => denC a
theorem denil_cells (e : AV) : (denil e).cells = e.cells.map denC := by
  cases e <;> rfl
theorem denC_rel {c : Ctx} {d : Bool} {a : AV} {v : Value} (h : VRel c d a v) : VRel c d (denC a) v := by
  cases a with
  | nils => obtain ⟨p, rfl⟩ := h.nils_inv; exact .listNil
  | _ => exact h
theorem denC_ok {M : Nat → Prop} {a : AV} (h : a.Ok M) : (denC a).Ok M := by
  cases a with
  | nils => exact .list
  | _ => exact h
theorem denil_obj {c : Ctx} {p : Pl} {y : Obj} (h : ObjRel c p y) : ObjRel c p { y with es := y.es.map denil } := by
  obtain ⟨⟨cur, h1, h2, h3⟩, h4, h5, h6⟩ := h
  refine ⟨⟨cur, h1, h2, fun i e he => ?_⟩, by simpa using h4, h5, h6⟩
  simp only [List.getElem?_map, Option.map_eq_some_iff] at he
  obtain ⟨e0, he0, rfl⟩ := he
  obtain ⟨g1, g2⟩ := h3 i e0 he0
  rw [denil_cells]
  refine ⟨by simpa using g1, fun k a ha => ?_⟩
  simp only [List.getElem?_map, Option.map_eq_some_iff] at ha
  obtain ⟨a0, ha0, rfl⟩ := ha
  obtain ⟨v, v1, v2, v3⟩ := g2 k a0 ha0
  exact ⟨v, v1, denC_rel v2, v3⟩
theorem SemK.denil {P : Program} {nt n0 n : Nat} {Q : AExit → St → Mu → Prop} {cf : Cf} {K : List Kn} {μ : Mu} {L : List (Nat × AV)} {G : List (Nat × Obj)} {y : Obj} (q : Nat) (es' : List AV) (hy : hp G q = some y) (he : y.es.map denil = es')
    (h : SemK P nt n0 Q cf K ⟨fr L, hp ((q, { y with es := es' }) :: G), n⟩ μ) : SemK P nt n0 Q cf K ⟨fr L, hp G, n⟩ μ := by
  subst he
  have hd : ∀ o x', hp ((q, { y with es := y.es.map Go.Av.denil }) :: G) o = some x' → ∃ x, hp G o = some x ∧ x'.esz = x.esz ∧ x'.solo = x.solo ∧ x'.spent = x.spent ∧ x'.es.length = x.es.length ∧ (x' = x ∨ (o = q ∧ x = y ∧ x' = { y with es := y.es.map Go.Av.denil })) := by
    intro o x' hx
    by_cases ho : o = q
    · subst ho
      rw [show hp ((o, { y with es := y.es.map Go.Av.denil }) :: G) o = some { y with es := y.es.map Go.Av.denil } by simp [hp, hp_gone hy]] at hx
      cases hx
      exact ⟨y, hy, rfl, rfl, rfl, by simp, .inr ⟨rfl, rfl, rfl⟩⟩
    · have : hp ((q, { y with es := y.es.map Go.Av.denil }) :: G) o = hp G o := by
        have hb : Nat.beq o q = false := by rw [← Bool.not_eq_true, Nat.beq_eq]; exact ho
        simp [hp, hb]
      rw [this] at hx
      exact ⟨x', hx, rfl, rfl, rfl, rfl, .inl rfl⟩
  refine SemK.sub (s' := ⟨fr L, hp ((q, { y with es := y.es.map Go.Av.denil }) :: G), n⟩) (fun c0 H0 c act μ g hm => ⟨?_, ?_⟩) h
  · refine ⟨⟨fun o x' hx => ?_, fun o o' x1 x2 h1 h2 hne hb => ?_, fun o x' hx => ?_, g.inv.lt, g.inv.base, g.inv.own, fun o x' hx => ?_, g.inv.glob⟩, fun o x' hx => ?_, g.frame, g.ok, g.size, ?_, g.le0⟩
    · obtain ⟨x, hx0, _, _, _, _, hc⟩ := hd o x' hx
      obtain ⟨i1, i2, i3⟩ := g.inv.obj o x hx0
      rcases hc with rfl | ⟨rfl, rfl, rfl⟩
      · exact ⟨i1, i2, i3⟩
      · refine ⟨i1, denil_obj i2, fun e he a ha => ?_⟩
        obtain ⟨e0, he0, rfl⟩ := List.mem_map.1 he
        rw [denil_cells] at ha
        obtain ⟨a0, ha0, rfl⟩ := List.mem_map.1 ha
        exact denC_ok (i3 e0 he0 a0 ha0)
    · obtain ⟨y1, hy1, e1, s1, p1, l1, _⟩ := hd o x1 h1
      obtain ⟨y2, hy2, e2, s2, p2, l2, _⟩ := hd o' x2 h2
      have := g.inv.sep o o' y1 y2 hy1 hy2 hne hb
      rw [s1, p1, p2, l1, l2, e1, e2]; exact this
    · obtain ⟨x, hx0, _⟩ := hd o x' hx; exact g.inv.stab o x hx0
    · obtain ⟨x, hx0, _⟩ := hd o x' hx; exact g.inv.low o x hx0
    · obtain ⟨x, hx0, _, s1, p1, _⟩ := hd o x' hx; rw [s1, p1]; exact g.solo o x hx0
    · have r := g.reach
      exact ⟨r.rho, r.os, r.tape, r.output, r.size, r.block, r.stable, r.sa, r.so1, r.so2, r.B, fun o x' hx => by obtain ⟨x, hx0, _⟩ := hd o x' hx; exact r.own o x hx0⟩
  · exact ⟨hm.is, fun p hp => by
      obtain ⟨a1, a2, a3, a4⟩ := hm.away p hp
      exact ⟨a1, a2, fun o x' hx => by obtain ⟨x, hx0, _⟩ := hd o x' hx; exact a3 o x hx0, a4⟩, hm.nodup, hm.ds⟩
end Go.Av

namespace Go.Av
variable [Gls]
def StTo (nt n0 : Nat) (s s' : St) : Prop := ∀ (c0 : Ctx) (H0 : Heap) (c : Ctx) (act : Act) (μ : Mu), Good nt c0 H0 n0 c s act → MOk n0 c0 H0 c s.H μ act → ∃ c', c'.w = c.w ∧ Good nt c0 H0 n0 c' s' act ∧ MOk n0 c0 H0 c' s'.H μ act
section
variable {P : Program} {nt n0 : Nat} {s s' : St} {Q : AExit → St → Mu → Prop} {μ : Mu}
theorem StTo.loop (hw : StTo nt n0 s s') {b : Code} (h : SemLoop P nt n0 b Q s' μ) : SemLoop P nt n0 b Q s μ := by
  intro c0 H0 c act g hm R hR
  obtain ⟨c', hc, g', hm'⟩ := hw c0 H0 c act μ g hm
  have := h c0 H0 c' act g' hm' R hR
  rwa [hc] at this
theorem StTo.semM (hw : StTo nt n0 s s') {c : Code} (h : SemM P nt n0 c Q s' μ) : SemM P nt n0 c Q s μ := by
  intro c0 H0 c act g hm R hR
  obtain ⟨c', hc, g', hm'⟩ := hw c0 H0 c act μ g hm
  have := h c0 H0 c' act g' hm' R hR
  rwa [hc] at this
theorem Kont.to (hw : StTo nt n0 s s') : ∀ (K : List Kn) (e : AExit), Kont P nt n0 Q K e s' μ → Kont P nt n0 Q K e s μ := by
  intro K
  induction K with
  | nil =>
    intro e h c0 H0 c act g hm
    obtain ⟨c', hc, g', hm'⟩ := hw c0 H0 c act μ g hm
    obtain ⟨c2, s2, h1, h2⟩ := h c0 H0 c' act g' hm'
    exact ⟨c2, s2, h1.trans hc, h2⟩
  | cons k K ih =>
    intro e h
    cases k with
    | seq c =>
      cases e with
      | normal => exact hw.semM h
      | exit i => exact ih _ h
      | ret => exact ih _ h
    | block id =>
      cases e with
      | normal => exact ih _ h
      | ret => exact ih _ h
      | exit i =>
        have h' : blockM id (Kont P nt n0 Q K) (.exit i) s' μ := h
        show blockM id (Kont P nt n0 Q K) (.exit i) s μ
        simp only [blockM] at h' ⊢
        cases hb : Nat.beq i id with
        | true => rw [hb, cond_true] at h'; exact ih _ h'
        | false => rw [hb, cond_false] at h'; exact ih _ h'
    | loop b =>
      cases e with
      | normal => exact hw.loop h
      | exit i => exact ih _ h
      | ret => exact ih _ h
theorem SemK.to {cf : Cf} {K : List Kn} (hw : StTo nt n0 s s') (h : SemK P nt n0 Q cf K s' μ) : SemK P nt n0 Q cf K s μ := by
  cases cf with
  | code c => exact hw.semM h
  | exit e => exact Kont.to hw K e h
  | ops ops l =>
    intro c0 H0 c act g hm Qx hQ R hR
    obtain ⟨c', hc, g', hm'⟩ := hw c0 H0 c act μ g hm
    have := h c0 H0 c' act g' hm' Qx hQ R hR
    rwa [hc] at this
  | loop b => exact hw.loop h
end
def FrzC (o n : Nat) (es : List AV) (a a' : AV) : Prop := a' = a ∨ (a = .ref o 0 n ∧ a' = .list true es)
def FrzE (o n : Nat) (es : List AV) (e e' : AV) : Prop := e.cells.length = e'.cells.length ∧ ∀ (k : Nat) a a', e.cells[k]? = some a → e'.cells[k]? = some a' → FrzC o n es a a'
def FrzEs (o n : Nat) (es l l' : List AV) : Prop := l.length = l'.length ∧ ∀ (i : Nat) e e', l[i]? = some e → l'[i]? = some e' → FrzE o n es e e'
theorem frzE_same {o n : Nat} {es : List AV} {e : AV} : FrzE o n es e e := ⟨rfl, fun k a a' h h' => .inl (by rw [h] at h'; exact (Option.some.inj h').symm)⟩
theorem frz_same {o n : Nat} {es l : List AV} : FrzEs o n es l l := ⟨rfl, fun i e e' h h' => by rw [h] at h'; cases h'; exact frzE_same⟩
theorem frz_nil {o n : Nat} {es : List AV} : FrzEs o n es [] [] := frz_same
theorem frz_cons {o n : Nat} {es l l' : List AV} {e e' : AV} (h : FrzE o n es e e') (t : FrzEs o n es l l') : FrzEs o n es (e :: l) (e' :: l') := by
  refine ⟨by simp [t.1], fun i a b ha hb => ?_⟩
  cases i with
  | zero => simp at ha hb; subst ha hb; exact h
  | succ i => simp at ha hb; exact t.2 i a b ha hb
theorem frzE_ref {o n m : Nat} {es : List AV} (h : m = n) : FrzE o n es (.ref o 0 m) (.list true es) := by
  subst h
  refine ⟨rfl, fun k a a' ha ha' => ?_⟩
  cases k with
  | zero => simp [AV.cells] at ha ha'; subst ha ha'; exact .inr ⟨rfl, rfl⟩
  | succ k => simp [AV.cells] at ha
def FrzV (o n : Nat) (es : List AV) (a a' : AV) : Prop := FrzC o n es a a' ∨ ∃ cs cs', a = .agg cs ∧ a' = .agg cs' ∧ cs.length = cs'.length ∧ ∀ (k : Nat) b b', cs[k]? = some b → cs'[k]? = some b' → FrzC o n es b b'
def frzA1 (o : Nat) (es : List AV) (a : AV) : AV := match a with
  | .ref q off len => bif Nat.beq q o then .list true es else .ref q off len
  | a => a
def frzHas (o : Nat) : List AV → Bool
  | [] => false
  | .ref q _ _ :: r => bif Nat.beq q o then true else frzHas o r
  | _ :: r => frzHas o r
def frzA (o : Nat) (es : List AV) (a : AV) : AV := match a with
  | .ref q off len => bif Nat.beq q o then .list true es else .ref q off len
  | .agg cs => bif frzHas o cs then .agg (cs.map (frzA1 o es)) else a
  | a => a
def frzOkA1 (o n : Nat) (a : AV) : Prop := match a with
  | .ref q off len => bif Nat.beq q o then (off = 0 ∧ len = n) else True
  | _ => True
def frzOkL (o n : Nat) : List AV → Prop
  | [] => True
  | a :: r => frzOkA1 o n a ∧ frzOkL o n r
def frzOkA (o n : Nat) (a : AV) : Prop := match a with
  | .ref q off len => bif Nat.beq q o then (off = 0 ∧ len = n) else True
  | .agg cs => bif frzHas o cs then frzOkL o n cs else True
  | _ => True
theorem frz1_ok {o n : Nat} {es : List AV} {a : AV} (h : frzOkA1 o n a) : FrzC o n es a (frzA1 o es a) := by
  unfold frzA1
  split
  · rename_i q off len
    simp only [frzOkA1] at h
    cases hqo : Nat.beq q o with
    | false => rw [cond_false]; exact .inl rfl
    | true =>
      rw [hqo, cond_true] at h
      obtain rfl := Nat.eq_of_beq_eq_true hqo
      obtain ⟨rfl, rfl⟩ := h
      rw [cond_true]; exact .inr ⟨rfl, rfl⟩
  · exact .inl rfl
theorem frzOkL_get {o n : Nat} : ∀ {cs : List AV}, frzOkL o n cs → ∀ (k : Nat) b, cs[k]? = some b → frzOkA1 o n b := by
  intro cs
  induction cs with
  | nil => intro _ k b h; simp at h
  | cons a r ih =>
    rintro ⟨h1, h2⟩ k b hb
    cases k with
    | zero => simp at hb; subst hb; exact h1
    | succ k => simp at hb; exact ih h2 k b hb
def frzPick (slots : List Nat) (o : Nat) (es : List AV) (L : List (Nat × AV)) : List (Nat × AV) := slots.map fun t => (t, frzA o es (fr L t))
def frzPickP (o n : Nat) (L : List (Nat × AV)) : List Nat → Prop
  | [] => True
  | t :: r => frzOkA o n (fr L t) ∧ frzPickP o n L r
def frzGP (G : List (Nat × Obj)) (o n : Nat) (es : List AV) : List (Nat × Obj) → Prop
  | [] => True
  | (q, x') :: r => (Nat.beq q o = false ∧ wkG1 x'.gone (∃ x, hp G q = some x ∧ x'.esz = x.esz ∧ x'.solo = true ∧ x'.spent = false ∧ FrzEs o n es x.es x'.es)) ∧ frzGP G o n es r
theorem frzPick_fr {o n : Nat} {es : List AV} {L : List (Nat × AV)} : ∀ {slots : List Nat}, frzPickP o n L slots → ∀ t, fr (frzPick slots o es L) t = .junk ∨ FrzV o n es (fr L t) (fr (frzPick slots o es L) t) := by
  intro slots
  induction slots with
  | nil => intro _ t; exact .inl rfl
  | cons q r ih =>
    rintro ⟨h1, h2⟩ t
    have he : fr (frzPick (q :: r) o es L) t = bif Nat.beq t q then frzA o es (fr L q) else fr (frzPick r o es L) t := rfl
    cases hb : Nat.beq t q with
    | false => rw [he, hb, cond_false]; exact ih h2 t
    | true =>
      obtain rfl := Nat.eq_of_beq_eq_true hb
      rw [he, hb, cond_true]
      refine .inr ?_
      unfold frzA
      split
      · rename_i q off len hq
        rw [hq]
        simp only [frzOkA, hq] at h1
        exact .inl (frz1_ok (a := .ref q off len) h1)
      · rename_i cs hq
        simp only [frzOkA, hq] at h1
        cases hh : frzHas o cs with
        | false => rw [cond_false]; exact .inl (.inl rfl)
        | true =>
          rw [hh, cond_true] at h1
          rw [cond_true]
          refine .inr ⟨cs, _, hq, rfl, by simp, fun k b b' hk hk' => ?_⟩
          rw [List.getElem?_map, hk] at hk'
          simp only [Option.map_some, Option.some.injEq] at hk'
          subst hk'
          exact frz1_ok (frzOkL_get h1 k b hk)
      · exact .inl (.inl rfl)
theorem frzGP_get {G : List (Nat × Obj)} {o n : Nat} {es : List AV} : ∀ {G' : List (Nat × Obj)}, frzGP G o n es G' → ∀ q x', hp G' q = some x' → q ≠ o ∧ ∃ x, hp G q = some x ∧ x'.esz = x.esz ∧ x'.solo = true ∧ x'.spent = false ∧ FrzEs o n es x.es x'.es := by
  intro G'
  induction G' with
  | nil => intro _ q x' h; cases h
  | cons p r ih =>
    obtain ⟨d, y⟩ := p
    rintro ⟨h1, h2⟩ q x' hx
    have he : hp ((d, y) :: r) q = bif Nat.beq q d then (bif y.gone then none else some y) else hp r q := rfl
    cases hb : Nat.beq q d with
    | false => rw [he, hb, cond_false] at hx; exact ih h2 q x' hx
    | true =>
      obtain rfl := Nat.eq_of_beq_eq_true hb
      rw [he, hb, cond_true] at hx
      cases hg : y.gone with
      | true => rw [hg] at hx; cases hx
      | false =>
        have h1b := h1.2
        rw [hg] at hx h1b
        cases hx
        exact ⟨(fun e => by subst e; have h3 := h1.1; rw [Nat.beq_refl] at h3; cases h3), h1b⟩
theorem freeze_to {nt n0 n o : Nat} {L L' : List (Nat × AV)} {G G' : List (Nat × Obj)} {y : Obj} (hy : hp G o = some y) (hf : ∀ e ∈ y.es, FlatE e)
    (hL : ∀ t, fr L' t = .junk ∨ FrzV o y.es.length y.es (fr L t) (fr L' t))
    (hG : ∀ q x', hp G' q = some x' → q ≠ o ∧ ∃ x, hp G q = some x ∧ x'.esz = x.esz ∧ x'.solo = true ∧ x'.spent = false ∧ FrzEs o y.es.length y.es x.es x'.es) : StTo nt n0 ⟨fr L, hp G, n⟩ ⟨fr L', hp G', n⟩ := by
  intro c0 H0 c act μ g hm
  let c' : Ctx := { c with So := fun b => c.So b ∨ b = (c.ρ o).blk }
  have hle : ∀ {M : Nat → Prop}, c.Le M c' := ⟨fun _ _ => rfl, fun _ h => h, fun _ h => .inl h, fun _ _ => rfl, rfl⟩
  obtain ⟨hoM, hor, hok⟩ := g.inv.obj o y hy
  have hblk : (c.ρ o).blk < c.w.heap.size := by
    obtain ⟨⟨cur, hb, _⟩, _⟩ := hor
    exact (Array.getElem?_eq_some_iff.1 hb).1
  let Hr : Heap := fun q => if q = o then some y else none
  have hIr : Inv c Hr (· < n) := by
    refine g.inv.forget (fun q x hx => ?_) (fun q q' x x' hx hx' hne hb => ?_)
    · by_cases hq : q = o
      · have hx2 : y = x := by simpa [Hr, hq] using hx
        exact ⟨y, by rw [hq]; exact hy, by rw [hx2], by rw [hx2], fun h => by rw [hx2]; exact h⟩
      · simp [Hr, hq] at hx
    · exfalso
      by_cases hq : q = o
      · by_cases hq' : q' = o
        · exact hne (hq.trans hq'.symm)
        · simp [Hr, hq'] at hx'
      · simp [Hr, hq] at hx
  have hcv : Cv true Hr (.ref o 0 y.es.length) (.list true y.es) := by
    refine .ref (x := y) (by simp [Hr]) (by omega) rfl (fun i e e' he he' => ?_) (fun i e e' k a b he he' ha hb => ?_)
    · rw [Nat.zero_add] at he; rw [he] at he'; cases he'; rfl
    · rw [Nat.zero_add] at he; rw [he] at he'; cases he'
      rw [ha] at hb; cases hb
      obtain ⟨v, rfl⟩ := hf e (List.mem_of_getElem? he) a (List.mem_of_getElem? ha)
      exact .sc
  have hfrz : ∀ {v : Value}, VRel c false (.ref o 0 y.es.length) v → VRel c' false (.list true y.es) v := fun {v} hv =>
    (cv_ok hIr (c' := c') rfl (fun b hb => hb.elim (fun h => .inl ⟨rfl, h⟩) (fun h => .inr (.inl h))) (fun _ b hb => .inl hb) (fun q x hx => by
      by_cases hq : q = o
      · subst hq; exact .inr (.inr rfl)
      · simp [Hr, hq] at hx) hcv hv).shallow
  have hsep : ∀ q x, hp G q = some x → q ≠ o → (c.ρ q).blk ≠ (c.ρ o).blk := fun q x hx hne hb => by
    have := (g.inv.sep q o x y hx hy hne hb).1
    rw [(g.solo q x hx).1] at this; cases this
  have hcell : ∀ {a a' : AV} {v : Value}, FrzC o y.es.length y.es a a' → VRel c false a v → a.Ok (· < n) → VRel c' false a' v ∧ a'.Ok (· < n) := by
    rintro a a' v (rfl | ⟨rfl, rfl⟩) hv hk
    · exact ⟨hv.mono (M := (· < n)) hle (.inr hk), hk⟩
    · exact ⟨hfrz hv, .list⟩
  have gI : Inv c' (hp G') (· < n) := by
    refine ⟨fun q x' hx' => ?_, fun q q' x1 x2 h1 h2 hne hb => ?_, fun q x' hx' => ?_, fun b hb => ?_, g.inv.base, fun b hb => ?_, fun q x' hx' => ?_, GF.mono (M := (· < n)) g.inv.glob hle⟩
    · obtain ⟨hne, x, hx, hz, _, _, hF⟩ := hG q x' hx'
      obtain ⟨i1, ⟨⟨cur, hb, hs, hc⟩, i3, i4, i5⟩, i6⟩ := g.inv.obj q x hx
      have hget : ∀ (i : Nat) e', x'.es[i]? = some e' → ∃ e, x.es[i]? = some e ∧ FrzE o y.es.length y.es e e' := fun i e' he' => by
        have hlt : i < x.es.length := by rw [hF.1]; exact (List.getElem?_eq_some_iff.1 he').1
        exact ⟨_, List.getElem?_eq_getElem hlt, hF.2 i _ e' (List.getElem?_eq_getElem hlt) he'⟩
      refine ⟨i1, ⟨⟨cur, hb, hs, fun i e' he' => ?_⟩, by rw [← hF.1]; exact i3, i4, by rw [hz]; exact i5⟩, fun e' he' a' ha' => ?_⟩
      · obtain ⟨e, he, hfe⟩ := hget i e' he'
        obtain ⟨k1, k2⟩ := hc i e he
        refine ⟨hfe.1.symm.trans k1, fun k a' ha' => ?_⟩
        have hlt : k < e.cells.length := by rw [hfe.1]; exact (List.getElem?_eq_some_iff.1 ha').1
        obtain ⟨v, v1, v2, v3⟩ := k2 k _ (List.getElem?_eq_getElem hlt)
        exact ⟨v, v1, (hcell (hfe.2 k _ a' (List.getElem?_eq_getElem hlt) ha') v2 (i6 e (List.mem_of_getElem? he) _ (List.getElem_mem hlt))).1, v3⟩
      · obtain ⟨i, hi⟩ := List.getElem?_of_mem he'
        obtain ⟨e, he, hfe⟩ := hget i e' hi
        obtain ⟨k, hk⟩ := List.getElem?_of_mem ha'
        have hlt : k < e.cells.length := by rw [hfe.1]; exact (List.getElem?_eq_some_iff.1 hk).1
        rcases hfe.2 k _ a' (List.getElem?_eq_getElem hlt) hk with h | ⟨_, h⟩
        · rw [h]; exact i6 e (List.mem_of_getElem? he) _ (List.getElem_mem hlt)
        · rw [h]; exact .list
    · obtain ⟨_, y1, hy1, _⟩ := hG q x1 h1
      obtain ⟨_, y2, hy2, _⟩ := hG q' x2 h2
      have := (g.inv.sep q q' y1 y2 hy1 hy2 hne hb).1
      rw [(g.solo q y1 hy1).1] at this; cases this
    · obtain ⟨hne, x, hx, _⟩ := hG q x' hx'
      have := g.inv.stab q x hx
      exact ⟨this.1, fun h => h.elim this.2 (hsep q x hx hne)⟩
    · rcases hb with hb | hb | hb
      · exact g.inv.lt b (.inl hb)
      · exact g.inv.lt b (.inr hb)
      · show b < c.w.heap.size
        rw [hb]; exact hblk
    · rcases hb with hb | hb
      · exact g.inv.own b hb
      · show c.B ≤ b
        rw [hb]; exact g.inv.low o y hy
    · obtain ⟨_, x, hx, _⟩ := hG q x' hx'
      exact g.inv.low q x hx
  have r := g.reach
  refine ⟨c', rfl, ⟨gI, fun q x' hx' => ?_, fun t => ?_, fun t => ?_, g.size, ⟨r.rho, r.os, r.tape, r.output, r.size, r.block, r.stable, r.sa, fun b hb => .inl (r.so1 b hb), fun b hb => ?_, r.B, fun q x' hx' => ?_⟩, g.le0⟩, ⟨fun p hp => (hm.is p hp).le rfl hle, fun p hp => ?_, hm.nodup, hm.ds⟩⟩
  · obtain ⟨_, _, _, _, h1, h2, _⟩ := hG q x' hx'
    exact ⟨h1, h2⟩
  · show VRel c' false (fr L' t) _
    rcases hL t with h | h | ⟨cs, cs', h1, h2, hl, hc⟩
    · rw [h]; exact .junk
    · exact (hcell h (g.frame t) (g.ok t)).1
    · rw [h2]
      have hfv := g.frame t
      have hfo := g.ok t
      rw [show St.A ⟨fr L, hp G, n⟩ t = _ from h1] at hfv hfo
      cases hfo with
      | agg hko =>
        generalize hvv : act.tmps.getD _ undef = vv at hfv
        cases hfv with
        | agg hls hoc hrl =>
          refine .agg (by omega) hoc fun i a' v ha' hv => ?_
          have hlt : i < cs.length := by rw [hl]; exact (List.getElem?_eq_some_iff.1 ha').1
          exact (hcell (hc i _ a' (List.getElem?_eq_getElem hlt) ha') (hrl i _ v (List.getElem?_eq_getElem hlt) hv) (hko _ (List.getElem_mem hlt))).1
  · show (fr L' t).Ok _
    rcases hL t with h | h | ⟨cs, cs', h1, h2, hl, hc⟩
    · rw [h]; exact .junk
    · exact (hcell h (g.frame t) (g.ok t)).2
    · rw [h2]
      have hfv := g.frame t
      have hfo := g.ok t
      rw [show St.A ⟨fr L, hp G, n⟩ t = _ from h1] at hfv hfo
      cases hfo with
      | agg hko =>
        refine .agg fun a' ha' => ?_
        obtain ⟨i, hi⟩ := List.getElem?_of_mem ha'
        have hlt : i < cs.length := by rw [hl]; exact (List.getElem?_eq_some_iff.1 hi).1
        rcases hc i _ a' (List.getElem?_eq_getElem hlt) hi with h | ⟨_, h⟩
        · rw [h]; exact hko _ (List.getElem_mem hlt)
        · rw [h]; exact .list
  · rcases hb with hb | hb
    · exact r.so2 b hb
    · rw [hb]
      exact .inr (r.own o y hy)
  · obtain ⟨_, x, hx, _⟩ := hG q x' hx'
    exact r.own q x hx
  · obtain ⟨a1, a2, a3, a4⟩ := hm.away p hp
    exact ⟨a1, fun h => h.elim a2 (fun h => a3 o y hy h.symm), fun q x' hx' => by obtain ⟨_, x, hx, _⟩ := hG q x' hx'; exact a3 q x hx, a4⟩
theorem SemK.freeze {P : Program} {nt n0 n : Nat} {Q : AExit → St → Mu → Prop} {cf : Cf} {K : List Kn} {L : List (Nat × AV)} {G : List (Nat × Obj)} {μ : Mu} (o : Nat) (es : List AV) (slots : List Nat) (G' : List (Nat × Obj)) {y : Obj} (hy : hp G o = some y) (he : y.es = es) (hf : ∀ e ∈ es, FlatE e)
    (h : SemK P nt n0 Q cf K ⟨fr (frzPick slots o es L), hp G', n⟩ μ) (hL : frzPickP o es.length L slots) (hG : frzGP G o es.length es G') : SemK P nt n0 Q cf K ⟨fr L, hp G, n⟩ μ := by
  subst he
  exact SemK.to (freeze_to hy hf (frzPick_fr hL) (frzGP_get hG)) h
def denilM : List Bool → List AV → List AV
  | true :: m, c :: cs => denC c :: denilM m cs
  | false :: m, c :: cs => c :: denilM m cs
  | _, cs => cs
theorem denilM_get : ∀ (m : List Bool) (cs : List AV), (denilM m cs).length = cs.length ∧ ∀ (k : Nat) a', (denilM m cs)[k]? = some a' → ∃ a, cs[k]? = some a ∧ (a' = a ∨ a' = denC a) := by
  intro m
  induction m with
  | nil => intro cs; exact ⟨rfl, fun k a' h => ⟨a', h, .inl rfl⟩⟩
  | cons b m ih =>
    intro cs
    cases cs with
    | nil => cases b <;> exact ⟨rfl, fun k a' h => ⟨a', h, .inl rfl⟩⟩
    | cons c cs =>
      obtain ⟨h1, h2⟩ := ih cs
      cases b with
      | true =>
        refine ⟨by simp [denilM, h1], fun k a' h => ?_⟩
        cases k with
        | zero => simp [denilM] at h; exact ⟨c, rfl, .inr h.symm⟩
        | succ k => simp [denilM] at h; simpa using h2 k a' h
      | false =>
        refine ⟨by simp [denilM, h1], fun k a' h => ?_⟩
        cases k with
        | zero => simp [denilM] at h; exact ⟨c, rfl, .inl h.symm⟩
        | succ k => simp [denilM] at h; simpa using h2 k a' h
theorem SemK.denilF {P : Program} {nt n0 n : Nat} {Q : AExit → St → Mu → Prop} {cf : Cf} {K : List Kn} {μ : Mu} {L : List (Nat × AV)} {H : Heap} (t : Nat) (m : List Bool) (cs' : List AV) {cs : List AV} (h0 : fr L t = .agg cs) (he : denilM m cs = cs')
    (h : SemK P nt n0 Q cf K ⟨fr ((t, .agg cs') :: L), H, n⟩ μ) : SemK P nt n0 Q cf K ⟨fr L, H, n⟩ μ := by
  subst he
  obtain ⟨hl, hg⟩ := denilM_get m cs
  refine SemK.sub (s' := ⟨fr ((t, .agg (denilM m cs)) :: L), H, n⟩) (fun c0 H0 c act μ g hm => ⟨?_, hm⟩) h
  have hfr : ∀ q, fr ((t, .agg (denilM m cs)) :: L) q = if q = t then .agg (denilM m cs) else fr L q := by
    intro q
    simp only [fr]
    by_cases hq : q = t
    · subst hq; simp
    · have : Nat.beq q t = false := by rw [← Bool.not_eq_true, Nat.beq_eq]; exact hq
      rw [this, if_neg hq]; rfl
  refine ⟨g.inv, g.solo, fun q => ?_, fun q => ?_, g.size, g.reach, g.le0⟩
  · show VRel c false (fr ((t, .agg (denilM m cs)) :: L) q) _
    rw [hfr]
    by_cases hq : q = t
    · subst hq
      rw [if_pos rfl]
      have hfv := g.frame q
      rw [show St.A ⟨fr L, H, n⟩ q = .agg cs from h0] at hfv
      generalize hvv : act.tmps.getD _ undef = vv at hfv
      cases hfv with
      | agg hls hoc hrl =>
        refine .agg (by omega) hoc fun i a' v ha' hv => ?_
        obtain ⟨a, ha, hc⟩ := hg i a' ha'
        rcases hc with rfl | rfl
        · exact hrl i _ v ha hv
        · exact denC_rel (hrl i _ v ha hv)
    · rw [if_neg hq]; exact g.frame q
  · show (fr ((t, .agg (denilM m cs)) :: L) q).Ok _
    rw [hfr]
    by_cases hq : q = t
    · subst hq
      rw [if_pos rfl]
      have hfo := g.ok q
      rw [show St.A ⟨fr L, H, n⟩ q = .agg cs from h0] at hfo
      cases hfo with
      | agg hko =>
        refine .agg fun a' ha' => ?_
        obtain ⟨i, hi⟩ := List.getElem?_of_mem ha'
        obtain ⟨a, ha, hc⟩ := hg i a' hi
        rcases hc with rfl | rfl
        · exact hko _ (List.mem_of_getElem? ha)
        · exact denC_ok (hko _ (List.mem_of_getElem? ha))
    · rw [if_neg hq]; exact g.ok q
theorem frzOb {P : Prop} (h : P := by
  first
    | exact trivial
    | rfl
    | exact ⟨rfl, rfl⟩
    | (refine ⟨rfl, ?_⟩; first | rfl | (simp; done) | (simp; rfl) | (simp [*]; done))
    | exact ⟨rfl, _, rfl, rfl, rfl, rfl, frz_same⟩
    | (refine ⟨rfl, _, rfl, rfl, rfl, rfl, frz_cons (frzE_ref ?_) frz_nil⟩; first | rfl | (simp; done) | (simp [*]; done))) : P := h
end Go.Av

namespace Go.D
def sortC {α : Type} (c : α → α → Option Int) (l : List α) : List α := l.mergeSort fun x y => !(decide ((c y x).getD 0 < 0))
def sortO {α : Type} (c : α → α → Option Int) (l : List α) : Option (List α) := if l.length ≤ 140737488355328 then some (sortC c l) else none
theorem sortO_ok {α : Type} {c : α → α → Option Int} {l m : List α} (h : sortO c l = some m) : l.length ≤ 140737488355328 ∧ m = sortC c l := by
  unfold sortO at h
  split at h
  · rename_i hl; cases h; exact ⟨hl, rfl⟩
  · cases h
theorem sortO_nil {α : Type} {c : α → α → Option Int} {m : List α} (h : sortO c [] = some m) : m = [] := by
  rw [(sortO_ok h).2]; simp [sortC]
theorem sortO_len {α : Type} {c : α → α → Option Int} {l m : List α} (h : sortO c l = some m) : m.length = l.length := by
  rw [(sortO_ok h).2]; simp [sortC]
end Go.D
namespace Go.Av
variable [Gls]
open Go.D
class FlatI {α : Type} (f : α → AV) : Prop where
  flat : ∀ x, FlatE (f x)
  whole : ∀ x, (f x).whole = true
  still : ∀ x, StillE (f x)
instance iInt {k : IntKind} : FlatI (aI k) := ⟨fun _ => flatSc, fun _ => rfl, fun _ => stillSc⟩
instance iBool : FlatI aB := ⟨fun _ => flatSc, fun _ => rfl, fun _ => stillSc⟩
instance iStr : FlatI aS := ⟨fun _ => flatSc, fun _ => rfl, fun _ => stillSc⟩
class ListI {α : Type} (g : Bool → α → AV) : Prop where
  cva : ∀ {H : Heap} {o : Bool} {x : α}, Cv false H (g o x) (g false x)
  cvt : ∀ {H : Heap} {o : Bool} {x : α}, Cv true H (g o x) (g o x)
  len : ∀ (o o' : Bool) (x : α), (g o x).cells.length = (g o' x).cells.length
  free : ∀ (o : Bool) (x : α), FreeE (g o x)
  still : ∀ (o : Bool) (x : α), StillE (g o x)
theorem cvW {α : Type} {f : α → AV} [i : FlatI f] {m : Bool} {H : Heap} {x : α} : Cv m H (f x) (f x) := cv_flat (i.flat x) (i.whole x)
theorem cvG {α : Type} {g : Bool → α → AV} [i : ListI g] {H : Heap} {o : Bool} {x : α} : Cv false H (g o x) (g false x) := i.cva
theorem cvGt {α : Type} {g : Bool → α → AV} [i : ListI g] {H : Heap} {o : Bool} {x : α} : Cv true H (g o x) (g o x) := i.cvt
theorem cvLf {α : Type} {f : α → AV} [i : FlatI f] {H : Heap} {o : Bool} {l : List α} : Cv false H (.list o (l.map f)) (.list false (l.map f)) := cv_list (flat_map i.flat l)
theorem cvLg {α : Type} {g : Bool → α → AV} [i : ListI g] {H : Heap} {o p : Bool} {l : List α} : Cv false H (.list o (l.map (g p))) (.list false (l.map (g false))) :=
  cv_lmap (fun x => i.len _ _ x) (fun _ => cv_cells i.cva) l
theorem cvLe {α : Type} {f : α → AV} [i : FlatI f] {H : Heap} {o p : Bool} {l : List (List α)} : Cv false H (.list o (l.map (encl p f))) (.list false (l.map (encl false f))) :=
  cv_lmap (f := encl p f) (g := encl false f) (fun _ => rfl) (fun x => cv_cells (show Cv false H (.list p (x.map f)) (.list false (x.map f)) from cvLf)) l
theorem cvLq {α : Type} {f : α → AV} [i : FlatI f] {H : Heap} {o : Bool} {es : List AV} {l : List α} (h : es = l.map f) : Cv false H (.list o es) (.list false (l.map f)) := cv_leq h (flat_map i.flat l)
theorem cvRe {α : Type} {f : α → AV} [i : FlatI f] (p : Bool) {H : Heap} {o n : Nat} {x : Obj} {l : List (List α)} (hH : H o = some x) (he : x.es = l.map (encl p f)) (hn : n = l.length) : Cv false H (.ref o 0 n) (.list false (l.map (encl false f))) :=
  cv_refl (f := encl p f) (g := encl false f) hH he hn (fun _ => rfl) (fun x => cv_cells (show Cv false H (.list p (x.map f)) (.list false (x.map f)) from cvLf))
theorem cvRf {α : Type} {f : α → AV} {H : Heap} {o n : Nat} {x : Obj} {l : List (List α)} (hH : H o = some x) (he : x.es = l.map (encl true f)) (hn : n = l.length) : Cv true H (.ref o 0 n) (.list true (l.map (encl true f))) :=
  cv_refl (f := encl true f) (g := encl true f) hH he hn (fun _ => rfl) (fun x => cv_cellsT (show Cv true H (.list true (x.map f)) (.list true (x.map f)) from .listS rfl))
theorem cvR {α : Type} {f : α → AV} [i : FlatI f] {m : Bool} {H : Heap} {o n : Nat} {x : Obj} {l : List α} (hH : H o = some x) (he : x.es = l.map f) (hn : n = (l.map f).length) : Cv m H (.ref o 0 n) (.list m (l.map f)) :=
  cv_ref hH he hn (flat_map i.flat l)
theorem cvRg {α : Type} {g : Bool → α → AV} [i : ListI g] (p : Bool) {H : Heap} {o n : Nat} {x : Obj} {l : List α} (hH : H o = some x) (he : x.es = l.map (g p)) (hn : n = l.length) : Cv false H (.ref o 0 n) (.list false (l.map (g false))) :=
  cv_refl hH he hn (fun x => i.len _ _ x) (fun _ => cv_cells i.cva)
theorem cvRt {α : Type} {g : Bool → α → AV} [i : ListI g] {H : Heap} {o n : Nat} {x : Obj} {l : List α} (hH : H o = some x) (he : x.es = l.map (g true)) (hn : n = l.length) : Cv true H (.ref o 0 n) (.list true (l.map (g true))) :=
  cv_refl hH he hn (fun _ => rfl) (fun _ => cv_cellsT i.cvt)
theorem cvNil {α : Type} {f : α → AV} {m : Bool} {H : Heap} {l : List α} (h : l = []) : Cv m H .nils (.list m (l.map f)) := cv_nils (by rw [h]; rfl)
theorem ownW {α : Type} {f : α → AV} [i : FlatI f] {x : α} : OwnO (f x) := own_flat (i.flat x) (i.whole x)
theorem ownL {α : Type} {f : α → AV} [i : FlatI f] {l : List α} : OwnO (.list true (l.map f)) := ownO_list (flat_map i.flat l)
def CvE (m : Bool) (H : Heap) (e e' : AV) : Prop := e.cells.length = e'.cells.length ∧ ∀ (k : Nat) a b, e.cells[k]? = some a → e'.cells[k]? = some b → Cv m H a b
def CvL (m : Bool) (H : Heap) (l l' : List AV) : Prop := l.length = l'.length ∧ ∀ (i : Nat) e e', l[i]? = some e → l'[i]? = some e' → CvE m H e e'
theorem CvL.nil {m : Bool} {H : Heap} : CvL m H [] [] := ⟨rfl, fun i e e' h => by simp at h⟩
theorem CvL.cons {m : Bool} {H : Heap} {e e' : AV} {l l' : List AV} (h : CvE m H e e') (t : CvL m H l l') : CvL m H (e :: l) (e' :: l') := by
  refine ⟨by simp [t.1], fun i a b ha hb => ?_⟩
  cases i with
  | zero => simp at ha hb; subst ha; subst hb; exact h
  | succ i => simp at ha hb; exact t.2 i a b ha hb
theorem cvE_one {m : Bool} {H : Heap} {e e' : AV} (h : Cv m H e e') (h1 : e.cells = [e]) (h2 : e'.cells = [e']) : CvE m H e e' := by
  refine ⟨by rw [h1, h2]; rfl, fun k a b ha hb => ?_⟩
  rw [h1] at ha; rw [h2] at hb
  cases k with
  | zero => simp at ha hb; subst ha; subst hb; exact h
  | succ k => simp at ha
theorem cvE_agg {m : Bool} {H : Heap} {cs cs' : List AV} (h : Cvs m H cs cs') : CvE m H (.agg cs) (.agg cs') := ⟨h.len, h.rel⟩
theorem cv_refs {m : Bool} {H : Heap} {o n : Nat} {x : Obj} {es : List AV} (hH : H o = some x) (h : CvL m H x.es es) (hn : n = es.length) : Cv m H (.ref o 0 n) (.list m es) := by
  subst hn
  refine .ref hH (by rw [h.1]; omega) rfl (fun i e e' he he' => ?_) (fun i e e' k a b he he' ha hb => ?_)
  · rw [Nat.zero_add] at he; exact (h.2 i e e' he he').1
  · rw [Nat.zero_add] at he; exact (h.2 i e e' he he').2 k a b ha hb
theorem cvM {P : Prop} (h : P := by
  repeat' first
    | exact Cvs.nil
    | refine Cvs.cons ?_ ?_
    | exact Cv.sc
    | exact Cv.fn0
    | exact Cv.listS rfl
    | exact cvLf
    | exact cvW
    | exact cvGt
    | exact cvG
    | exact cvLg
    | exact cvLe
    | refine cv_tup ?_
    | exact Cv.nils
    | exact cvNil (by first | rfl | assumption | (simp; done) | (simp [*]; done) | fail)
    | exact cvR rfl (by first | rfl | (simp; done) | (simp; rfl) | (simp [*]; done) | (simp [*]; rfl) | fail) (by first | rfl | (simp; done) | (simp; omega) | (simp [*]; done) | (simp [*]; omega) | fail)
    | exact cvRt rfl (by first | rfl | (simp; done) | (simp; rfl) | (simp [*]; done) | fail) (by first | rfl | (simp; done) | (simp; omega) | (simp [*]; done) | fail)
    | exact cvRg true rfl (by first | rfl | (simp; done) | (simp; rfl) | (simp [*]; done) | fail) (by first | rfl | (simp; done) | (simp; omega) | (simp [*]; done) | fail)
    | exact cvRg false rfl (by first | rfl | (simp; done) | (simp; rfl) | (simp [*]; done) | fail) (by first | rfl | (simp; done) | (simp; omega) | (simp [*]; done) | fail)
    | exact cvRe true rfl (by first | rfl | (simp; done) | (simp; rfl) | (simp [*]; done) | fail) (by first | rfl | (simp; done) | (simp; omega) | (simp [*]; done) | fail)
    | exact cvRe false rfl (by first | rfl | (simp; done) | (simp; rfl) | (simp [*]; done) | fail) (by first | rfl | (simp; done) | (simp; omega) | (simp [*]; done) | fail)
    | exact cvRf rfl (by first | rfl | (simp; done) | (simp; rfl) | (simp [*]; done) | fail) (by first | rfl | (simp; done) | (simp; omega) | (simp [*]; done) | fail)
    | exact cvLq (by first | rfl | (simp; done) | (simp [*]; done) | fail)
    | exact cv_leqS (by first | rfl | (simp; done) | (simp [*]; done) | fail)
    | exact cv_scE (by first | rfl | (simp; done) | (simp [*]; done) | fail)
    | refine cv_agg ?_
    | exact Cv.nils0
    | refine cv_refs rfl ?_ rfl
    | exact CvL.nil
    | refine CvL.cons ?_ ?_
    | refine cvE_agg ?_
    | refine cvE_one ?_ rfl rfl
    | refine Cv.ptrL rfl rfl rfl rfl (cv_cells ?_)
    | refine Cv.elemD rfl rfl (cv_cells ?_)
    | refine Cv.weak ?_
  first | done | fail) : P := h
theorem ownM {P : Prop} (h : P := by
  repeat' first
    | exact .sc
    | exact ownL
    | exact ownW
    | refine ownTup ?_
    | refine allCons ?_ ?_
    | exact allNil
    | refine OwnO.agg ?_
  first | done | fail) : P := h
class PCs (P : Program) (f : Nat) (S : outParam Prop) : Prop where
  ok : S
theorem pcN {P : Program} {f : Nat} {H : Heap} {as bs : List AV} {r : AV} {S : Prop} [i : PCs P f S] (k : S → Pure P f bs r) (hc : Cvs false (fun _ => none) as bs) : PureCall P f H as bs r := .none (k i.ok) hc
theorem pcL {P : Program} {f : Nat} {H : Heap} {as bs : List AV} {r : AV} {S : Prop} [i : PCs P f S] (k : S → Pure P f bs r) (hc : Cvs false H as bs) (ho : OwnO r) : PureCall P f H as bs r := .lent (k i.ok) hc ho
theorem pcM {P : Prop} (h : P := by
  first
    | exact pcN (by intro K; apply K; assumption) cvM
    | exact pcL (by intro K; apply K; assumption) cvM ownM) : P := h
theorem fq {p : Prop} (h : p) {P : Prop} (k : p → P := by first | exact id | exact bnot_of | exact absT | exact absN) : P := k h
theorem oblC {P : Prop} (h : P := by
  repeat' first
    | refine And.intro ?_ ?_
    | exact trivial
    | exact pcM
    | exact oblA
  first | done | fail) : P := h
theorem ren_slE (b : Bool) (i : Nat) (es : List AV) (f : Nat → Nat) : (slE b i es).ren f = slE b (f i) es := by cases b <;> simp [slE, AV.ren]
theorem wkSl {b : Bool} {i j : Nat} {es : List AV} {f : Nat → Nat} (h : j = f i) : slE b j es = (slE b i es).ren f := by rw [ren_slE, h]
theorem okSl {b : Bool} {i n : Nat} {es : List AV} (h : i < n) : (slE b i es).Ok (· < n) := by
  cases b with
  | true => exact .nils
  | false => exact .ref h
def lkG : List (Nat × Obj) → Nat → Option Obj
  | [], _ => none
  | (d, x) :: l, o => bif Nat.beq o d then some x else lkG l o
theorem lkG_hp : ∀ {G : List (Nat × Obj)} {o : Nat} {y : Obj}, lkG G o = some y → y.gone = false → hp G o = some y := by
  intro G
  induction G with
  | nil => intro o y h; cases h
  | cons p l ih =>
    intro o y h hg
    obtain ⟨d, x⟩ := p
    simp only [lkG] at h
    simp only [hp]
    cases hb : Nat.beq o d with
    | false => rw [hb] at h; exact ih h hg
    | true => rw [hb] at h; cases h; rw [hg]; rfl
theorem wkOpt {G : List (Nat × Obj)} {o : Nat} {x y : Obj} {f : Nat → Nat} (h : lkG G o = some y) (hb : y.gone = x.gone) (hz : y.esz = x.esz) (he : y.es = x.es.map (AV.ren f)) : wkG1 x.gone (∃ y, hp G o = some y ∧ y.esz = x.esz ∧ y.es = x.es.map (AV.ren f)) := by
  cases hg : x.gone with
  | true => trivial
  | false => exact ⟨y, lkG_hp h (hb.trans hg), hz, he⟩
theorem wkOptF {α : Type} {e : α → AV} [i : FlatI e] {G : List (Nat × Obj)} {o z : Nat} {g : Bool} {sp so : Bool} {l l' : List α} {y : Obj} {f : Nat → Nat} (h : lkG G o = some y) (hb : y.gone = g) (hz : y.esz = z) (he : y.es = l'.map e) (hl : l' = l) :
    wkG1 g (∃ y, hp G o = some y ∧ y.esz = z ∧ y.es = (l.map e).map (AV.ren f)) :=
  wkOpt (x := { es := l.map e, esz := z, spent := sp, solo := so, gone := g }) h hb hz (by rw [he, hl]; exact ren_still (still_map i.still l) f)
theorem wkOptG {α : Type} {e : Bool → α → AV} [i : ListI e] {G : List (Nat × Obj)} {o z : Nat} {g p : Bool} {sp so : Bool} {l l' : List α} {y : Obj} {f : Nat → Nat} (h : lkG G o = some y) (hb : y.gone = g) (hz : y.esz = z) (he : y.es = l'.map (e p)) (hl : l' = l) :
    wkG1 g (∃ y, hp G o = some y ∧ y.esz = z ∧ y.es = (l.map (e p)).map (AV.ren f)) :=
  wkOpt (x := { es := l.map (e p), esz := z, spent := sp, solo := so, gone := g }) h hb hz (by rw [he, hl]; exact ren_still (still_map (i.still p) l) f)
theorem wkOptE {α : Type} {e : α → AV} {G : List (Nat × Obj)} {o z : Nat} {g p : Bool} {sp so : Bool} {l l' : List (List α)} {y : Obj} {f : Nat → Nat} (h : lkG G o = some y) (hb : y.gone = g) (hz : y.esz = z) (he : y.es = l'.map (encl p e)) (hl : l' = l) :
    wkG1 g (∃ y, hp G o = some y ∧ y.esz = z ∧ y.es = (l.map (encl p e)).map (AV.ren f)) :=
  wkOpt (x := { es := l.map (encl p e), esz := z, spent := sp, solo := so, gone := g }) h hb hz (by rw [he, hl]; exact ren_still (still_map (fun _ => still_encl) l) f)
theorem cvSl {α : Type} {e : α → AV} [i : FlatI e] {m : Bool} {G : List (Nat × Obj)} {o : Nat} {l : List α} {nb : Nb l} {y : Obj} (h : lkG G o = some y) (hb : y.gone = nb.1) (he : y.es = l.map e) : Cv m (hp G) (slE nb.1 o (l.map e)) (.list m (l.map e)) := by
  obtain ⟨b, hn⟩ := nb
  cases b with
  | true => obtain rfl := hn rfl; exact .nils
  | false => exact cv_ref (lkG_hp h hb) he rfl (flat_map i.flat l)
theorem okAgg {cs : List AV} {M : Nat → Prop} (h : ∀ a ∈ cs, a.Ok M) : ∀ e ∈ [AV.agg cs], ∀ a ∈ e.cells, a.Ok M := fun e he => by rw [List.mem_singleton.1 he]; exact h
def renOk (f : Nat → Nat) : List AV → List AV → Prop
  | [], [] => True
  | a :: r, b :: s => a = b.ren f ∧ renOk f r s
  | _, _ => False
theorem renOk_eq {f : Nat → Nat} : ∀ {cs cs' : List AV}, renOk f cs cs' → cs = AV.rens f cs'
  | [], [], _ => rfl
  | a :: r, b :: s, h => by
    show a :: r = AV.ren f b :: AV.rens f s
    rw [← h.1, ← renOk_eq h.2]
  | [], _ :: _, h => h.elim
  | _ :: _, [], h => h.elim
theorem aggV {f : Nat → Nat} {cs cs' : List AV} (h : renOk f cs cs') : AV.agg cs = (AV.agg cs').ren f := by rw [renOk_eq h]; rfl
theorem aggR {f : Nat → Nat} {cs cs' : List AV} (h : renOk f cs cs') : [AV.agg cs] = [AV.agg cs'].map (AV.ren f) := by rw [aggV h]; rfl
theorem refR {f : Nat → Nat} {i j n m : Nat} (hi : j = f i) (h : n = m) : AV.ref j 0 n = (AV.ref i 0 m).ren f := by rw [hi, h]; rfl
theorem aggOk {M : Nat → Prop} {cs : List AV} (h : ∀ a ∈ cs, a.Ok M) : (AV.agg cs).Ok M := .agg h
class TmD (P : Program) (T : outParam Ty) : Prop where
  ok : TyOk P T ∧ P.follows .mixedOrders = true
abbrev nbS {α : Type} {l : List α} (h : l = [] := by first | rfl | simp [*]) : Nb l := nbT h
theorem okF {α : Type} {f : α → AV} [i : FlatI f] {x : α} {M : Nat → Prop} : (f x).Ok M := (flat_free (i.flat x) (i.whole x) M).1
theorem okG {α : Type} {g : Bool → α → AV} [i : ListI g] {o : Bool} {x : α} {M : Nat → Prop} : (g o x).Ok M := (i.free o x M).1
theorem okM {P : Prop} (h : P := by
  repeat' first
    | exact allNil
    | refine allCons ?_ ?_
    | exact .sc
    | exact .list
    | exact okFn0
    | exact .elem
    | exact okF
    | exact okG
  first | done | fail) : P := h
theorem bI {α β : Type} {x : Option α} {f : α → Option β} {r : β} {G : Prop} (k : ∀ v, x = some v → f v = some r → G) : x.bind f = some r → G := fun h => bindE h k
theorem brI {α : Type} {c : Bool} {a b : Option α} {r : α} {G : Prop} (h1 : c = true → a = some r → G) (h2 : c = false → b = some r → G) : (bif c then a else b) = some r → G := fun h => brE h h1 h2
theorem oj {α : Type} {a b : α} (h : some a = some b) : a = b := Option.some.inj h
theorem ojI {α : Type} {a r : α} {G : α → Prop} (h : G a) : some a = some r → G r := fun e => Option.some.inj e ▸ h
theorem runT {P : Program} {T : Ty} {nt n0 : Nat} {μ : Mu} {Q : AExit → St → Mu → Prop} {cf cf' : Cf} {K K' : List Kn} {L L' : List (Nat × AV)} {G G' : List (Nat × Obj)} {n n' : Nat} {hs' : List Hint} {ps' : List Prop} [hT : TmD P T] (hs : List Hint)
    (k : SemK P nt n0 Q cf' K' ⟨fr L', hp G', n'⟩ μ) (h : runS P T nt 4000 cf K L G n hs [] = some (cf', K', L', G', n', hs', ps') := by exact rfl) (o : allP ps' := by exact oblC) : SemK P nt n0 Q cf K ⟨fr L, hp G, n⟩ μ := run_to hT.ok 4000 hs h o k
theorem rnI {A : Prop} {P : Program} {T : Ty} {nt n0 : Nat} {μ : Mu} {Q : AExit → St → Mu → Prop} {cf cf' : Cf} {K K' : List Kn} {L L' : List (Nat × AV)} {G G' : List (Nat × Obj)} {n n' : Nat} {hs' : List Hint} {ps' : List Prop} [hT : TmD P T] (hs : List Hint)
    (k : A → SemK P nt n0 Q cf' K' ⟨fr L', hp G', n'⟩ μ) (h : runS P T nt 4000 cf K L G n hs [] = some (cf', K', L', G', n', hs', ps') := by exact rfl) (o : allP ps' := by exact oblC) : A → SemK P nt n0 Q cf K ⟨fr L, hp G, n⟩ μ := fun a => run_to hT.ok 4000 hs h o (k a)
theorem runK {P : Program} {T : Ty} {nt n0 : Nat} {μ : Mu} {Q : AExit → St → Mu → Prop} {cf cf' : Cf} {K K' : List Kn} {L L' : List (Nat × AV)} {G G' : List (Nat × Obj)} {n n' : Nat} {hs' : List Hint} {ps' : List Prop} [hT : TmD P T] (hs : List Hint)
    (h : runS P T nt 4000 cf K L G n hs [] = some (cf', K', L', G', n', hs', ps') := by exact rfl) (o : allP ps' := by exact oblC) (k : SemK P nt n0 Q cf' K' ⟨fr L', hp G', n'⟩ μ) : SemK P nt n0 Q cf K ⟨fr L, hp G, n⟩ μ := run_to hT.ok 4000 hs h o k
theorem fi {P : Program} {T : Ty} {nt n0 : Nat} {fn : Func} {r : AV} {L : List (Nat × AV)} {G : List (Nat × Obj)} {n : Nat} {μ : Mu} {rs : List AV} (hr : resS T L G fn.results.toList = some rs := by exact rfl) (hc : Cv true (hp G) (packA rs) r := by exact cvM) : SemK P nt n0 (pureM T fn r) (.exit .ret) [] ⟨fr L, hp G, n⟩ μ := fin_ret hr hc
theorem fiN {P : Program} {T : Ty} {nt n0 : Nat} {fn : Func} {r : AV} {L : List (Nat × AV)} {G : List (Nat × Obj)} {n : Nat} {μ : Mu} {rs : List AV} (hr : resS T L G fn.results.toList = some rs := by exact rfl) (hc : Cv true (hp G) (packA rs) r := by exact cvM) : SemK P nt n0 (pureM T fn r) (.exit .normal) [] ⟨fr L, hp G, n⟩ μ := fin_normal hr hc
end Go.Av
