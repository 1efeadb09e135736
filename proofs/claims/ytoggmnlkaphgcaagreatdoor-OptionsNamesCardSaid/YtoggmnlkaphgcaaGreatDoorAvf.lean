/- Parts of the proof, laid together. -/
import Derived.Test.YtoggmnlkaphgcaaGreatDoorAve
import Derived.WideKeyEntry
import Derived.Maps.RangeRun
import Derived.DeepKeys4
import GoSem.ClaimGoes
import Derived.Test.YtoggmnlkaphgcaaGreatDoorAvb
import Derived.LaidMore
import Derived.LaidSub
set_option linter.all false
namespace Go.Av
variable [Gls]
open MapKept Go.WideMaps
def Keyd (P : Program) (kt : Nat) (es : List (Value × Value)) : Prop := (∀ p ∈ es, ∃ l, keyOf P kt p.1 = some l) ∧ (es.map (·.1)).Nodup
theorem Keyd.nil {P : Program} {kt : Nat} : Keyd P kt [] := ⟨(fun _ h => by cases h), List.nodup_nil⟩
open Classical in
theorem setV_keys {k v : Value} : ∀ (l : List (Value × Value)), (setV k v l).map (·.1) = if k ∈ l.map (·.1) then l.map (·.1) else l.map (·.1) ++ [k] := by
  intro l
  induction l with
  | nil => simp [setV]
  | cons a r ih =>
    obtain ⟨a1, a2⟩ := a
    simp only [setV]
    split
    · rename_i h; subst h; simp
    · rename_i h
      have h' : ¬ k = a1 := fun e => h e.symm
      simp only [List.map_cons]
      by_cases hm : k ∈ r.map (·.1)
      · rw [if_pos hm] at ih
        rw [if_pos (List.mem_cons_of_mem _ hm)]
        simp only [ih]
      · rw [if_neg hm] at ih
        rw [if_neg (fun hc => (List.mem_cons.1 hc).elim h' hm)]
        simp only [ih, List.cons_append]
theorem Keyd.set {P : Program} {kt : Nat} {es : List (Value × Value)} {k v : Value} {l : Lit} (h : Keyd P kt es) (hk : keyOf P kt k = some l) : Keyd P kt (setV k v es) := by
  have hks := setV_keys (k := k) (v := v) es
  refine ⟨fun p hp => ?_, ?_⟩
  · have : p.1 ∈ (setV k v es).map (·.1) := List.mem_map.2 ⟨p, hp, rfl⟩
    rw [hks] at this
    split at this
    · obtain ⟨q, hq, e⟩ := List.mem_map.1 this
      rw [← e]; exact h.1 q hq
    · rcases List.mem_append.1 this with h1 | h1
      · obtain ⟨q, hq, e⟩ := List.mem_map.1 h1
        rw [← e]; exact h.1 q hq
      · rw [List.mem_singleton.1 h1]; exact ⟨l, hk⟩
  · rw [hks]
    split
    · exact h.2
    · rename_i hn
      exact List.nodup_append.2 ⟨h.2, by simp, fun a ha b hb => by rw [List.mem_singleton.1 hb]; exact fun e => hn (e ▸ ha)⟩
theorem find_keyd {P : Program} {kt : Nat} (K : KeyLaw P kt) (w : World) {k : Value} {l : Lit} (hk : keyOf P kt k = some l) {es : List MapEntry} {ks : List (Value × Value)} (he : es.map (fun e => (e.key, e.val)) = ks) (h : Keyd P kt ks) :
    ((Instr.findKey kt k es).run P w = .ok none w ∧ (∀ e ∈ es, e.key ≠ k) ∧ getV k ks = none ∧ ∀ v, setV k v ks = ks ++ [(k, v)]) ∨
      ∃ j e, (Instr.findKey kt k es).run P w = .ok (some (j, e.val)) w ∧ es[j]? = some e ∧ e.key = k ∧ getV k ks = some e.val ∧ ∀ v, setV k v ks = ks.set j (k, v) := by
  have hes : ∀ e ∈ es, ∃ l, keyOf P kt e.key = some l := fun e hm => h.1 (e.key, e.val) (by rw [← he]; exact List.mem_map.2 ⟨e, hm, rfl⟩)
  rcases K.find w hk es hes with ⟨h1, h2⟩ | ⟨j, e, h1, h2, h3⟩
  · have hn : ∀ q ∈ ks, q.1 ≠ k := fun q hq => by
      rw [← he] at hq
      obtain ⟨x, hx, rfl⟩ := List.mem_map.1 hq
      exact h2 x hx
    exact .inl ⟨h1, h2, (setV_new (v := k) ks hn).2, fun v => (setV_new ks hn).1⟩
  · have hj : ks[j]? = some (e.key, e.val) := by rw [← he, List.getElem?_map, h2]; rfl
    have hlt : ∀ i q, i < j → ks[i]? = some q → q.1 ≠ k := fun i q hi hq heq => by
      have hnd := h.2
      have h4 : (ks.map (·.1))[i]? = some k := by rw [List.getElem?_map, hq, ← heq]; rfl
      have h5 : (ks.map (·.1))[j]? = some k := by rw [List.getElem?_map, hj, ← h3]; rfl
      obtain ⟨i1, i2⟩ := List.getElem?_eq_some_iff.1 h4
      obtain ⟨j1, j2⟩ := List.getElem?_eq_some_iff.1 h5
      exact (List.pairwise_iff_getElem.1 hnd i j i1 j1 hi) (i2.trans j2.symm)
    exact .inr ⟨j, e, h1, h2, h3, (setV_at (v := k) ks j _ hj h3 hlt).2, fun v => (setV_at ks j _ hj h3 hlt).1⟩
theorem stay_eq {k : Value} {es : List MapEntry} {j : Nat} {e : MapEntry} (h : es[j]? = some e) (hk : e.key = k) : es.modify j (fun e => { e with key := k }) = es := by
  rw [Go.ChangeMaps.modify_eq_set _ _ _ _ h]
  have : ({ e with key := k } : MapEntry) = e := by rw [← hk]
  rw [this]
  exact Go.WideElems.set_self _ _ _ h
theorem run_lookup_is {P : Program} {w : World} {b : Nat} {l : List (Value × Value)} {t kt et : TypeId} {k z : Value} {lk : Lit} (K : KeyLaw P kt) (hm : P.underlying t = some (.map kt et)) (hz : (zeroValue et).run P w = .ok z w)
    (hM : MapIs w b l) (hk : keyOf P kt k = some lk) (hks : Keyd P kt l) :
    (Instr.lookup t (.map (some b)) k false).run P w = .ok ((getV k l).getD z) w := by
  obtain ⟨es, clock, hb, hl, _⟩ := hM
  rcases find_keyd K w hk hl hks with ⟨h1, _, h3, _⟩ | ⟨j, e, h1, _, _, h4, _⟩
  · simp [Instr.lookup, run_underlying hm, MapKept.run_getObj_map hb, K.check w _ hk, h1, h3, hz, Result.andThen]
  · simp [Instr.lookup, run_underlying hm, MapKept.run_getObj_map hb, K.check w _ hk, h1, h4, Result.andThen]
theorem run_mapUpdate_keyd {P : Program} {w : World} {b : Nat} {l : List (Value × Value)} {t kt et : TypeId} {k v : Value} {lk : Lit} (K : KeyLaw P kt) (hm : P.underlying t = some (.map kt et))
    (hM : MapIs w b l) (hk : keyOf P kt k = some lk) (hks : Keyd P kt l) :
    ∃ o', (Instr.mapUpdate t (.map (some b)) k v).run P w = .ok () { w with heap := w.heap.setIfInBounds b o' } ∧ MapIs { w with heap := w.heap.setIfInBounds b o' } b (setV k v l) := by
  obtain ⟨es, clock, hb, hl, hp, hc⟩ := hM
  have hset : ∀ o', (w.heap.setIfInBounds b o')[b]? = some o' := fun o' => (heap_set (o' := o') hb).1
  rcases find_keyd K w hk hl hks with ⟨h1, _, _, h2⟩ | ⟨j, e, h1, h2, h3, _, h4⟩
  · refine ⟨.map (es.push { key := k, val := v, born := clock }) (clock + 1), ?_, es.push { key := k, val := v, born := clock }, clock + 1, hset _, ?_, ?_, ?_⟩
    · simp [Instr.mapUpdate, run_underlying hm, MapKept.run_getObj_map hb, K.check w _ hk, h1, MapKept.run_setObj_map _ hb, Result.andThen]
    · rw [Array.toList_push, List.map_append, hl, h2 v]
      rfl
    · rw [Array.toList_push]
      exact List.pairwise_append.2 ⟨hp, List.pairwise_singleton _ _, fun a ha b' hb' => by rw [List.mem_singleton.1 hb']; exact hc a ha⟩
    · intro x hx
      rw [Array.toList_push, List.mem_append] at hx
      rcases hx with hx | hx
      · exact Nat.lt_succ_of_lt (hc x hx)
      · rw [List.mem_singleton.1 hx]; exact Nat.lt_succ_self _
  · have he : es[j]? = some e := by simpa using h2
    have hm2 : (es.modify j fun e => { e with key := k, val := v }).toList = es.toList.modify j fun e => { e with key := k, val := v } := by simp
    refine ⟨.map (es.modify j fun e => { e with key := k, val := v }) clock, ?_, es.modify j fun e => { e with key := k, val := v }, clock, hset _, ?_, ?_, ?_⟩
    · simp [Instr.mapUpdate, run_underlying hm, MapKept.run_getObj_map hb, K.check w _ hk, h1, he, h3, K.stays w hk, MapKept.run_setObj_map _ hb, Result.andThen]
    · rw [hm2, h4 v, ← hl]
      apply List.ext_getElem?
      intro i
      simp only [List.getElem?_map, List.getElem?_modify, List.getElem?_set]
      by_cases hij : j = i
      · subst hij
        have hlt : j < es.toList.length := (List.getElem?_eq_some_iff.1 h2).1
        simp [he] at *
        simpa using hlt
      · simp [hij]
    · rw [hm2]
      refine List.pairwise_iff_getElem.2 fun i i' hi hi' hlt => ?_
      have := List.pairwise_iff_getElem.1 hp i i' (by simpa using hi) (by simpa using hi') hlt
      simp only [List.getElem_modify]
      split <;> split <;> exact this
    · intro x hx
      rw [hm2] at hx
      obtain ⟨i, hi⟩ := List.getElem?_of_mem hx
      rw [List.getElem?_modify] at hi
      cases hy : es.toList[i]? with
      | none => rw [hy] at hi; simp at hi
      | some y =>
        rw [hy] at hi
        have := hc y (List.mem_of_getElem? hy)
        by_cases hij : j = i
        · simp [hij] at hi; rw [← hi]; exact this
        · simp [hij] at hi; rw [← hi]; exact this
def unSc : List AV → Option (List Value)
  | [] => some []
  | .sc v :: r => (unSc r).map (v :: ·)
  | _ :: _ => none
def keyV : AV → Option Value
  | .sc v => some v
  | .agg cs => (unSc cs).map fun l => .agg l.toArray
  | _ => none
theorem unSc_inv {c : Ctx} {d : Bool} : ∀ {cs : List AV} {l : List Value} {vs : List Value}, unSc cs = some l → cs.length = vs.length → (∀ (i : Nat) a v, cs[i]? = some a → vs[i]? = some v → VRel c d a v) → vs = l := by
  intro cs
  induction cs with
  | nil => intro l vs h hl _; simp [unSc] at h; subst h; exact List.eq_nil_of_length_eq_zero hl.symm
  | cons a r ih =>
    intro l vs h hl hr
    cases vs with
    | nil => simp at hl
    | cons v vs =>
      have h0 := hr 0 a v rfl rfl
      cases a <;> simp [unSc] at h
      obtain ⟨l', hl', rfl⟩ := h
      rw [h0.sc_inv, ih hl' (by simpa using hl) (fun i a v ha hv => hr (i + 1) a v ha hv)]
theorem keyV_inv {c : Ctx} {d : Bool} {a : AV} {v k : Value} (h : keyV a = some k) (hr : VRel c d a v) : v = k := by
  cases a <;> simp [keyV] at h
  · subst h; exact hr.sc_inv
  · obtain ⟨l, hl, rfl⟩ := h
    cases hr with
    | agg h1 h2 h3 =>
      rename_i vs
      have := unSc_inv (c := c) (d := d) (vs := vs.toList) hl (by simpa using h1) (fun i a v ha hv => h3 i a v ha (by simpa using hv))
      rw [← this]
section
variable {P : Program} {nt n0 : Nat} {Q : AExit → St → Mu → Prop} {ops : Array Oper} {l : List Oper} {o : Oper} {K : List Kn} {L : List (Nat × AV)} {G : List (Nat × Obj)} {n : Nat} {μ : Mu}
theorem SemK.mapLook {T : Ty} {t b kt et : Nat} {m k : Operand} {qm qk : List Prop} {ka : AV} {kv z : Value} {es : List (Value × Value)} {ti : TI} {lk : Lit} (hT : TyOk P T) (ho : o.op = .lookup t m k false) (hg : o.guard = none) (hd : dstOk nt o.dst = true)
    (ht : T t = some ti) (hkd : ti.kind = .map kt et) (KL : KeyLaw P kt) (hz : ∀ w, (zeroValue et).run P w = .ok z w)
    (hm : rd L m = (.sc (.map (some b)), qm)) (hk : rd L k = (ka, qk)) (hka : keyV ka = some kv) (hqm : allP qm) (hqk : allP qk) (hik : keyOf P kt kv = some lk) (hks : Keyd P kt es)
    (h : SemK P nt n0 Q (.ops ops l) K ⟨fr (putO o.dst (.sc ((getV kv es).getD z)) L), hp G, n⟩ ((b, es) :: μ)) : SemK P nt n0 Q (.ops ops (o :: l)) K ⟨fr L, hp G, n⟩ ((b, es) :: μ) := by
  intro c0 H0 c act g hM Qx hQ R hR
  refine wpListR_step fun K' hK' => ?_
  rw [if_pos (by simp [Region.wanted, hg])]
  have em : act.eval m = .map (some b) := by have := g.ev m; rw [show evA (St.A ⟨fr L, hp G, n⟩) m = _ from rd_ok hm hqm] at this; exact this.sc_inv
  have ek : act.eval k = kv := by have := g.ev k; rw [show evA (St.A ⟨fr L, hp G, n⟩) k = _ from rd_ok hk hqk] at this; exact keyV_inv hka this
  have hu1 : P.underlying t = some (.map kt et) := by
    obtain ⟨i, dd, _, hdd, _, hkk, _⟩ := tyInfo_parts (hT t ti ht)
    rw [hkd] at hkk
    cases dd <;> simp [kindOf] at hkk
    obtain ⟨rfl, rfl⟩ := hkk
    exact hdd
  have hrun := run_lookup_is KL hu1 (hz c.w) (hM.is (b, es) (by simp)) hik hks
  have hex : (execOp act.eval o).run P c.w = .ok (.value ((getV kv es).getD z)) c.w := by
    obtain ⟨dst, op, type, pos, after, guard⟩ := o
    simp only at ho
    subst ho
    simp only [execOp, em, ek, Sem.run_bind, hrun]
    rfl
  refine Oper.wpR (fun d hd => by rw [hd] at ho; cases ho) ?_
  unfold Oper.wp
  rw [hex]
  have g2 := g.next (c' := c) (dst := o.dst) (a := .sc ((getV kv es).getD z)) (v := (getV kv es).getD z) (dstOk_lt hd) (.refl c) rfl (fun b hb => .inl hb) (.refl c (hp G)) (fun q x hx => .inr ⟨q, x, hx, rfl⟩) g.inv g.solo (Nat.le_refl _) .sc .sc
  rw [putO_fr] at h
  exact hK' _ _ (h c0 H0 c _ g2 hM.act Qx hQ R hR)
theorem SemK.mapUpdK {T : Ty} {t b kt et : Nat} {m k x : Operand} {qm qk qx : List Prop} {ka : AV} {kv xv : Value} {es : List (Value × Value)} {ti : TI} {lk : Lit} (hT : TyOk P T) (ho : o.op = .mapUpdate t m k x) (hg : o.guard = none) (hd : o.dst = none)
    (ht : T t = some ti) (hkd : ti.kind = .map kt et) (KL : KeyLaw P kt)
    (hm : rd L m = (.sc (.map (some b)), qm)) (hk : rd L k = (ka, qk)) (hka : keyV ka = some kv) (hx : rd L x = (.sc xv, qx)) (hqm : allP qm) (hqk : allP qk) (hqx : allP qx) (hik : keyOf P kt kv = some lk) (hks : Keyd P kt es)
    (h : SemK P nt n0 Q (.ops ops l) K ⟨fr L, hp G, n⟩ ((b, setV kv xv es) :: μ)) : SemK P nt n0 Q (.ops ops (o :: l)) K ⟨fr L, hp G, n⟩ ((b, es) :: μ) := by
  intro c0 H0 c act g hM Qx hQ R hR
  refine wpListR_step fun K' hK' => ?_
  rw [if_pos (by simp [Region.wanted, hg])]
  have em : act.eval m = .map (some b) := by have := g.ev m; rw [show evA (St.A ⟨fr L, hp G, n⟩) m = _ from rd_ok hm hqm] at this; exact this.sc_inv
  have ek : act.eval k = kv := by have := g.ev k; rw [show evA (St.A ⟨fr L, hp G, n⟩) k = _ from rd_ok hk hqk] at this; exact keyV_inv hka this
  have ex : act.eval x = xv := by have := g.ev x; rw [show evA (St.A ⟨fr L, hp G, n⟩) x = _ from rd_ok hx hqx] at this; exact this.sc_inv
  have hu1 : P.underlying t = some (.map kt et) := by
    obtain ⟨i, dd, _, hdd, _, hkk, _⟩ := tyInfo_parts (hT t ti ht)
    rw [hkd] at hkk
    cases dd <;> simp [kindOf] at hkk
    obtain ⟨rfl, rfl⟩ := hkk
    exact hdd
  obtain ⟨o', hrun, hmap⟩ := run_mapUpdate_keyd (v := xv) KL hu1 (hM.is (b, es) (by simp)) hik hks
  have hex : (execOp act.eval o).run P c.w = .ok .skip { c.w with heap := c.w.heap.setIfInBounds b o' } := by
    obtain ⟨dst, op, type, pos, after, guard⟩ := o
    simp only at ho
    subst ho
    simp only [execOp, em, ek, ex, Sem.run_bind, hrun]
    rfl
  refine Oper.wpR (fun d hd => by rw [hd] at ho; cases ho) ?_
  unfold Oper.wp
  rw [hex]
  obtain ⟨a1, a2, a3, a4⟩ := hM.away (b, es) (by simp)
  obtain ⟨es0, cl, hb0, _⟩ := hM.is (b, es) (by simp)
  have hoth : ∀ q, q ≠ b → ({ c.w with heap := c.w.heap.setIfInBounds b o' } : World).heap[q]? = c.w.heap[q]? := (heap_set (o' := o') hb0).2
  obtain ⟨h1, h2⟩ := g.inv.aside (w' := { c.w with heap := c.w.heap.setIfInBounds b o' }) (by simp) hoth ⟨a1, a2⟩ a3
  have g2 : Good nt c0 H0 n0 { c with w := { c.w with heap := c.w.heap.setIfInBounds b o' } } ⟨fr L, hp G, n⟩ act := by
    refine ⟨h2, g.solo, fun q => (g.frame q).mono h1 (.inr (g.ok q)), g.ok, g.size, ?_, g.le0⟩
    have r := g.reach
    refine ⟨r.rho, r.os, r.tape, ⟨r.output.1, Nat.le_trans r.output.2 (by first | exact Nat.le_refl _ | exact dr_le (Nat.le_succ _) | (simp; done) | (simp; omega))⟩, by simpa using r.size, fun q hq hn => ?_, fun q hq => ?_, r.sa, r.so1, r.so2, r.B, r.own⟩
    · exact (hoth q (fun e => by subst e; exact (a4.no hq hn).elim)).trans (r.block q hq hn)
    · refine (hoth q (fun e => ?_)).trans (r.stable q hq)
      subst e
      rcases hq with hq | hq
      · exact a1 (by rw [r.sa]; exact hq)
      · exact a2 (r.so1 _ hq)
  have hact : act.put o.dst undef = act := by rw [hd]; rfl
  have hMs : MOk n0 c0 H0 { c with w := { c.w with heap := c.w.heap.setIfInBounds b o' } } (hp G) ((b, setV kv xv es) :: μ) act := by
    refine ⟨fun p hp => ?_, fun p hp => ?_, ?_, hM.ds⟩
    · rcases List.mem_cons.1 hp with rfl | hp
      · exact hmap
      · have hne : p.1 ≠ b := fun e => (List.nodup_cons.1 hM.nodup).1 (List.mem_map.2 ⟨p, hp, e⟩)
        exact (hM.is p (List.mem_cons_of_mem _ hp)).le (hoth _ hne) (h1.weaken fun q hq => Nat.lt_of_lt_of_le hq g.le0)
    · rcases List.mem_cons.1 hp with rfl | hp
      · exact hM.away (b, es) (by simp)
      · exact hM.away p (List.mem_cons_of_mem _ hp)
    · exact hM.nodup
  have := hK' act { c.w with heap := c.w.heap.setIfInBounds b o' } (h c0 H0 _ act g2 hMs Qx hQ R hR)
  show K' (act.put o.dst undef) _
  rw [hact]; exact this
end
theorem getV_setV {k v : Value} : ∀ l : List (Value × Value), getV k (setV k v l) = some v := by
  intro l
  induction l with
  | nil => simp [getV, setV]
  | cons p r ih =>
    obtain ⟨a, b⟩ := p
    by_cases h : a = k
    · subst h; simp [getV, setV]
    · simp [getV, setV, h]; exact ih
theorem run_entry_keyd {P : Program} {w : World} {b : Nat} {l : List (Value × Value)} {t kt et : TypeId} {k v z : Value} {lk : Lit} (K : KeyLaw P kt) (hm : P.underlying t = some (.map kt et)) (hz : ∀ w, (zeroValue et).run P w = .ok z w)
    (hM : MapIs w b l) (hk : keyOf P kt k = some lk) (hks : Keyd P kt l) :
    ∃ (v0 : Value) (st : Int) (o1 o3 : Go.Obj), (Instr.mapEntry t (.map (some b)) k).run P w = .ok (.tuple #[v0, .int .i64 st]) { w with heap := w.heap.setIfInBounds b o1 } ∧
      (Instr.entryStore t (.map (some b)) (.int .i64 st) v).run P { w with heap := w.heap.setIfInBounds b o1 } = .ok () { w with heap := w.heap.setIfInBounds b o3 } ∧
      MapIs { w with heap := w.heap.setIfInBounds b o3 } b (setV k v l) ∧ ∃ l1, MapIs { w with heap := w.heap.setIfInBounds b o1 } b l1 ∧ Keyd P kt l1 ∧ (getV k l1).getD z = (getV k l).getD z := by
  obtain ⟨es, clock, hb, hl, hp, hc⟩ := hM
  have hset : ∀ o', (w.heap.setIfInBounds b o')[b]? = some o' := fun o' => (heap_set (o' := o') hb).1
  have hnd : (es.toList.map (·.born)).Nodup := List.pairwise_map.2 (hp.imp fun h => Nat.ne_of_lt h)
  rcases find_keyd K w hk hl hks with ⟨h1, _, hgn, h2⟩ | ⟨j, e, h1, h2, h3, _, h4⟩
  · refine ⟨z, clock, .map (es.push { key := k, val := z, born := clock }) (clock + 1), .map (es.push { key := k, val := v, born := clock }) (clock + 1), ?_, ?_, ⟨es.push { key := k, val := v, born := clock }, clock + 1, hset _, ?_, ?_, ?_⟩, setV k z l, ⟨es.push { key := k, val := z, born := clock }, clock + 1, hset _, ?_, ?_, ?_⟩, hks.set hk, by rw [getV_setV, hgn]; rfl⟩
    · simp [Instr.mapEntry, run_underlying hm, MapKept.run_getObj_map hb, K.check w _ hk, h1, hz, MapKept.run_setObj_map _ hb, Result.andThen, goInt]
    · have hb1 : ({ w with heap := w.heap.setIfInBounds b (.map (es.push { key := k, val := z, born := clock }) (clock + 1)) } : World).heap[b]? = some (.map (es.push { key := k, val := z, born := clock }) (clock + 1)) := hset _
      have hidx : (es.push ⟨k, z, clock⟩).findIdx? (fun e => ((e.born : Nat) : Int) == ((clock : Nat) : Int)) = some es.size := by
        rw [WideElems.findIdx_arr]
        have := WideElems.findIdx_born (l := (es.push ⟨k, z, clock⟩).toList) (j := es.size) (e0 := ⟨k, z, clock⟩) (by
          simp only [Array.toList_push, List.map_append, List.map_cons, List.map_nil]
          refine List.nodup_append.2 ⟨hnd, by simp, fun a ha c hc' e1 => ?_⟩
          simp only [List.mem_singleton] at hc'
          obtain ⟨x, hx, rfl⟩ := List.mem_map.1 ha
          have := hc x hx
          omega) (by simp)
        exact this
      have hmod : (es.push ⟨k, z, clock⟩).modify es.size (fun e => { e with val := v }) = es.push ⟨k, v, clock⟩ := by
        apply Array.ext'
        rw [Array.toList_modify, Array.toList_push, Array.toList_push, ← Array.length_toList, WideElems.modify_last]
      simp [Instr.entryStore, MapKept.run_getObj_map hb1, asInt, asIntOf, hidx, hmod, MapKept.run_setObj_map _ hb1, Result.andThen]
    · rw [Array.toList_push, List.map_append, hl, h2 v]
      rfl
    · rw [Array.toList_push]
      exact List.pairwise_append.2 ⟨hp, List.pairwise_singleton _ _, fun a ha b' hb' => by rw [List.mem_singleton.1 hb']; exact hc a ha⟩
    · intro x hx
      rw [Array.toList_push, List.mem_append] at hx
      rcases hx with hx | hx
      · exact Nat.lt_succ_of_lt (hc x hx)
      · rw [List.mem_singleton.1 hx]; exact Nat.lt_succ_self _
    · rw [Array.toList_push, List.map_append, hl, h2 z]
      rfl
    · rw [Array.toList_push]
      exact List.pairwise_append.2 ⟨hp, List.pairwise_singleton _ _, fun a ha b' hb' => by rw [List.mem_singleton.1 hb']; exact hc a ha⟩
    · intro x hx
      rw [Array.toList_push, List.mem_append] at hx
      rcases hx with hx | hx
      · exact Nat.lt_succ_of_lt (hc x hx)
      · rw [List.mem_singleton.1 hx]; exact Nat.lt_succ_self _
  · have he : es[j]? = some e := by simpa using h2
    have hsame : es.modify j (fun e => { e with key := k }) = es := by
      apply Array.ext'
      rw [Array.toList_modify, stay_eq h2 h3]
    have hm2 : (es.modify j fun e => { e with val := v }).toList = es.toList.modify j fun e => { e with val := v } := by simp
    refine ⟨e.val, e.born, .map es clock, .map (es.modify j fun e => { e with val := v }) clock, ?_, ?_, ⟨es.modify j fun e => { e with val := v }, clock, hset _, ?_, ?_, ?_⟩, l, ⟨es, clock, hset _, hl, hp, hc⟩, hks, rfl⟩
    · simp [Instr.mapEntry, run_underlying hm, MapKept.run_getObj_map hb, K.check w _ hk, h1, he, h3, K.stays w hk, hsame, MapKept.run_setObj_map _ hb, Result.andThen, goInt]
    · have hb1 : ({ w with heap := w.heap.setIfInBounds b (.map es clock) } : World).heap[b]? = some (.map es clock) := hset _
      have hidx : es.findIdx? (fun e' => ((e'.born : Nat) : Int) == ((e.born : Nat) : Int)) = some j := by
        rw [WideElems.findIdx_arr]
        exact WideElems.findIdx_born hnd h2
      simp [Instr.entryStore, MapKept.run_getObj_map hb1, asInt, asIntOf, hidx, MapKept.run_setObj_map _ hb1, Result.andThen]
    · rw [hm2, h4 v, ← hl]
      apply List.ext_getElem?
      intro i
      simp only [List.getElem?_map, List.getElem?_modify, List.getElem?_set]
      by_cases hij : j = i
      · subst hij
        have hlt : j < es.toList.length := (List.getElem?_eq_some_iff.1 h2).1
        simp [he, h3] at *
        simpa using hlt
      · simp [hij]
    · rw [hm2]
      refine List.pairwise_iff_getElem.2 fun i i' hi hi' hlt => ?_
      have := List.pairwise_iff_getElem.1 hp i i' (by simpa using hi) (by simpa using hi') hlt
      simp only [List.getElem_modify]
      split <;> split <;> exact this
    · intro x hx
      rw [hm2] at hx
      obtain ⟨i, hi⟩ := List.getElem?_of_mem hx
      rw [List.getElem?_modify] at hi
      cases hy : es.toList[i]? with
      | none => rw [hy] at hi; simp at hi
      | some y =>
        rw [hy] at hi
        have := hc y (List.mem_of_getElem? hy)
        by_cases hij : j = i
        · simp [hij] at hi; rw [← hi]; exact this
        · simp [hij] at hi; rw [← hi]; exact this
section
variable {P : Program} {nt n0 : Nat} {Q : AExit → St → Mu → Prop} {ops : Array Oper} {l : List Oper} {o1 o2 o3 : Oper} {K : List Kn} {L : List (Nat × AV)} {G : List (Nat × Obj)} {n : Nat} {μ : Mu}
theorem SemK.mapEnt {T : Ty} {t b kt et d1 d2 : Nat} {m k x : Operand} {qm qk : List Prop} {ka : AV} {kv xv z : Value} {es : List (Value × Value)} {ti : TI} {lk : Lit} (hT : TyOk P T)
    (ho1 : o1.op = .mapEntry t m k) (hg1 : o1.guard = none) (hd1 : o1.dst = some d1) (ho2 : o2.op = .extract (.tmp d1) 1) (hg2 : o2.guard = none) (hd2 : o2.dst = some d2) (ho3 : o3.op = .entryStore t m (.tmp d2) x) (hg3 : o3.guard = none) (hd3 : o3.dst = none)
    (hl1 : d1 < nt) (hl2 : d2 < nt) (ht : T t = some ti) (hkd : ti.kind = .map kt et) (KL : KeyLaw P kt) (hz : ∀ w, (zeroValue et).run P w = .ok z w)
    (hm : rd L m = (.sc (.map (some b)), qm)) (hk : rd L k = (ka, qk)) (hka : keyV ka = some kv) (hqm : allP qm) (hqk : allP qk) (hik : keyOf P kt kv = some lk) (hks : Keyd P kt es)
    (hm3 : ∀ a c, rd (putO (some d2) c (putO (some d1) a L)) m = (.sc (.map (some b)), [])) (hx3 : ∀ a c, rd (putO (some d2) c (putO (some d1) a L)) x = (.sc xv, []))
    (h : ∀ a c, SemK P nt n0 Q (.ops ops l) K ⟨fr (putO (some d2) c (putO (some d1) a L)), hp G, n⟩ ((b, setV kv xv es) :: μ)) : SemK P nt n0 Q (.ops ops (o1 :: o2 :: o3 :: l)) K ⟨fr L, hp G, n⟩ ((b, es) :: μ) := by
  intro c0 H0 c act g hM Qx hQ R hR
  have em : act.eval m = .map (some b) := by have := g.ev m; rw [show evA (St.A ⟨fr L, hp G, n⟩) m = _ from rd_ok hm hqm] at this; exact this.sc_inv
  have ek : act.eval k = kv := by have := g.ev k; rw [show evA (St.A ⟨fr L, hp G, n⟩) k = _ from rd_ok hk hqk] at this; exact keyV_inv hka this
  have hu1 : P.underlying t = some (.map kt et) := by
    obtain ⟨i, dd, _, hdd, _, hkk, _⟩ := tyInfo_parts (hT t ti ht)
    rw [hkd] at hkk
    cases dd <;> simp [kindOf] at hkk
    obtain ⟨rfl, rfl⟩ := hkk
    exact hdd
  obtain ⟨v0, st, b1, b3, hr1, hr3, hmap, _⟩ := run_entry_keyd (v := xv) KL hu1 hz (hM.is (b, es) (by simp)) hik hks
  have g1 := g.next (c' := c) (dst := some d1) (a := .sc (.tuple #[v0, .int .i64 st])) (v := .tuple #[v0, .int .i64 st]) (fun t ht => by cases ht; exact hl1) (.refl c) rfl (fun b hb => .inl hb) (.refl c (hp G)) (fun q x hx => .inr ⟨q, x, hx, rfl⟩) g.inv g.solo (Nat.le_refl _) .sc .sc
  have g2 := g1.next (c' := c) (dst := some d2) (a := .sc (.int .i64 st)) (v := .int .i64 st) (fun t ht => by cases ht; exact hl2) (.refl c) rfl (fun b hb => .inl hb) (.refl c (hp G)) (fun q x hx => .inr ⟨q, x, hx, rfl⟩) g1.inv g1.solo (Nat.le_refl _) .sc .sc
  have g2' : Good nt c0 H0 n0 c ⟨fr (putO (some d2) (.sc (.int .i64 st)) (putO (some d1) (.sc (.tuple #[v0, .int .i64 st])) L)), hp G, n⟩ ((act.put (some d1) (.tuple #[v0, .int .i64 st])).put (some d2) (.int .i64 st)) := by
    rw [putO_fr, putO_fr]; exact g2
  have e1 : (act.put (some d1) (.tuple #[v0, .int .i64 st])).eval (.tmp d1) = .tuple #[v0, .int .i64 st] := by
    have h1 := g1.ev (.tmp d1)
    rw [show evA (updO (fr L) (some d1) (.sc (.tuple #[v0, .int .i64 st]))) (.tmp d1) = .sc (.tuple #[v0, .int .i64 st]) from (congrArg strip (upd_same _ _ _)).trans rfl] at h1
    exact h1.sc_inv
  have e2 : ((act.put (some d1) (.tuple #[v0, .int .i64 st])).put (some d2) (.int .i64 st)).eval (.tmp d2) = .int .i64 st := by
    have h1 := g2.ev (.tmp d2)
    rw [show evA (updO (updO (fr L) (some d1) (.sc (.tuple #[v0, .int .i64 st]))) (some d2) (.sc (.int .i64 st))) (.tmp d2) = .sc (.int .i64 st) from (congrArg strip (upd_same _ _ _)).trans rfl] at h1
    exact h1.sc_inv
  have e3 : ((act.put (some d1) (.tuple #[v0, .int .i64 st])).put (some d2) (.int .i64 st)).eval m = .map (some b) := by
    have h1 := g2'.ev m; rw [show evA (St.A ⟨fr (putO (some d2) (.sc (.int .i64 st)) (putO (some d1) (.sc (.tuple #[v0, .int .i64 st])) L)), hp G, n⟩) m = _ from rd_ok (hm3 _ _) trivial] at h1; exact h1.sc_inv
  have e4 : ((act.put (some d1) (.tuple #[v0, .int .i64 st])).put (some d2) (.int .i64 st)).eval x = xv := by
    have h1 := g2'.ev x; rw [show evA (St.A ⟨fr (putO (some d2) (.sc (.int .i64 st)) (putO (some d1) (.sc (.tuple #[v0, .int .i64 st])) L)), hp G, n⟩) x = _ from rd_ok (hx3 _ _) trivial] at h1; exact h1.sc_inv
  refine wpListR_step fun K1 hK1 => ?_
  rw [if_pos (by simp [Region.wanted, hg1])]
  have hex1 : (execOp act.eval o1).run P c.w = .ok (.value (.tuple #[v0, .int .i64 st])) { c.w with heap := c.w.heap.setIfInBounds b b1 } := by
    obtain ⟨dst, op, type, pos, after, guard⟩ := o1
    simp only at ho1
    subst ho1
    simp only [execOp, em, ek, Sem.run_bind, hr1]
    rfl
  refine Oper.wpR (fun d hd => by rw [hd] at ho1; cases ho1) ?_
  unfold Oper.wp
  rw [hex1]
  show K1 (act.put o1.dst _) _
  rw [hd1]
  refine hK1 _ _ ?_
  refine wpListR_step fun K2 hK2 => ?_
  rw [if_pos (by simp [Region.wanted, hg2])]
  have hex2 : (execOp (act.put (some d1) (.tuple #[v0, .int .i64 st])).eval o2).run P { c.w with heap := c.w.heap.setIfInBounds b b1 } = .ok (.value (.int .i64 st)) { c.w with heap := c.w.heap.setIfInBounds b b1 } := by
    obtain ⟨dst, op, type, pos, after, guard⟩ := o2
    simp only at ho2
    subst ho2
    simp only [execOp, e1]
    rfl
  refine Oper.wpR (fun d hd => by rw [hd] at ho2; cases ho2) ?_
  unfold Oper.wp
  rw [hex2]
  show K2 (Act.put _ o2.dst _) _
  rw [hd2]
  refine hK2 _ _ ?_
  refine wpListR_step fun K3 hK3 => ?_
  rw [if_pos (by simp [Region.wanted, hg3])]
  have hex3 : (execOp ((act.put (some d1) (.tuple #[v0, .int .i64 st])).put (some d2) (.int .i64 st)).eval o3).run P { c.w with heap := c.w.heap.setIfInBounds b b1 } = .ok .skip { c.w with heap := c.w.heap.setIfInBounds b b3 } := by
    obtain ⟨dst, op, type, pos, after, guard⟩ := o3
    simp only at ho3
    subst ho3
    simp only [execOp, e2, e3, e4, Sem.run_bind, hr3]
    rfl
  refine Oper.wpR (fun d hd => by rw [hd] at ho3; cases ho3) ?_
  unfold Oper.wp
  rw [hex3]
  obtain ⟨a1, a2, a3, a4⟩ := hM.away (b, es) (by simp)
  obtain ⟨es0, cl, hb0, _⟩ := hM.is (b, es) (by simp)
  have hoth : ∀ q, q ≠ b → ({ c.w with heap := c.w.heap.setIfInBounds b b3 } : World).heap[q]? = c.w.heap[q]? := (heap_set (o' := b3) hb0).2
  obtain ⟨h1, h2⟩ := g2'.inv.aside (w' := { c.w with heap := c.w.heap.setIfInBounds b b3 }) (by simp) hoth ⟨a1, a2⟩ a3
  have g3 : Good nt c0 H0 n0 { c with w := { c.w with heap := c.w.heap.setIfInBounds b b3 } } ⟨fr (putO (some d2) (.sc (.int .i64 st)) (putO (some d1) (.sc (.tuple #[v0, .int .i64 st])) L)), hp G, n⟩ ((act.put (some d1) (.tuple #[v0, .int .i64 st])).put (some d2) (.int .i64 st)) := by
    refine ⟨h2, g2'.solo, fun q => (g2'.frame q).mono h1 (.inr (g2'.ok q)), g2'.ok, g2'.size, ?_, g2'.le0⟩
    have r := g2'.reach
    refine ⟨r.rho, r.os, r.tape, ⟨r.output.1, Nat.le_trans r.output.2 (by first | exact Nat.le_refl _ | exact dr_le (Nat.le_succ _) | (simp; done) | (simp; omega))⟩, by simpa using r.size, fun q hq hn => ?_, fun q hq => ?_, r.sa, r.so1, r.so2, r.B, r.own⟩
    · exact (hoth q (fun e => by subst e; exact (a4.no hq hn).elim)).trans (r.block q hq hn)
    · refine (hoth q (fun e => ?_)).trans (r.stable q hq)
      subst e
      rcases hq with hq | hq
      · exact a1 (by rw [r.sa]; exact hq)
      · exact a2 (r.so1 _ hq)
  have hMs : MOk n0 c0 H0 { c with w := { c.w with heap := c.w.heap.setIfInBounds b b3 } } (hp G) ((b, setV kv xv es) :: μ) act := by
    refine ⟨fun p hp => ?_, fun p hp => ?_, ?_, hM.ds⟩
    · rcases List.mem_cons.1 hp with rfl | hp
      · exact hmap
      · have hne : p.1 ≠ b := fun e => (List.nodup_cons.1 hM.nodup).1 (List.mem_map.2 ⟨p, hp, e⟩)
        exact (hM.is p (List.mem_cons_of_mem _ hp)).le (hoth _ hne) (h1.weaken fun q hq => Nat.lt_of_lt_of_le hq g.le0)
    · rcases List.mem_cons.1 hp with rfl | hp
      · exact hM.away (b, es) (by simp)
      · exact hM.away p (List.mem_cons_of_mem _ hp)
    · exact hM.nodup
  have := hK3 _ { c.w with heap := c.w.heap.setIfInBounds b b3 } (h (.sc (.tuple #[v0, .int .i64 st])) (.sc (.int .i64 st)) c0 H0 _ _ g3 (hMs.act (by simp)) Qx hQ R hR)
  show K3 (Act.put _ o3.dst undef) _
  rw [hd3]; exact this
theorem MOk.perm {n0 : Nat} {c0 c : Ctx} {H0 H : Heap} {μ μ' : Mu} {act : Act} (hp : μ.Perm μ') (hd : dsOf μ = dsOf μ') (h : MOk n0 c0 H0 c H μ act) : MOk n0 c0 H0 c H μ' act :=
  ⟨fun p hm => h.is p (hp.mem_iff.2 hm), fun p hm => h.away p (hp.mem_iff.2 hm), (hp.map _).nodup_iff.1 h.nodup, h.ds.trans hd⟩
theorem SemK.permOps {s : St} {μ' : Mu} (hp : μ.Perm μ') (h : SemK P nt n0 Q (.ops ops l) K s μ') (hd : dsOf μ = dsOf μ' := by rfl) (hl : noLoop μ' = noLoop μ := by rfl) : SemK P nt n0 Q (.ops ops l) K s μ :=
  fun c0 H0 c act g hM Qx hQ R hR => h c0 H0 c act g (hM.perm hp hd) Qx hQ R (fun h => hl.trans (hR h))
end
end Go.Av

namespace Go.Av
variable [Gls]
open MapKept Go.WideMaps
noncomputable def delV (k : Value) : List (Value × Value) → List (Value × Value)
  | [] => []
  | (a, b) :: r => open Classical in if a = k then r else (a, b) :: delV k r
theorem delV_at {k : Value} : ∀ (l : List (Value × Value)) (j : Nat) (p : Value × Value), l[j]? = some p → p.1 = k → (∀ i q, i < j → l[i]? = some q → q.1 ≠ k) → delV k l = l.eraseIdx j := by
  intro l
  induction l with
  | nil => intro j p h; simp at h
  | cons a r ih =>
    obtain ⟨a1, a2⟩ := a
    intro j p h hp hn
    cases j with
    | zero =>
      simp only [List.getElem?_cons_zero, Option.some.injEq] at h
      subst h
      simp only at hp
      simp [delV, hp]
    | succ j =>
      have h0 : a1 ≠ k := hn 0 (a1, a2) (Nat.succ_pos _) rfl
      simp only [delV, if_neg h0, List.eraseIdx_cons_succ]
      rw [ih j p (by simpa using h) hp (fun i q hi hq => hn (i + 1) q (by omega) (by simpa using hq))]
theorem delV_none {k : Value} : ∀ (l : List (Value × Value)), (∀ q ∈ l, q.1 ≠ k) → delV k l = l := by
  intro l
  induction l with
  | nil => intro _; rfl
  | cons a r ih =>
    obtain ⟨a1, a2⟩ := a
    intro h
    have h0 : a1 ≠ k := h (a1, a2) (by simp)
    simp only [delV, if_neg h0]
    rw [ih fun q hq => h q (List.mem_cons_of_mem _ hq)]
theorem map_eraseIdx' {α β : Type} (f : α → β) : ∀ (l : List α) (j : Nat), (l.eraseIdx j).map f = (l.map f).eraseIdx j
  | [], _ => by simp
  | a :: r, 0 => rfl
  | a :: r, j + 1 => by simp [map_eraseIdx' f r j]
theorem find_is {d : TypeDesc} {P : Program} {w : World} {kt : TypeId} {k : Value} (hd : P.underlying kt = some d) (hk : IsKey d k) {es : List MapEntry} {ks : List (Value × Value)} (he : es.map (fun e => (e.key, e.val)) = ks) (h : ∀ p ∈ ks, IsKey d p.1) :
    ((Instr.findKey kt k es).run P w = .ok none w ∧ delV k ks = ks ∧ getV k ks = none) ∨
      ∃ j e, (Instr.findKey kt k es).run P w = .ok (some (j, e.val)) w ∧ es[j]? = some e ∧ e.key = k ∧ delV k ks = ks.eraseIdx j ∧ getV k ks = some e.val := by
  have hes : ∀ x ∈ es, IsKey d x.key := fun x hx => h (x.key, x.val) (by rw [← he]; exact List.mem_map.2 ⟨x, hx, rfl⟩)
  rcases findNow_first hk es 0 hes with ⟨h1, h2⟩ | ⟨j, e, h1, h2, h3, h4⟩
  · have hn : ∀ q ∈ ks, q.1 ≠ k := fun q hq => by
      rw [← he] at hq
      obtain ⟨x, hx, rfl⟩ := List.mem_map.1 hq
      exact h2 x hx
    exact .inl ⟨run_findKey hd h1, delV_none _ hn, (setV_new (v := k) ks hn).2⟩
  · have hj : ks[j]? = some (e.key, e.val) := by rw [← he, List.getElem?_map, h2]; rfl
    have hf : ∀ i q, i < j → ks[i]? = some q → q.1 ≠ k := fun i q hi hq => by
      rw [← he, List.getElem?_map] at hq
      cases hx : es[i]? with
      | none => rw [hx] at hq; cases hq
      | some x => rw [hx] at hq; cases hq; exact h4 i x hi hx
    rw [Nat.zero_add] at h1
    exact .inr ⟨j, e, run_findKey hd h1, h2, h3, delV_at ks j _ hj h3 hf, (setV_at (v := k) ks j _ hj h3 hf).2⟩
section
variable {P : Program} {nt n0 : Nat} {Q : AExit → St → Mu → Prop} {ops : Array Oper} {l : List Oper} {o : Oper} {K : List Kn} {L : List (Nat × AV)} {G : List (Nat × Obj)} {n : Nat} {μ : Mu}
theorem aux_step {c0 c : Ctx} {H0 : Heap} {act : Act} {b : Nat} {x x' : MuE} {o' ob : Go.Obj} {w' : World} (g : Good nt c0 H0 n0 c ⟨fr L, hp G, n⟩ act) (hM : MOk n0 c0 H0 c (hp G) ((b, x) :: μ) act)
    (hb : c.w.heap[b]? = some ob) (hw : w'.heap = c.w.heap.setIfInBounds b o') (hos : w'.os = c.w.os) (htp : w'.tape = c.w.tape) (hou : w'.output = c.w.output) (hdr : c.w.drawn ≤ w'.drawn) (hx : MuIs n0 { c with w := w' } b x') (hds : dsOf ((b, x) :: μ) = dsOf ((b, x') :: μ)) :
    Good nt c0 H0 n0 { c with w := w' } ⟨fr L, hp G, n⟩ act ∧ MOk n0 c0 H0 { c with w := w' } (hp G) ((b, x') :: μ) act := by
  obtain ⟨a1, a2, a3, a4⟩ := hM.away (b, x) (by simp)
  have hsz : w'.heap.size = c.w.heap.size := by rw [hw]; simp
  have hoth : ∀ q, q ≠ b → w'.heap[q]? = c.w.heap[q]? := by
    intro q hq; rw [hw]; exact (heap_set (o' := o') hb).2 q hq
  obtain ⟨h1, h2⟩ := g.inv.aside (w' := w') hsz hoth ⟨a1, a2⟩ a3
  refine ⟨⟨h2, g.solo, fun q => (g.frame q).mono h1 (.inr (g.ok q)), g.ok, g.size, ?_, g.le0⟩, fun p hp => ?_, fun p hp => ?_, ?_, hM.ds.trans hds⟩
  · have r := g.reach
    refine ⟨r.rho, hos.trans r.os, htp.trans r.tape, ⟨hou.trans r.output.1, Nat.le_trans r.output.2 (dr_le hdr)⟩, by show _ ≤ w'.heap.size; rw [hsz]; exact r.size, fun q hq hn => ?_, fun q hq => ?_, r.sa, r.so1, r.so2, r.B, r.own⟩
    · exact (hoth q (fun e => by subst e; exact (a4.no hq hn).elim)).trans (r.block q hq hn)
    · refine (hoth q (fun e => ?_)).trans (r.stable q hq)
      subst e
      rcases hq with hq | hq
      · exact a1 (by rw [r.sa]; exact hq)
      · exact a2 (r.so1 _ hq)
  · rcases List.mem_cons.1 hp with rfl | hp
    · exact hx
    · have hne : p.1 ≠ b := fun e => (List.nodup_cons.1 hM.nodup).1 (List.mem_map.2 ⟨p, hp, e⟩)
      exact (hM.is p (List.mem_cons_of_mem _ hp)).le (hoth _ hne) (h1.weaken fun q hq => Nat.lt_of_lt_of_le hq g.le0)
  · rcases List.mem_cons.1 hp with rfl | hp
    · exact hM.away (b, x) (by simp)
    · exact hM.away p (List.mem_cons_of_mem _ hp)
  · exact hM.nodup
theorem SemK.mapDel {T : Ty} {t b kt et t2 : Nat} {m k : Operand} {qm qk : List Prop} {ka : AV} {kv : Value} {es : List (Value × Value)} {ti : TI} {d : TypeDesc} (hT : TyOk P T) (ho : o.op = .call { callee := .builtin .delete, args := #[m, k], argTypes := #[t, t2] }) (hg : o.guard = none) (hd : o.dst = none)
    (ht : T t = some ti) (hkd : ti.kind = .map kt et) (hu : P.underlying kt = some d)
    (hm : rd L m = (.sc (.map (some b)), qm)) (hk : rd L k = (ka, qk)) (hka : keyV ka = some kv) (hqm : allP qm) (hqk : allP qk) (hik : IsKey d kv) (hks : ∀ p ∈ es, IsKey d p.1)
    (h : SemK P nt n0 Q (.ops ops l) K ⟨fr L, hp G, n⟩ ((b, delV kv es) :: μ)) : SemK P nt n0 Q (.ops ops (o :: l)) K ⟨fr L, hp G, n⟩ ((b, es) :: μ) := by
  intro c0 H0 c act g hM Qx hQ R hR
  refine wpListR_step fun K' hK' => ?_
  rw [if_pos (by simp [Region.wanted, hg])]
  have em : act.eval m = .map (some b) := by have := g.ev m; rw [show evA (St.A ⟨fr L, hp G, n⟩) m = _ from rd_ok hm hqm] at this; exact this.sc_inv
  have ek : act.eval k = kv := by have := g.ev k; rw [show evA (St.A ⟨fr L, hp G, n⟩) k = _ from rd_ok hk hqk] at this; exact keyV_inv hka this
  have hu1 : P.underlying t = some (.map kt et) := by
    obtain ⟨i, dd, _, hdd, _, hkk, _⟩ := tyInfo_parts (hT t ti ht)
    rw [hkd] at hkk
    cases dd <;> simp [kindOf] at hkk
    obtain ⟨rfl, rfl⟩ := hkk
    exact hdd
  obtain ⟨es0, cl, hb0, hl, hpw, hcl⟩ := hM.is (b, es) (by simp)
  have hdel : ∃ es', (Builtin.delete_ #[t, t2] o.type #[.map (some b), kv]).run P c.w = .ok (.tuple #[]) { c.w with heap := c.w.heap.setIfInBounds b (.map es' cl) } ∧
      es'.toList.map (fun e => (e.key, e.val)) = delV kv es ∧ es'.toList.Pairwise (fun x y => x.born < y.born) ∧ ∀ e ∈ es'.toList, e.born < cl := by
    rcases find_is (w := c.w) hu hik hl hks with ⟨h1, h2, _⟩ | ⟨j, e, h1, h2, _, h4, _⟩
    · refine ⟨es0, ?_, by rw [h2]; exact hl, hpw, hcl⟩
      simp [Builtin.delete_, run_underlying hu1, MapKept.run_getObj_map hb0, run_checkKey hu hik, h1, MapKept.run_setObj_map _ hb0, Result.andThen]
    · refine ⟨es0.eraseIdxIfInBounds j, ?_, ?_, ?_, ?_⟩
      · simp [Builtin.delete_, run_underlying hu1, MapKept.run_getObj_map hb0, run_checkKey hu hik, h1, MapKept.run_setObj_map _ hb0, Result.andThen]
      · rw [Array.toList_eraseIdxIfInBounds, h4, ← hl]
        exact map_eraseIdx' _ _ _
      · rw [Array.toList_eraseIdxIfInBounds]; exact hpw.sublist (List.eraseIdx_sublist _ _)
      · rw [Array.toList_eraseIdxIfInBounds]; exact fun x hx => hcl x (List.mem_of_mem_eraseIdx hx)
  obtain ⟨es', hrun, hl', hpw', hcl'⟩ := hdel
  have hex : (execOp act.eval o).run P c.w = .ok (.value (.tuple #[])) { c.w with heap := c.w.heap.setIfInBounds b (.map es' cl) } := by
    obtain ⟨dst, op, type, pos, after, guard⟩ := o
    simp only at ho
    subst ho
    simp [execOp, resolve, invoke, builtin, em, ek, hrun, Result.andThen]
  refine Oper.wpR (fun d hd => by rw [hd] at ho; cases ho) ?_
  unfold Oper.wp
  rw [hex]
  obtain ⟨g2, hM2⟩ := aux_step (x' := .map (delV kv es)) g hM hb0 (w' := { c.w with heap := c.w.heap.setIfInBounds b (.map es' cl) }) rfl rfl rfl rfl (Nat.le_refl _) ⟨es', cl, (heap_set (o' := .map es' cl) hb0).1, hl', hpw', hcl'⟩ rfl
  have hact : act.put o.dst (.tuple #[]) = act := by rw [hd]; rfl
  have := hK' act _ (h c0 H0 _ act g2 hM2 Qx hQ R hR)
  show K' (act.put o.dst (.tuple #[])) _
  rw [hact]; exact this
theorem SemK.mapLookI {T : Ty} {t b kt et : Nat} {m k : Operand} {qm qk : List Prop} {ka : AV} {kv z : Value} {es : List (Value × Value)} {ti : TI} {d : TypeDesc} (hT : TyOk P T) (ho : o.op = .lookup t m k false) (hg : o.guard = none) (hd : dstOk nt o.dst = true)
    (ht : T t = some ti) (hkd : ti.kind = .map kt et) (hu : P.underlying kt = some d) (hz : ∀ w, (zeroValue et).run P w = .ok z w)
    (hm : rd L m = (.sc (.map (some b)), qm)) (hk : rd L k = (ka, qk)) (hka : keyV ka = some kv) (hqm : allP qm) (hqk : allP qk) (hik : IsKey d kv) (hks : ∀ p ∈ es, IsKey d p.1)
    (h : SemK P nt n0 Q (.ops ops l) K ⟨fr (putO o.dst (.sc ((getV kv es).getD z)) L), hp G, n⟩ ((b, es) :: μ)) : SemK P nt n0 Q (.ops ops (o :: l)) K ⟨fr L, hp G, n⟩ ((b, es) :: μ) := by
  intro c0 H0 c act g hM Qx hQ R hR
  refine wpListR_step fun K' hK' => ?_
  rw [if_pos (by simp [Region.wanted, hg])]
  have em : act.eval m = .map (some b) := by have := g.ev m; rw [show evA (St.A ⟨fr L, hp G, n⟩) m = _ from rd_ok hm hqm] at this; exact this.sc_inv
  have ek : act.eval k = kv := by have := g.ev k; rw [show evA (St.A ⟨fr L, hp G, n⟩) k = _ from rd_ok hk hqk] at this; exact keyV_inv hka this
  have hu1 : P.underlying t = some (.map kt et) := by
    obtain ⟨i, dd, _, hdd, _, hkk, _⟩ := tyInfo_parts (hT t ti ht)
    rw [hkd] at hkk
    cases dd <;> simp [kindOf] at hkk
    obtain ⟨rfl, rfl⟩ := hkk
    exact hdd
  have hrun : (Instr.lookup t (.map (some b)) kv false).run P c.w = .ok ((getV kv es).getD z) c.w := by
    obtain ⟨es0, clock, hb, hl, _⟩ := hM.is (b, es) (by simp)
    rcases find_is (w := c.w) hu hik hl hks with ⟨h1, _, h3⟩ | ⟨j, e, h1, _, _, _, h4⟩
    · simp [Instr.lookup, run_underlying hu1, MapKept.run_getObj_map hb, run_checkKey hu hik, h1, h3, hz, Result.andThen]
    · simp [Instr.lookup, run_underlying hu1, MapKept.run_getObj_map hb, run_checkKey hu hik, h1, h4, Result.andThen]
  have hex : (execOp act.eval o).run P c.w = .ok (.value ((getV kv es).getD z)) c.w := by
    obtain ⟨dst, op, type, pos, after, guard⟩ := o
    simp only at ho
    subst ho
    simp only [execOp, em, ek, Sem.run_bind, hrun]
    rfl
  refine Oper.wpR (fun d hd => by rw [hd] at ho; cases ho) ?_
  unfold Oper.wp
  rw [hex]
  have g2 := g.next (c' := c) (dst := o.dst) (a := .sc ((getV kv es).getD z)) (v := (getV kv es).getD z) (dstOk_lt hd) (.refl c) rfl (fun b hb => .inl hb) (.refl c (hp G)) (fun q x hx => .inr ⟨q, x, hx, rfl⟩) g.inv g.solo (Nat.le_refl _) .sc .sc
  rw [putO_fr] at h
  exact hK' _ _ (h c0 H0 c _ g2 hM.act Qx hQ R hR)
theorem SemK.mapEntryI {b r : Nat} {since clock : Nat} {seen : Array Nat} {ents : Array MapEntry} {e : MapEntry} {m : Operand} {qm : List Prop} (ho : o.op = .entry m) (hg : o.guard = none) (hd : dstOk nt o.dst = true)
    (hm : rd L m = (.sc (.pointer (some ⟨r, 0, none⟩)), qm)) (hqm : allP qm) (he : e ∈ ents.toList) (hpw : ents.toList.Pairwise (fun x y => x.born < y.born))
    (h : SemK P nt n0 Q (.ops ops l) K ⟨fr (putO o.dst (.tup [.sc e.key, .sc e.val]) L), hp G, n⟩ ((r, .blk (.mapIter (some b) since (seen.push e.born) clock)) :: (b, .blk (.map ents clock)) :: μ)) :
    SemK P nt n0 Q (.ops ops (o :: l)) K ⟨fr L, hp G, n⟩ ((r, .blk (.mapIter (some b) since (seen.push e.born) clock)) :: (b, .blk (.map ents clock)) :: μ) := by
  intro c0 H0 c act g hM Qx hQ R hR
  refine wpListR_step fun K' hK' => ?_
  rw [if_pos (by simp [Region.wanted, hg])]
  have em : act.eval m = .pointer (some ⟨r, 0, none⟩) := by have := g.ev m; rw [show evA (St.A ⟨fr L, hp G, n⟩) m = _ from rd_ok hm hqm] at this; exact this.sc_inv
  have hr : c.w.heap[r]? = some (.mapIter (some b) since (seen.push e.born) clock) := hM.is (r, .blk (.mapIter (some b) since (seen.push e.born) clock)) (by simp)
  have hb : c.w.heap[b]? = some (.map ents clock) := hM.is (b, .blk (.map ents clock)) (by simp)
  have hrun := run_entry_at (P := P) c.w r b since seen ents clock e hr hb he (List.pairwise_map.2 (hpw.imp fun h => Nat.ne_of_lt h))
  refine Oper.wpR (fun d hd => by rw [hd] at ho; cases ho) ?_
  unfold Oper.wp
  have hex : (execOp act.eval o).run P c.w = .ok (.value (.tuple #[e.key, e.val])) c.w := by
    obtain ⟨dst, op, type, pos, after, guard⟩ := o
    simp only at ho
    subst ho
    simp only [execOp, em, Sem.run_bind, hrun]
    rfl
  rw [hex]
  have g2 := g.next (c' := c) (dst := o.dst) (a := .tup [.sc e.key, .sc e.val]) (v := .tuple #[e.key, e.val]) (dstOk_lt hd) (.refl c) rfl (fun b hb => .inl hb) (.refl c (hp G)) (fun q x hx => .inr ⟨q, x, hx, rfl⟩) g.inv g.solo (Nat.le_refl _) (.tup rfl (by
    intro i a v ha hv
    match i with
    | 0 => simp at ha hv; subst ha; subst hv; exact .sc
    | 1 => simp at ha hv; subst ha; subst hv; exact .sc
    | i + 2 => simp at ha)) (by
    refine .tup fun x hx => ?_
    simp at hx; rcases hx with rfl | rfl <;> exact .sc)
  rw [putO_fr] at h
  exact hK' _ _ (h c0 H0 c _ g2 hM.act Qx hQ R hR)
theorem SemK.mapRange {b : Nat} {t : Nat} {m : Operand} {qm : List Prop} {es : List (Value × Value)} {T : Ty} {kt et : Nat} {ti : TI} (hT : TyOk P T) (ho : o.op = .range t m) (hg : o.guard = none) (hd : dstOk nt o.dst = true)
    (ht : T t = some ti) (hkd : ti.kind = .map kt et) (hm : rd L m = (.sc (.map (some b)), qm)) (hqm : allP qm)
    (h : ∀ (r : Nat) (ents : Array MapEntry) (clock : Nat), ents.toList.map (fun e => (e.key, e.val)) = es → ents.toList.Pairwise (fun x y => x.born < y.born) → (∀ e ∈ ents.toList, e.born < clock) →
      SemK P nt n0 Q (.ops ops l) K ⟨fr (putO o.dst (.sc (.pointer (some ⟨r, 0, none⟩))) L), hp G, n⟩ ((r, .blk (.mapIter (some b) clock #[] clock)) :: (b, .blk (.map ents clock)) :: μ)) :
    SemK P nt n0 Q (.ops ops (o :: l)) K ⟨fr L, hp G, n⟩ ((b, es) :: μ) := by
  intro c0 H0 c act g hM Qx hQ R hR
  refine wpListR_step fun K' hK' => ?_
  rw [if_pos (by simp [Region.wanted, hg])]
  have em : act.eval m = .map (some b) := by have := g.ev m; rw [show evA (St.A ⟨fr L, hp G, n⟩) m = _ from rd_ok hm hqm] at this; exact this.sc_inv
  have hu1 : P.underlying t = some (.map kt et) := by
    obtain ⟨i, dd, _, hdd, _, hkk, _⟩ := tyInfo_parts (hT t ti ht)
    rw [hkd] at hkk
    cases dd <;> simp [kindOf] at hkk
    obtain ⟨rfl, rfl⟩ := hkk
    exact hdd
  obtain ⟨ents, clock, hb0, hl, hpw, hcl⟩ := hM.is (b, es) (by simp)
  have hM' : MOk n0 c0 H0 c (hp G) ((b, .blk (.map ents clock)) :: μ) act := ⟨fun p hp => by
      rcases List.mem_cons.1 hp with rfl | hp
      · exact hb0
      · exact hM.is p (List.mem_cons_of_mem _ hp), fun p hp => by
      rcases List.mem_cons.1 hp with rfl | hp
      · exact hM.away (b, es) (by simp)
      · exact hM.away p (List.mem_cons_of_mem _ hp), hM.nodup, hM.ds⟩
  have hrun : (execOp act.eval o).run P c.w = .ok (.value (.pointer (some ⟨c.w.heap.size, 0, none⟩))) (c.w.alloc (.mapIter (some b) clock #[] clock)) := by
    obtain ⟨dst, op, type, pos, after, guard⟩ := o
    simp only at ho
    subst ho
    simp only [execOp, em, Sem.run_bind, run_range_map c.w _ _ _ _ _ _ hu1 hb0]
    rfl
  refine Oper.wpR (fun d hd => by rw [hd] at ho; cases ho) ?_
  unfold Oper.wp
  rw [hrun]
  obtain ⟨h1, h2, h3⟩ := g.inv.waste (w' := c.w.alloc (.mapIter (some b) clock #[] clock)) (.mapIter (some b) clock #[] clock) rfl rfl rfl ⟨rfl, Nat.le_refl _⟩
  have g2 := (g.rebase).next (c' := { c with w := c.w.alloc (.mapIter (some b) clock #[] clock) }) (dst := o.dst) (a := .sc (.pointer (some ⟨c.w.heap.size, 0, none⟩))) (v := .pointer (some ⟨c.w.heap.size, 0, none⟩)) (dstOk_lt hd) h1 rfl (fun b hb => .inl hb) h3 (fun q x hx => .inr ⟨q, x, hx, rfl⟩) h2 g.solo (Nat.le_refl _) .sc .sc
  have hk := hM'.kept g2.reach
  have hnew : (c.w.alloc (.mapIter (some b) clock #[] clock)).heap[c.w.heap.size]? = some (.mapIter (some b) clock #[] clock) := (heap_alloc c.w _).1
  have hb := h c.w.heap.size ents clock hl hpw hcl
  rw [putO_fr] at hb
  refine hK' _ _ (hb c0 H0 { c with w := c.w.alloc (.mapIter (some b) clock #[] clock) } _ (.join g.reach g2) ⟨?_, ?_, ?_, (put_defers _ _ _).trans hM'.ds⟩ Qx hQ R (fun e => hR e))
  · intro p hp
    rcases List.mem_cons.1 hp with rfl | hp
    · exact hnew
    · exact hk.is p hp
  · intro p hp
    rcases List.mem_cons.1 hp with rfl | hp
    · refine ⟨fun hs => Nat.lt_irrefl _ (g.inv.lt _ (.inl hs)), fun hs => Nat.lt_irrefl _ (g.inv.lt _ (.inr hs)), fun q x hx he => ?_, ⟨by rw [← g.reach.B]; exact g.inv.base, .inl g.reach.size⟩⟩
      obtain ⟨_, ⟨⟨cur, hcb, _⟩, _, _, _⟩, _⟩ := g.inv.obj q x hx
      have he' : (c.ρ q).blk = c.w.heap.size := he
      rw [he'] at hcb
      simp at hcb
    · exact hk.away p hp
  · refine List.nodup_cons.2 ⟨fun hmem => ?_, hk.nodup⟩
    obtain ⟨p, hp, he⟩ := List.mem_map.1 hmem
    have := (hM'.is p hp).lt
    simp only at he
    omega
theorem SemK.mapNext {b r : Nat} {since c1 clock : Nat} {seen : Array Nat} {ents : Array MapEntry} {m : Operand} {qm : List Prop} (ho : o.op = .next m false) (hg : o.guard = none) (hd : dstOk nt o.dst = true)
    (hm : rd L m = (.sc (.pointer (some ⟨r, 0, none⟩)), qm)) (hqm : allP qm) (hold : ∀ x ∈ ents.toList, x.born < since) (hsc : since ≤ c1)
    (h0 : (leftOf ents seen).size = 0 → SemK P nt n0 Q (.ops ops l) K ⟨fr (putO o.dst (.tup [.sc (.bool false)]) L), hp G, n⟩ ((r, .blk (.mapIter (some b) since seen c1)) :: (b, .blk (.map ents clock)) :: μ))
    (h1 : ∀ e ∈ (leftOf ents seen).toList, SemK P nt n0 Q (.ops ops l) K ⟨fr (putO o.dst (.tup [.sc (.bool true), .sc e.key, .sc e.val]) L), hp G, n⟩ ((r, .blk (.mapIter (some b) since (seen.push e.born) clock)) :: (b, .blk (.map ents clock)) :: μ)) :
    SemK P nt n0 Q (.ops ops (o :: l)) K ⟨fr L, hp G, n⟩ ((r, .blk (.mapIter (some b) since seen c1)) :: (b, .blk (.map ents clock)) :: μ) := by
  intro c0 H0 c act g hM Qx hQ R hR
  refine wpListR_step fun K' hK' => ?_
  rw [if_pos (by simp [Region.wanted, hg])]
  have em : act.eval m = .pointer (some ⟨r, 0, none⟩) := by have := g.ev m; rw [show evA (St.A ⟨fr L, hp G, n⟩) m = _ from rd_ok hm hqm] at this; exact this.sc_inv
  have hr : c.w.heap[r]? = some (.mapIter (some b) since seen c1) := hM.is (r, .blk _) (by simp)
  have hb : c.w.heap[b]? = some (.map ents clock) := hM.is (b, .blk _) (by simp)
  refine Oper.wpR (fun d hd => by rw [hd] at ho; cases ho) ?_
  unfold Oper.wp
  rcases run_next_at (P := P) c.w o.type r b since c1 seen ents clock hr hb hold hsc with ⟨e0, hrun⟩ | ⟨e, he, w1, hw1, hrun⟩
  · have hex : (execOp act.eval o).run P c.w = .ok (.value (.tuple #[.bool false])) c.w := by
      obtain ⟨dst, op, type, pos, after, guard⟩ := o
      simp only at ho
      subst ho
      simp only [execOp, em, Sem.run_bind, hrun]
      rfl
    rw [hex]
    have g2 := g.next (c' := c) (dst := o.dst) (a := .tup [.sc (.bool false)]) (v := .tuple #[.bool false]) (dstOk_lt hd) (.refl c) rfl (fun b hb => .inl hb) (.refl c (hp G)) (fun q x hx => .inr ⟨q, x, hx, rfl⟩) g.inv g.solo (Nat.le_refl _) (.tup rfl (by
      intro i a v ha hv
      match i with
      | 0 => simp at ha hv; subst ha; subst hv; exact .sc
      | i + 1 => simp at ha)) (by
      refine .tup fun x hx => ?_
      simp at hx; subst hx; exact .sc)
    have hk := h0 e0
    rw [putO_fr] at hk
    exact hK' _ _ (hk c0 H0 c _ g2 hM.act Qx hQ R hR)
  · have hex : (execOp act.eval o).run P c.w = .ok (.value (.tuple #[.bool true, e.key, e.val])) (Go.ChangeMaps.setBlock w1 r (.mapIter (some b) since (seen.push e.born) clock)) := by
      obtain ⟨dst, op, type, pos, after, guard⟩ := o
      simp only at ho
      subst ho
      simp only [execOp, em, Sem.run_bind, hrun]
      rfl
    rw [hex]
    have hs : (Go.ChangeMaps.setBlock w1 r (.mapIter (some b) since (seen.push e.born) clock)).heap = c.w.heap.setIfInBounds r (.mapIter (some b) since (seen.push e.born) clock) := by rcases hw1 with rfl | rfl <;> rfl
    obtain ⟨g1, hM1⟩ := aux_step (x' := .blk (.mapIter (some b) since (seen.push e.born) clock)) g hM hr (w' := Go.ChangeMaps.setBlock w1 r (.mapIter (some b) since (seen.push e.born) clock)) hs (by rcases hw1 with rfl | rfl <;> rfl) (by rcases hw1 with rfl | rfl <;> rfl) (by rcases hw1 with rfl | rfl <;> rfl)
      (by rcases hw1 with rfl | rfl; exact Nat.le_refl _; exact Nat.le_succ _) (by show _ = _; rw [show ({ c with w := _ } : Ctx).w = _ from rfl, hs]; exact (heap_set (o' := _) hr).1) rfl
    have g2 := g1.next (c' := { c with w := _ }) (dst := o.dst) (a := .tup [.sc (.bool true), .sc e.key, .sc e.val]) (v := .tuple #[.bool true, e.key, e.val]) (dstOk_lt hd) (.refl _) rfl (fun b hb => .inl hb) (.refl _ (hp G)) (fun q x hx => .inr ⟨q, x, hx, rfl⟩) g1.inv g1.solo (Nat.le_refl _) (.tup rfl (by
      intro i a v ha hv
      match i with
      | 0 => simp at ha hv; subst ha; subst hv; exact .sc
      | 1 => simp at ha hv; subst ha; subst hv; exact .sc
      | 2 => simp at ha hv; subst ha; subst hv; exact .sc
      | i + 3 => simp at ha)) (by
      refine .tup fun x hx => ?_
      simp at hx; rcases hx with rfl | rfl | rfl <;> exact .sc)
    have hk := h1 e he
    rw [putO_fr] at hk
    exact hK' _ _ (hk c0 H0 _ _ g2 hM1.act Qx hQ R hR)
theorem SemK.mapShut {b r : Nat} {it : Go.Obj} {s : St} {clock : Nat} {ents : Array MapEntry} {es : List (Value × Value)} (hl : ents.toList.map (fun e => (e.key, e.val)) = es) (hpw : ents.toList.Pairwise (fun x y => x.born < y.born)) (hcl : ∀ e ∈ ents.toList, e.born < clock)
    (h : SemK P nt n0 Q (.ops ops l) K s ((b, es) :: μ)) : SemK P nt n0 Q (.ops ops l) K s ((r, .blk it) :: (b, .blk (.map ents clock)) :: μ) := by
  intro c0 H0 c act g hM Qx hQ R hR
  refine h c0 H0 c act g ⟨fun p hp => ?_, fun p hp => ?_, (List.nodup_cons.1 hM.nodup).2, hM.ds⟩ Qx hQ R hR
  · rcases List.mem_cons.1 hp with rfl | hp
    · exact ⟨ents, clock, hM.is (b, .blk (.map ents clock)) (by simp), hl, hpw, hcl⟩
    · exact hM.is p (by simp [hp])
  · rcases List.mem_cons.1 hp with rfl | hp
    · exact hM.away (b, .blk (.map ents clock)) (by simp)
    · exact hM.away p (by simp [hp])
theorem SemK.mapShutC {b r : Nat} {it : Go.Obj} {s : St} {clock : Nat} {ents : Array MapEntry} {es : List (Value × Value)} {code : Code} (hl : ents.toList.map (fun e => (e.key, e.val)) = es) (hpw : ents.toList.Pairwise (fun x y => x.born < y.born)) (hcl : ∀ e ∈ ents.toList, e.born < clock)
    (h : SemK P nt n0 Q (.code code) K s ((b, es) :: μ)) : SemK P nt n0 Q (.code code) K s ((r, .blk it) :: (b, .blk (.map ents clock)) :: μ) := by
  intro c0 H0 c act g hM R hR
  refine h c0 H0 c act g ⟨fun p hp => ?_, fun p hp => ?_, (List.nodup_cons.1 hM.nodup).2, hM.ds⟩ R hR
  · rcases List.mem_cons.1 hp with rfl | hp
    · exact ⟨ents, clock, hM.is (b, .blk (.map ents clock)) (by simp), hl, hpw, hcl⟩
    · exact hM.is p (by simp [hp])
  · rcases List.mem_cons.1 hp with rfl | hp
    · exact hM.away (b, .blk (.map ents clock)) (by simp)
    · exact hM.away p (by simp [hp])
end
end Go.Av

namespace Go.Av
variable [Gls]
open Go.WideMaps
theorem kl_int {P : Program} {t : TypeId} {q : IntKind} {n : Int} (d : Nat) (h : P.underlying t = some (.int q)) (hw : (Lit.int q n).wf = true) : P.keyLits (d + 1) t [.int q n] = some [.int q n] := by
  unfold Program.keyLits; rw [h]; simp [hw]
theorem kl_struct {P : Program} {t : TypeId} {fs : Array Field} {cs : List Value} {ls : List (List Lit)} {d : Nat} (h : P.underlying t = some (.struct fs)) (hl : cs.length = P.cellsOf t) (hn : fs.all (fun f => f.name != "_") = true)
    (hm : fs.toList.mapM (fun f => P.keyLits d f.type ((cs.drop f.offset).take (P.cellsOf f.type))) = some ls) : P.keyLits (d + 1) t cs = some ls.flatten := by
  unfold Program.keyLits; rw [h]; simp only []; rw [if_pos ⟨hl, hn⟩, hm]; rfl
theorem kl_arr {P : Program} {t : TypeId} {n : Nat} {e : TypeId} {cs : List Value} {ls : List (List Lit)} {d : Nat} (h : P.underlying t = some (.array n e)) (hl : cs.length = P.cellsOf t)
    (hm : (List.range n).mapM (fun i => P.keyLits d e ((cs.drop (i * P.cellsOf e)).take (P.cellsOf e))) = some ls) : P.keyLits (d + 1) t cs = some ls.flatten := by
  unfold Program.keyLits; rw [h]; simp only []; rw [if_pos hl, hm]; rfl
theorem mM_nil {α β : Type} {f : α → Option β} : ([] : List α).mapM f = some [] := rfl
theorem mM_cons {α β : Type} {f : α → Option β} {a : α} {l : List α} {b : β} {bs : List β} (h : f a = some b) (h2 : l.mapM f = some bs) : (a :: l).mapM f = some (b :: bs) := by
  rw [List.mapM_cons, h]; simp only [Option.bind_eq_bind, Option.bind_some]; rw [h2]; rfl
def KL (P : Program) (d : Nat) (t : TypeId) (cs : List Value) : Prop := ∃ ls, P.keyLits d t cs = some ls
theorem KL.int {P : Program} {t : TypeId} {q : IntKind} {n : Int} {d : Nat} (h : P.underlying t = some (.int q)) (hw : (Lit.int q n).wf = true) : KL P (d + 1) t [.int q n] := ⟨_, kl_int d h hw⟩
theorem KL.struct {P : Program} {t : TypeId} {fs : Array Field} {cs : List Value} {d : Nat} (h : P.underlying t = some (.struct fs)) (hl : cs.length = P.cellsOf t) (hn : fs.all (fun f => f.name != "_") = true)
    (hm : ∃ ls, fs.toList.mapM (fun f => P.keyLits d f.type ((cs.drop f.offset).take (P.cellsOf f.type))) = some ls) : KL P (d + 1) t cs := by
  obtain ⟨ls, hm⟩ := hm; exact ⟨_, kl_struct h hl hn hm⟩
theorem KL.arr {P : Program} {t : TypeId} {n : Nat} {e : TypeId} {cs : List Value} {d : Nat} (h : P.underlying t = some (.array n e)) (hl : cs.length = P.cellsOf t)
    (hm : ∃ ls, (List.range n).mapM (fun i => P.keyLits d e ((cs.drop (i * P.cellsOf e)).take (P.cellsOf e))) = some ls) : KL P (d + 1) t cs := by
  obtain ⟨ls, hm⟩ := hm; exact ⟨_, kl_arr h hl hm⟩
theorem mX_nil {α β : Type} {f : α → Option β} : ∃ ls, ([] : List α).mapM f = some ls := ⟨_, mM_nil⟩
theorem mX_cons {α β : Type} {f : α → Option β} {a : α} {l : List α} (h : ∃ b, f a = some b) (h2 : ∃ bs, l.mapM f = some bs) : ∃ ls, (a :: l).mapM f = some ls := by
  obtain ⟨b, h⟩ := h; obtain ⟨bs, h2⟩ := h2; exact ⟨_, mM_cons h h2⟩
theorem key_of {P : Program} {k : TypeId} {xs : List Value} {ls : List Lit} (hw : (match P.underlying k with | some (.array _ _) | some (.struct _) => true | _ => false) = true) (hk : P.keyType k = true) (hf : (Value.agg xs.toArray).formed P k = true) (hl : P.keyLits (P.types.size + 1) k xs = some ls) :
    keyOf P k (.agg xs.toArray) = some (.string (keyBytes ls)) := by
  unfold keyOf
  split
  · rw [hk, hf]; simp [Value.cells, hl]
  · rw [hk, hf]; simp [Value.cells, hl]
  · rename_i h1 h2
    split at hw
    · rename_i h; exact absurd h (h1 _ _)
    · rename_i h; exact absurd h (h2 _)
    · cases hw
theorem key_ex {P : Program} {k : TypeId} {xs : List Value} (hw : (match P.underlying k with | some (.array _ _) | some (.struct _) => true | _ => false) = true) (hk : P.keyType k = true) (hf : (Value.agg xs.toArray).formed P k = true) (hl : KL P (P.types.size + 1) k xs) : ∃ l, keyOf P k (.agg xs.toArray) = some l := by
  obtain ⟨ls, hl⟩ := hl; exact ⟨_, key_of hw hk hf hl⟩
end Go.Av
namespace Go.D
noncomputable def wfOk {α : Type} (p : α → Prop) (l : List α) : Option Unit := open Classical in if ∀ y ∈ l, p y then some () else none
theorem wfOk_all {α : Type} {p : α → Prop} {l : List α} {u : Unit} (h : wfOk p l = some u) : ∀ y ∈ l, p y := by
  unfold wfOk at h; split at h
  · assumption
  · cases h
theorem wfOk_ok {α : Type} {p : α → Prop} {l : List α} (h : ∀ y ∈ l, p y) : wfOk p l = some () := if_pos h
section
variable {α : Type} [DecidableEq α]
def getA (x : α) : List (α × Int) → Int
  | [] => 0
  | (a, v) :: r => if a = x then v else getA x r
def setA (x : α) (v : Int) : List (α × Int) → List (α × Int)
  | [] => [(x, v)]
  | (a, w) :: r => if a = x then (x, v) :: r else (a, w) :: setA x v r
def addAll (ks : List (α × Int)) : List α → List (α × Int)
  | [] => ks
  | x :: xs => addAll (setA x (IntKind.i64.wrap (getA x ks + 1)) ks) xs
def subAll (ks : List (α × Int)) : List α → Bool
  | [] => true
  | x :: xs => bif decide (getA x (setA x (IntKind.i64.wrap (getA x ks - 1)) ks) < 0) then false else subAll (setA x (IntKind.i64.wrap (getA x ks - 1)) ks) xs
def subRest (ks : List (α × Int)) : List α → List (α × Int)
  | [] => ks
  | x :: xs => subRest (setA x (IntKind.i64.wrap (getA x ks - 1)) ks) xs
theorem getA_set (x : α) (v : Int) : ∀ ks : List (α × Int), getA x (setA x v ks) = v := by
  intro ks
  induction ks with
  | nil => simp [setA, getA]
  | cons p r ih => obtain ⟨a, w⟩ := p; by_cases h : a = x <;> simp [setA, getA, h, ih]
theorem getA_set_ne {x y : α} (hne : y ≠ x) (v : Int) : ∀ ks : List (α × Int), getA y (setA x v ks) = getA y ks := by
  intro ks
  induction ks with
  | nil => simp [setA, getA, Ne.symm hne]
  | cons p r ih =>
    obtain ⟨a, w⟩ := p
    by_cases h : a = x
    · subst h; simp [setA, getA, Ne.symm hne]
    · by_cases h2 : a = y
      · subst h2; simp [setA, getA, h]
      · simp [setA, getA, h, h2, ih]
end
end Go.D
namespace Go.Av
open Go.D
section
variable {α : Type} [DecidableEq α] {e : α → Value}
def kvE (e : α → Value) (p : α × Int) : Value × Value := (e p.1, .int .i64 p.2)
theorem kvE_set (he : ∀ a b, e a = e b → a = b) (x : α) (v : Int) : ∀ ks : List (α × Int), setV (e x) (.int .i64 v) (ks.map (kvE e)) = (setA x v ks).map (kvE e) := by
  intro ks
  induction ks with
  | nil => simp [setV, setA, kvE]
  | cons p r ih =>
    obtain ⟨a, w⟩ := p
    by_cases h : a = x
    · subst h; simp [setV, setA, kvE]
    · have h2 : ¬ e a = e x := fun q => h (he _ _ q)
      have ih' : setV (e x) (.int .i64 v) (r.map (kvE e)) = (setA x v r).map (kvE e) := ih
      simp [setV, setA, kvE, h, h2]
      exact ih'
theorem kvE_get (he : ∀ a b, e a = e b → a = b) (x : α) : ∀ ks : List (α × Int), (getV (e x) (ks.map (kvE e))).getD (.int .i64 0) = .int .i64 (getA x ks) := by
  intro ks
  induction ks with
  | nil => simp [getV, getA]
  | cons p r ih =>
    obtain ⟨a, w⟩ := p
    by_cases h : a = x
    · subst h; simp [getV, getA, kvE]
    · have h2 : ¬ e a = e x := fun q => h (he _ _ q)
      simp [getV, getA, kvE, h, h2]
      exact ih
end
theorem MOk.drop {n0 : Nat} {c0 c : Ctx} {H0 H : Heap} {b : Nat} {l : List (Value × Value)} {μ : Mu} {act : Act} (h : MOk n0 c0 H0 c H ((b, .map l) :: μ) act) : MOk n0 c0 H0 c H μ act :=
  ⟨fun q hq => h.is q (List.mem_cons_of_mem _ hq), fun q hq => h.away q (List.mem_cons_of_mem _ hq), (List.nodup_cons.1 h.nodup).2, h.ds⟩
theorem SemK.permL {P : Program} {nt n0 : Nat} {Q : AExit → St → Mu → Prop} {K : List Kn} {s : St} {μ μ' : Mu} {b : Code} (hp : μ.Perm μ') (h : SemK P nt n0 Q (.loop b) K s μ') (hd : dsOf μ = dsOf μ' := by rfl) : SemK P nt n0 Q (.loop b) K s μ :=
  fun c0 H0 c act g hM => h c0 H0 c act g (hM.perm hp hd)
end Go.Av

namespace Go.D
section
variable {α : Type} [DecidableEq α]
def delA (x : α) : List (α × Int) → List (α × Int)
  | [] => []
  | (a, w) :: r => if a = x then r else (a, w) :: delA x r
end
def leastZ : List (Int × Int) → Int
  | [] => -1
  | (i, n) :: r => bif decide (n = 0) && (decide (leastZ r < 0) || decide (i < leastZ r)) then i else leastZ r
def ordIn (ks : List (Int × Int)) (k : Int) : Nat → List (Int × Int)
  | 0 => ks
  | n + 1 => ordIn (setA k 0 ks) (k + 1) n
def ordDec (nx : Int) (ks : List (Int × Int)) : List (Int × Int) → List (Int × Int)
  | [] => ks
  | c :: cs => ordDec nx (bif decide (c.1 = nx) then setA c.2 (IntKind.i64.wrap (getA c.2 ks - 1)) ks else ks) cs
def ordGo (cs : List (Int × Int)) : Nat → List (Int × Int) → List Int → Option (List Int)
  | 0, _, _ => none
  | f + 1, ks, out => bif decide ((0 : Int) < (ks.length : Int)) then bif decide (leastZ ks < 0) then some out else ordGo cs f (ordDec (leastZ ks) (delA (leastZ ks) ks) cs) (out ++ [leastZ ks]) else some out
def ordL (n : Nat) (cs : List (Int × Int)) : Option (List Int) := ordGo cs 1000 (addAll (ordIn [] 0 n) (cs.map (·.2))) []
def IsLeast (nx : Int) (S : Int × Int → Prop) : Prop := (nx = -1 ∧ ∀ p, S p → p.2 ≠ 0) ∨ (0 ≤ nx ∧ S (nx, 0) ∧ ∀ p, S p → p.2 = 0 → nx ≤ p.1)
theorem IsLeast.uniq {a b : Int} {S : Int × Int → Prop} (h : IsLeast a S) (k : IsLeast b S) : a = b := by
  rcases h with ⟨h1, h2⟩ | ⟨h1, h2, h3⟩ <;> rcases k with ⟨k1, k2⟩ | ⟨k1, k2, k3⟩
  · rw [h1, k1]
  · exact absurd rfl (h2 _ k2)
  · exact absurd rfl (k2 _ h2)
  · have := h3 _ k2 rfl
    have := k3 _ h2 rfl
    simp only at *
    omega
theorem IsLeast.step {nx : Int} {S S' : Int × Int → Prop} (h : IsLeast nx S) (i n : Int) (hi : 0 ≤ i) (hS : ∀ p, S' p ↔ p = (i, n) ∨ S p) : IsLeast (bif decide (n = 0) && (decide (nx < 0) || decide (i < nx)) then i else nx) S' := by
  cases hb : (decide (n = 0) && (decide (nx < 0) || decide (i < nx))) with
  | true =>
    rw [cond_true]
    simp only [Bool.and_eq_true, Bool.or_eq_true, decide_eq_true_eq] at hb
    obtain ⟨rfl, hb⟩ := hb
    refine .inr ⟨hi, (hS _).2 (.inl rfl), fun p hp h0 => ?_⟩
    rcases (hS p).1 hp with rfl | hp
    · exact Int.le_refl _
    · rcases h with ⟨h1, h2⟩ | ⟨h1, h2, h3⟩
      · exact absurd h0 (h2 p hp)
      · have := h3 p hp h0
        omega
  | false =>
    rw [cond_false]
    have hb' : ¬ (n = 0 ∧ (nx < 0 ∨ i < nx)) := by
      intro hh
      have : (decide (n = 0) && (decide (nx < 0) || decide (i < nx))) = true := by simp [hh]
      rw [hb] at this; cases this
    rcases h with ⟨h1, h2⟩ | ⟨h1, h2, h3⟩
    · refine .inl ⟨h1, fun p hp h0 => ?_⟩
      rcases (hS p).1 hp with rfl | hp
      · exact hb' ⟨h0, .inl (by omega)⟩
      · exact h2 p hp h0
    · refine .inr ⟨h1, (hS _).2 (.inr h2), fun p hp h0 => ?_⟩
      rcases (hS p).1 hp with rfl | hp
      · by_cases hc : i < nx
        · exact absurd ⟨h0, .inr hc⟩ hb'
        · show nx ≤ i
          omega
      · exact h3 p hp h0
theorem leastZ_is : ∀ (l : List (Int × Int)), (∀ p ∈ l, 0 ≤ p.1) → IsLeast (leastZ l) (· ∈ l) := by
  intro l
  induction l with
  | nil => intro _; exact .inl ⟨rfl, fun p hp => by simp at hp⟩
  | cons a r ih =>
    obtain ⟨i, n⟩ := a
    intro h
    exact (ih fun p hp => h p (List.mem_cons_of_mem _ hp)).step i n (h (i, n) (by simp)) fun p => List.mem_cons
theorem setA_ge {x v : Int} (hx : 0 ≤ x) : ∀ {l : List (Int × Int)}, (∀ p ∈ l, 0 ≤ p.1) → ∀ p ∈ setA x v l, 0 ≤ p.1 := by
  intro l
  induction l with
  | nil => intro _ p hp; simp [setA] at hp; subst hp; exact hx
  | cons a r ih =>
    obtain ⟨a, w⟩ := a
    intro h p hp
    simp only [setA] at hp
    split at hp
    · rcases List.mem_cons.1 hp with rfl | hp
      · exact hx
      · exact h p (List.mem_cons_of_mem _ hp)
    · rcases List.mem_cons.1 hp with rfl | hp
      · exact h (a, w) (by simp)
      · exact ih (fun q hq => h q (List.mem_cons_of_mem _ hq)) p hp
theorem delA_ge {x : Int} : ∀ {l : List (Int × Int)}, (∀ p ∈ l, 0 ≤ p.1) → ∀ p ∈ delA x l, 0 ≤ p.1 := by
  intro l
  induction l with
  | nil => intro _ p hp; simp [delA] at hp
  | cons a r ih =>
    obtain ⟨a, w⟩ := a
    intro h p hp
    simp only [delA] at hp
    split at hp
    · exact h p (List.mem_cons_of_mem _ hp)
    · rcases List.mem_cons.1 hp with rfl | hp
      · exact h (a, w) (by simp)
      · exact ih (fun q hq => h q (List.mem_cons_of_mem _ hq)) p hp
theorem ordIn_ge : ∀ (n : Nat) {k : Int} {l : List (Int × Int)}, 0 ≤ k → (∀ p ∈ l, 0 ≤ p.1) → ∀ p ∈ ordIn l k n, 0 ≤ p.1
  | 0, _, _, _, h => h
  | n + 1, _, _, hk, h => ordIn_ge n (by omega) (setA_ge hk h)
theorem addAll_ge : ∀ (cs : List Int) {l : List (Int × Int)}, (∀ c ∈ cs, 0 ≤ c) → (∀ p ∈ l, 0 ≤ p.1) → ∀ p ∈ addAll l cs, 0 ≤ p.1
  | [], _, _, h => h
  | c :: cs, _, hc, h => addAll_ge cs (fun x hx => hc x (List.mem_cons_of_mem _ hx)) (setA_ge (hc c (by simp)) h)
theorem ordDec_ge (nx : Int) : ∀ (cs : List (Int × Int)) {l : List (Int × Int)}, (∀ c ∈ cs, 0 ≤ c.2) → (∀ p ∈ l, 0 ≤ p.1) → ∀ p ∈ ordDec nx l cs, 0 ≤ p.1
  | [], _, _, h => h
  | c :: cs, l, hc, h => ordDec_ge nx cs (fun x hx => hc x (List.mem_cons_of_mem _ hx)) (by
    cases decide (c.1 = nx) with
    | true => exact setA_ge (hc c (by simp)) h
    | false => exact h)
end Go.D
namespace Go.Av
open Go.D
def iV (z : Int) : Value := .int .i64 z
theorem iV_inj (a b : Int) (h : iV a = iV b) : a = b := by simpa [iV] using h
section
variable {α : Type} [DecidableEq α] {e : α → Value}
theorem kvE_del (he : ∀ a b, e a = e b → a = b) (x : α) : ∀ ks : List (α × Int), delV (e x) (ks.map (kvE e)) = (delA x ks).map (kvE e) := by
  intro ks
  induction ks with
  | nil => simp [delV, delA]
  | cons p r ih =>
    obtain ⟨a, w⟩ := p
    by_cases h : a = x
    · subst h; simp [delV, delA, kvE]
    · have h2 : ¬ e a = e x := fun q => h (he _ _ q)
      have ih' : delV (e x) (r.map (kvE e)) = (delA x r).map (kvE e) := ih
      simp [delV, delA, kvE, h, h2]
      exact ih'
end
theorem ordGet (x : Int) (ks : List (Int × Int)) : (getV (.int .i64 x) (ks.map (kvE iV))).getD (.int .i64 0) = .int .i64 (getA x ks) := kvE_get iV_inj x ks
theorem ordSet (x v : Int) (ks : List (Int × Int)) : setV (.int .i64 x) (.int .i64 v) (ks.map (kvE iV)) = (setA x v ks).map (kvE iV) := kvE_set iV_inj x v ks
theorem ordDel (x : Int) (ks : List (Int × Int)) : delV (.int .i64 x) (ks.map (kvE iV)) = (delA x ks).map (kvE iV) := kvE_del iV_inj x ks
def Seen (ents : Array MapEntry) (seen : Array Nat) (p : Int × Int) : Prop := ∃ e ∈ ents.toList, seen.contains e.born = true ∧ (e.key, e.val) = kvE iV p
theorem born_eq {l : List MapEntry} (h : l.Pairwise (fun x y => x.born < y.born)) {x y : MapEntry} (hx : x ∈ l) (hy : y ∈ l) (he : x.born = y.born) : x = y := by
  induction l with
  | nil => cases hx
  | cons a r ih =>
    obtain ⟨h1, h2⟩ := List.pairwise_cons.1 h
    rcases List.mem_cons.1 hx with ex | hx' <;> rcases List.mem_cons.1 hy with ey | hy'
    · rw [ex, ey]
    · exact absurd he (Nat.ne_of_lt (ex ▸ h1 y hy'))
    · exact absurd he.symm (Nat.ne_of_lt (ey ▸ h1 x hx'))
    · exact ih h2 hx' hy'
theorem mem_left {ents : Array MapEntry} {seen : Array Nat} {e : MapEntry} : e ∈ (leftOf ents seen).toList ↔ e ∈ ents.toList ∧ seen.contains e.born = false := by
  simp [leftOf]
theorem left_lt {ents : Array MapEntry} {seen : Array Nat} {e : MapEntry} (h : e ∈ (leftOf ents seen).toList) : (leftOf ents (seen.push e.born)).size < (leftOf ents seen).size := by
  have h1 : (leftOf ents (seen.push e.born)).toList = (leftOf ents seen).toList.filter (fun x => x.born != e.born) := by
    unfold leftOf
    rw [Array.toList_filter, Array.toList_filter, List.filter_filter]
    congr 1
    funext x
    rw [Array.contains_push]
    cases seen.contains x.born <;> simp [bne]
  rw [← Array.length_toList, ← Array.length_toList, h1]
  refine Nat.lt_of_le_of_ne (List.length_filter_le _ _) fun hl => ?_
  have := List.filter_eq_self.1 (List.Sublist.eq_of_length List.filter_sublist hl) e h
  simp at this
theorem Seen.step {ents : Array MapEntry} {seen : Array Nat} (hpw : ents.toList.Pairwise (fun x y => x.born < y.born)) {e : MapEntry} {i n : Int} (he : e ∈ (leftOf ents seen).toList) (hv : (e.key, e.val) = kvE iV (i, n)) (p : Int × Int) : Seen ents (seen.push e.born) p ↔ p = (i, n) ∨ Seen ents seen p := by
  have he' := (mem_left.1 he).1
  constructor
  · rintro ⟨x, hx, hs, hp⟩
    rw [Array.contains_push] at hs
    by_cases hb : x.born = e.born
    · have := born_eq hpw hx he' hb
      subst this
      rw [hv] at hp
      refine .inl ?_
      obtain ⟨a, b⟩ := p
      simp [kvE, iV] at hp
      rw [hp.1, hp.2]
    · refine .inr ⟨x, hx, ?_, hp⟩
      simpa [hb] using hs
  · rintro (rfl | ⟨x, hx, hs, hp⟩)
    · exact ⟨e, he', by rw [Array.contains_push]; simp, hv⟩
    · exact ⟨x, hx, by rw [Array.contains_push, hs]; rfl, hp⟩
theorem Seen.all {ents : Array MapEntry} {seen : Array Nat} {ks : List (Int × Int)} (hl : ents.toList.map (fun e => (e.key, e.val)) = ks.map (kvE iV)) (h0 : (leftOf ents seen).size = 0) (p : Int × Int) : Seen ents seen p ↔ p ∈ ks := by
  have hinj : ∀ a b : Int × Int, kvE iV a = kvE iV b → a = b := by
    rintro ⟨a, b⟩ ⟨c, d⟩ h
    simp [kvE, iV] at h
    rw [h.1, h.2]
  constructor
  · rintro ⟨x, hx, _, hp⟩
    have : (x.key, x.val) ∈ ks.map (kvE iV) := by rw [← hl]; exact List.mem_map.2 ⟨x, hx, rfl⟩
    obtain ⟨q, hq, e⟩ := List.mem_map.1 this
    rw [hp] at e
    rw [← hinj _ _ e]; exact hq
  · intro hp
    have : kvE iV p ∈ ents.toList.map (fun e => (e.key, e.val)) := by rw [hl]; exact List.mem_map.2 ⟨p, hp, rfl⟩
    obtain ⟨x, hx, e⟩ := List.mem_map.1 this
    refine ⟨x, hx, ?_, e⟩
    cases hs : seen.contains x.born with
    | true => rfl
    | false =>
      have : x ∈ (leftOf ents seen).toList := mem_left.2 ⟨hx, hs⟩
      rw [← Array.length_toList] at h0
      rw [List.eq_nil_of_length_eq_zero h0] at this
      cases this
theorem Seen.none {ents : Array MapEntry} (p : Int × Int) : ¬ Seen ents #[] p := by rintro ⟨x, _, h, _⟩; simp at h
theorem least_done {ents : Array MapEntry} {seen : Array Nat} {ks : List (Int × Int)} {nx : Int} (hl : ents.toList.map (fun e => (e.key, e.val)) = ks.map (kvE iV)) (h0 : (leftOf ents seen).size = 0) (hge : ∀ p ∈ ks, 0 ≤ p.1) (h : IsLeast nx (Seen ents seen)) : leastZ ks = nx := by
  have e : Seen ents seen = (· ∈ ks) := funext fun p => propext (Seen.all hl h0 p)
  rw [e] at h
  exact (leastZ_is ks hge).uniq h
theorem ent_key {ents : Array MapEntry} {ks : List (Int × Int)} (hl : ents.toList.map (fun e => (e.key, e.val)) = ks.map (kvE iV)) {e : MapEntry} (he : e ∈ ents.toList) : ∃ p ∈ ks, e.key = .int .i64 p.1 ∧ e.val = .int .i64 p.2 := by
  have : (e.key, e.val) ∈ ks.map (kvE iV) := by rw [← hl]; exact List.mem_map.2 ⟨e, he, rfl⟩
  obtain ⟨q, hq, e'⟩ := List.mem_map.1 this
  simp [kvE, iV] at e'
  exact ⟨q, hq, e'.1.symm, e'.2.symm⟩
theorem least_nil {ents : Array MapEntry} : IsLeast (-1) (Seen ents #[]) := .inl ⟨rfl, fun p hp => absurd hp (Seen.none p)⟩
end Go.Av

namespace Go.Av
open Go.ChangeShapes Go.RowKit
section
variable {H : Type} {enc : TypeId × Value → H} {P : Program} {w : World}
theorem law_contractG [Gls] {f : Nat} {fn : Func} {s : ChangeSpec} {n tb : Nat} (hl : laidOutB P = true) (hpl : ∀ t ∈ fn.params.toList, plainTy P n t = true)
    (hrd : ∀ t ∈ fn.params.toList, P.readableRec t = true ∧ t < P.types.size) (hres : fn.resultTypes = #[tb]) (htb : P.underlying tb = some .bool) (hsv : s.vars = [])
    (hs : ∀ ds : List (DataW H), ds.length = fn.params.size → s.fn H ds = { results := [.lit (.bool true)], args := ds })
    (hp : ∀ as, Rels (fun t a => Shape P n t a) fn.params.toList as → Pure P f as (.sc (.bool true)))
    (W : World) (hG : GF (lawCtx W)) (base : Nat) (args : Array Value) (ds gs : List (DataW H)) (before : List MemPlace)
    (hval : ∀ (j : Nat) t v, fn.params[j]? = some t → args[j]? = some v → Value.okWide P W .any base t v)
    (hW : DataW.Whole enc P fn.params.toList s.vars false W args.toList ds gs before) :
    Calls P f args W fun e W' => ∃ v, e = .returned v ∧ s.post enc P fn false true false false W args v W' := by
  have hlt := hW.lt
  have hW0 := hW
  obtain ⟨p, q, hA, hV, rfl, hfz, hnd⟩ := hW
  rw [hsv] at hV
  obtain ⟨rfl, rfl⟩ := trodVars_none hV
  simp only [List.append_nil] at hlt hW0
  have hlen : ds.length = fn.params.size := by
    have : ∀ (ts : List Nat) (vs : List Value) (ds : List (DataW H)) (ps : List MemPlace), DataW.TrodAll enc P W 0 (fun _ => true) true ts vs ds ps → ds.length = ts.length := by
      intro ts
      induction ts with
      | nil => intro vs ds ps h; cases vs <;> cases ds <;> simp_all [DataW.TrodAll]
      | cons t ts ih =>
        intro vs ds ps h
        cases vs with
        | nil => simp [DataW.TrodAll] at h
        | cons v vs => cases ds with
          | nil => simp [DataW.TrodAll] at h
          | cons d ds => simp only [DataW.TrodAll] at h; obtain ⟨_, q, _, h2, _⟩ := h; simp [ih vs ds q h2]
    simpa using this _ _ _ _ hA
  obtain ⟨as, h1, h2, h3⟩ := trodAll_shape (n := n) fn.params.toList args.toList ds p hpl (fun j t v hj hv => by
    have := hval j t v (by simpa using hj) (by simpa using hv)
    exact Value.okWide_any_base this) hA
  have hrel : VRels (lawCtx W) true as args := ⟨by simpa using h2, fun i a v ha hv => h3 i a v ha (by simpa using hv)⟩
  refine ((hp as h1).2 W (fun b => b < W.heap.size) args (fun b hb => hb) hG hrel).mono ?_
  rintro e W' ⟨v, rfl, hv, hb⟩
  have hvt : v = .bool true := hv.sc_inv
  subst hvt
  refine ⟨_, rfl, ds, [], p, [], p, [], hW0, ?_, ?_, ?_, ?_, fun h => by cases h⟩
  · rw [List.append_nil, hs ds hlen, hres]
    exact trodAll_cons_mk (shut_bool htb _) trodAll_mk0
  · rw [List.append_nil, hs ds hlen]
    exact trodAll_stays hl hb.toBelow _ _ _ _ hrd hlt hA
  · rw [List.append_nil, hs ds hlen, hsv]
    simp [DataW.TrodVars]
  · exact hb.frame _
end
theorem byteRow_of_laid {P : Program} {name : String} {g t tb n : Nat} {l : List (String × DataW Unit)} {zs : List Int} {W : World} (h : laidMetH P l W)
    (hf : l.filter (fun x => x.1 == name) = [(name, .agg (zs.map fun z => .lit (.int .u8 z)))]) (hh : ((DataW.agg (zs.map fun z => .lit (.int .u8 z)) : DataW Unit).handleName?) = none)
    (hg : P.globalNamed name = some g) (ht : (P.globals[g]?).map (·.type) = some t) (hu : P.underlying t = some (.array n tb)) (hb : P.underlying tb = some (.int .u8)) (hc : P.cellsOf tb = 1) (hn : zs.length = n) :
    ∀ (k : Nat) v, (zs.map fun z => Value.int .u8 z)[k]? = some v → W.cell? ⟨g, k, none⟩ = some v ∧ v.oneCell' = true := by
  have h1 := h.filter fun x => x.1 == name
  rw [hf] at h1
  rw [MakeChecks.laidMetH_plain _ _ _ (by simp [hh])] at h1
  obtain ⟨ps, ⟨g0, t0, cs, fuel, p, q, hg0, ht0, hv, hd, _, _⟩, _, _⟩ := h1
  obtain rfl := Option.some.inj (hg.symm.trans hg0)
  obtain rfl := Option.some.inj (ht.symm.trans ht0)
  obtain ⟨xs, m, _, ex, _, hl, hel⟩ := DataW.trod_array hu hd
  intro r v hr
  have hr1 : r < zs.length := by simpa using (List.getElem?_eq_some_iff.1 hr).1
  have hE := hel r (by omega)
  rw [hc, Nat.mul_one, List.getElem?_eq_getElem (by omega)] at hE
  obtain ⟨z, e1, e2, _⟩ := DataW.trod_int hb hE
  have e3 : (xs.map (·.1)) = zs.map fun z => .lit (.int .u8 z) := (DataW.agg.inj (Prod.mk.inj ex).1).symm
  have e4 : (xs.map (·.1))[r]? = (zs.map fun z => (DataW.lit (.int .u8 z) : DataW Unit))[r]? := by rw [e3]
  rw [List.getElem?_map, List.getElem?_map, List.getElem?_eq_getElem (by omega : r < xs.length), List.getElem?_eq_getElem hr1, e2] at e4
  have hz : z = zs[r] := by simpa using e4
  rw [List.getElem?_map, List.getElem?_eq_getElem hr1] at hr
  have hv' : v = .int .u8 z := by rw [hz]; exact (Option.some.inj hr).symm
  subst hv'
  refine ⟨?_, rfl⟩
  rw [World.var?_cell hg hv r]
  have : cs.toList[r]? = some (.int .u8 z) := by
    have h0 : ((cs.toList.drop r).take 1)[0]? = some (.int .u8 z) := by rw [e1]; rfl
    simpa using h0
  simpa using this
theorem goesBy_none {P : Program} {c : OpenClaim} (h : P.funcs.any Func.goes = false) (hs : c.start = .entering) : false = c.goesBy P := by
  have h1 : ∀ g : Nat, (P.funcs[g]?).any Func.goes = false := by
    intro g
    cases hg : P.funcs[g]? with
    | none => rfl
    | some fn =>
      obtain ⟨hlt, he⟩ := Array.getElem?_eq_some_iff.1 hg
      have := (Array.any_eq_false.1 h) g hlt
      rw [he] at this
      simpa using this
  have h2 : ∀ f, P.goes f = false := by
    intro f
    unfold Program.goes
    rw [h, Bool.and_false, Bool.or_false]
    simp only [h1]
    simp
  unfold OpenClaim.goesBy Program.goesAt Program.goesFrom
  rw [hs]
  cases P.funcNamed c.func with
  | none => rfl
  | some f => simp [h2]
end Go.Av
