/- The operations that make memory: soundness. -/
import Derived.Test.YtioookhnoobpgaaAvMk3
namespace Go.Av

/-- What an operation that makes memory gives. -/
def MkOk (P : Program) (c : Ctx) (H : Heap) (M : Nat → Prop) (σ : Operand → Value) (id : Nat) (o : Oper) (a : AV) (e : Eff) : Prop :=
  ∃ v c', (execOp σ o).run P c.w = .ok (.value v) c'.w ∧ c.Le M c' ∧ c'.Sa = c.Sa ∧ c'.So = c.So ∧ VRel c' false a v ∧ a.Ok (fun q => M q ∨ q = id) ∧
    Inv c' (e.apply id H) (fun q => M q ∨ q = id) ∧ Fr c H c'.w ∧ OwnRel c H c' (e.apply id H)

section
variable {P : Program} {T : Ty} {c : Ctx} {H H' : Heap} {M : Nat → Prop} {ev : Operand → AV} {σ : Operand → Value}

theorem Inv.more (hI : Inv c H M) {M' : Nat → Prop} (hm : ∀ q, M q → M' q) : Inv c H M' :=
  ⟨fun o x h => by obtain ⟨h1, h2, h3⟩ := hI.obj o x h; exact ⟨hm o h1, h2, fun e he a ha => (h3 e he a ha).mono hm⟩, hI.sep, hI.stab, hI.lt, hI.base, hI.own, hI.low⟩
theorem Fr.refl (c : Ctx) (H : Heap) : Fr c H c.w := ⟨rfl, rfl, rfl, Nat.le_refl _, fun _ _ _ => rfl⟩

theorem MkOk.pure (hI : Inv c H M) {id : Nat} {o : Oper} {a : AV} (h : PuOk P c M σ o a) : MkOk P c H M σ id o a .none := by
  obtain ⟨v, h1, h2, h3⟩ := h
  exact ⟨v, c, h1, .refl c, rfl, rfl, h2, h3.mono (fun q hq => .inl hq), hI.more (fun q hq => .inl hq), .refl c H, fun q x hx => .inr ⟨q, x, hx, rfl⟩⟩

/-- A new block that nothing names. -/
theorem Inv.waste (hI : Inv c H M) {w' : World} (o : Go.Obj) (hw : w'.heap = c.w.heap.push o) (hos : w'.os = c.w.os) (htape : w'.tape = c.w.tape) (hout : w'.output = c.w.output) :
    c.Le M { c with w := w' } ∧ Inv { c with w := w' } H M ∧ Fr c H w' := by
  have hold : ∀ b, b < c.w.heap.size → w'.heap[b]? = c.w.heap[b]? := by
    intro b hb
    rw [hw, Array.getElem?_push, if_neg (by omega)]
  have hle : c.Le M { c with w := w' } := ⟨fun _ _ => rfl, fun _ h => h, fun _ h => h, fun b hb => hold b (hI.lt b hb), rfl⟩
  refine ⟨hle, ⟨?_, hI.sep, hI.stab, fun b hb => by have := hI.lt b hb; simp only [hw, Array.size_push]; omega, by have := hI.base; simp only [hw, Array.size_push]; omega, hI.own, hI.low⟩, ⟨hos, htape, hout, by rw [hw]; simp, fun b hb _ => hold b hb⟩⟩
  intro p x hx
  obtain ⟨h1, ⟨⟨cur, hb, hs, hc⟩, h3, h4, h5⟩, h6⟩ := hI.obj p x hx
  refine ⟨h1, ⟨⟨cur, ?_, hs, ?_⟩, h3, h4, h5⟩, h6⟩
  · rw [hold _ (Array.getElem?_eq_some_iff.1 hb).1]; exact hb
  · intro i e he
    obtain ⟨g1, g2⟩ := hc i e he
    exact ⟨g1, fun k a ha => by obtain ⟨v, hv, hr, h7⟩ := g2 k a ha; exact ⟨v, hv, hr.mono hle (.inr (h6 e (List.mem_of_getElem? he) a (List.mem_of_getElem? ha))), h7⟩⟩

theorem new_ok (hI : Inv c H M) {id : Nat} (hid : ¬ M id) {o : Oper} {w' : World} {cur : Array Value} {ety cap esz : Nat} {v : Value} {x : Obj} {a : AV}
    (hrun : (execOp σ o).run P c.w = .ok (.value v) w') (hw : w'.heap = c.w.heap.push (.cells cur ety)) (hos : w'.os = c.w.os) (htape : w'.tape = c.w.tape) (hout : w'.output = c.w.output)
    (hsz : cur.size = cap * esz) (hpos : 0 < esz) (hesz : x.esz = esz) (hfits : x.es.length ≤ cap)
    (hel : ∀ (i : Nat) e, x.es[i]? = some e → e.cells.length = esz ∧ ∀ (k : Nat) a, e.cells[k]? = some a → a.Ok M ∧ ∃ v, cur[i * esz + k]? = some v ∧ VRel c false a v ∧ v.oneCell' = true)
    (ha : ∀ c' : Ctx, c'.ρ id = ⟨c.w.heap.size, cap, esz, ety⟩ → VRel c' false a v) (hok : a.Ok (fun q => M q ∨ q = id)) : MkOk P c H M σ id o a (.new x) := by
  obtain ⟨h1, h2, h3⟩ := hI.addBlock hid hw hos htape hout hsz hpos hesz hfits hel
  refine ⟨v, _, hrun, h1, rfl, rfl, ha _ (by simp [upd_same]), hok, h2, h3, fun q y hy => ?_⟩
  by_cases hq : q = id
  · subst hq; simp [upd_same]
  · simp only [Eff.apply, upd_other _ _ hq] at hy
    exact .inr ⟨q, y, hy, by simp only [upd_other _ _ hq]⟩

theorem run_append_room' (w : World) (t ty e e' : TypeId) (i : TypeInfo) (ht : P.underlying t = some (.slice e)) (hi : P.info? e = some i)
    (g sLen sCap : Nat) (cur : Array Value) (hg : w.heap[g]? = some (.cells cur e' (0, 0)))
    (a : Addr) (m c : Nat) (news : List Value) (hl : news.length = m * i.size) (hnews : ∀ (j : Nat) u, news[j]? = some u → w.cell? (a.add j) = some u) (h1 : ∀ u ∈ news, u.oneCell' = true)
    (hroom : sLen + m ≤ sCap) (hfit : sLen * i.size + news.length ≤ cur.size) :
    (Builtin.append_ #[t, t] ty #[.slice (some ⟨g, 0, none⟩) sLen sCap, .slice (some a) m c]).run P w =
      .ok (.slice (some ⟨g, 0, none⟩) (sLen + m) sCap) (w.setRow g (cur.toList.take (sLen * i.size) ++ news ++ cur.toList.drop (sLen * i.size + news.length)).toArray) := by
  have hf := run_firstCells_some (P := P) w i.size m a m c news hl hnews
  have hst := run_storeCells_at P g (sLen * i.size) e' news 0 cur w hg (by simpa using hfit) h1
  simp only [Nat.add_zero] at hst
  simp [Builtin.append_, run_underlying ht, Go.sizeOf, typeInfo, hi, Builtin.lenOf, hroom, hf, Addr.add_lit, hst]

theorem mk_ok (hT : TyOk P T) (hI : Inv c H M) (hsub : ∀ q x, H' q = some x → H q = some x) {id : Nat} (hid : ¬ M id) (hE : ∀ x, VRel c false (ev x) (σ x)) (hO : ∀ x, (ev x).Ok M)
    {o : Oper} {a : AV} {e : Eff} (h : Mk T ev H' id o.op a e) : MkOk P c H M σ id o a e := by
  have sc : ∀ {x : Operand} {v : Value}, ev x = .sc v → σ x = v := fun {x v} hx => by have := hE x; rw [hx] at this; exact this.sc_inv
  have src : ∀ {a xs}, SrcR H' a xs → SrcR H a xs := fun h => by
    cases h with
    | list => exact .list
    | nils => exact .nils
    | ref hH hle => exact .ref (hsub _ _ hH) hle
  obtain ⟨dst, op, type, pos, after, guard⟩ := o
  simp only at h
  cases h with
  | @box elem x hw hp =>
    have hcr := cells_rel (hE x) (hO x) hw
    refine new_ok hI hid (w' := c.w.alloc (.cells (σ x).cells elem)) (cur := (σ x).cells) (ety := elem) (cap := 1) (esz := (ev x).cells.length) (v := .pointer (some ⟨c.w.heap.size, 0, none⟩))
      ?_ rfl rfl rfl rfl (by rw [Nat.one_mul, hcr.len]) (List.length_pos_iff.2 hp) rfl (by simp) ?_ ?_ (.ptr (.inr rfl))
    · simp [execOp, Instr.box, newVar, newRow]
    · intro i e he
      cases i with
      | zero =>
        simp at he
        subst he
        refine ⟨rfl, fun k a ha => ?_⟩
        have hk : k < (σ x).cells.size := by rw [← hcr.len]; exact (List.getElem?_eq_some_iff.1 ha).1
        obtain ⟨r1, r2, r3⟩ := hcr.rel k a _ ha (Array.getElem?_eq_getElem hk)
        exact ⟨r3, _, by simp [hk], r1, r2⟩
      | succ i => simp at he
    · intro c' hc
      have : VRel c' false (.ptr id 0 0) (.pointer (some ⟨(c'.ρ id).blk, 0 * (c'.ρ id).esz + 0, none⟩)) := .ptr
      rw [hc] at this
      simpa using this
  | @alloc elem ti ht hp =>
    have hz := (hT elem ti ht).zs
    have hcr := cells_rel (c := c) (M := M) (ofConst_rel c false ti.zero) (ofConst_ok M ti.zero) hz.1
    refine new_ok hI hid (w' := c.w.alloc (.cells ti.zero.cells elem)) (cur := ti.zero.cells) (ety := elem) (cap := 1) (esz := ti.size) (v := .pointer (some ⟨c.w.heap.size, 0, none⟩))
      ?_ rfl rfl rfl rfl (by rw [Nat.one_mul, ← hcr.len, hz.2]) (Nat.pos_of_ne_zero hp) rfl (by simp) ?_ ?_ (.ptr (.inr rfl))
    · simp [execOp, Instr.alloc, run_zero_ty c.w (hT elem ti ht), newVar, newRow]
    · intro i e he
      cases i with
      | zero =>
        simp at he
        subst he
        refine ⟨hz.2, fun k a ha => ?_⟩
        have hk : k < ti.zero.cells.size := by rw [← hcr.len]; exact (List.getElem?_eq_some_iff.1 ha).1
        obtain ⟨r1, r2, r3⟩ := hcr.rel k a _ ha (Array.getElem?_eq_getElem hk)
        exact ⟨r3, _, by simp [hk], r1, r2⟩
      | succ i => simp at he
    · intro c' hc
      have : VRel c' false (.ptr id 0 0) (.pointer (some ⟨(c'.ρ id).blk, 0 * (c'.ρ id).esz + 0, none⟩)) := .ptr
      rw [hc] at this
      simpa using this
  | @slice0 t ti et te ht hk hte =>
    obtain ⟨h1, h2, h3⟩ := hI.waste (w' := c.w.alloc (.cells #[] et)) (.cells #[] et) rfl rfl rfl rfl
    refine ⟨.slice (some ⟨c.w.heap.size, 0, none⟩) 0 0, _, ?_, h1, rfl, rfl, .nils, .nils, h2.more (fun q hq => .inl hq), h3, fun q x hx => .inr ⟨q, x, hx, rfl⟩⟩
    simp [execOp, Instr.buildSlice, run_underlying (under_slice (hT t ti ht) hk), run_sizeOf_ty c.w (hT et te hte), Instr.fill, newRow, Array.range_zero']
  | @buildSlice t len ps ti et te es ht hk hte hlen hpos hb h =>
    obtain ⟨hz, hzs⟩ := zero_elems (c := c) (M := M) (hT et te hte).zs hpos len
    obtain ⟨us, hf, hr, hl⟩ := fill_elems (Nat.pos_of_ne_zero hpos) ev σ hE hO ps.toList _ es _ hz h
    simp only [List.length_replicate] at hl
    have hne : len * te.size ≠ 0 := Nat.mul_ne_zero hlen hpos
    refine new_ok hI hid (w' := c.w.alloc (.cells us et)) (cur := us) (ety := et) (cap := len) (esz := te.size) (v := .slice (some ⟨c.w.heap.size, 0, none⟩) len len)
      ?_ rfl rfl rfl rfl (by rw [hr.size, hl]) (Nat.pos_of_ne_zero hpos) rfl (by simp [hl]) ?_ ?_ (.ref (.inr rfl))
    · have hps : (ps.map fun (p : Nat × Operand) => (p.1, σ p.2)).toList = ps.toList.map fun p => (p.1, σ p.2) := by simp
      simp only [execOp, Instr.buildSlice, Sem.run_bind, run_underlying (under_slice (hT t ti ht) hk), run_sizeOf_ty c.w (hT et te hte), Result.andThen_ok, if_neg (show ¬ (len * te.size > 2 ^ 24) by omega),
        if_neg hne, Sem.run_pure, run_zero_ty c.w (hT et te hte), hps, hf, newRow, run_newObj]
      rfl
    · intro i e he
      obtain ⟨g1, g2⟩ := hr.rel i e he
      exact ⟨g1, g2⟩
    · intro c' hc
      have : VRel c' false (.ref id 0 len) (.slice (some ⟨(c'.ρ id).blk, 0 * (c'.ρ id).esz, none⟩) len ((c'.ρ id).cap - 0)) := .ref (by rw [hc]; simp)
      rw [hc] at this
      simpa using this
  | @make0 t l cc k k' ti et te hl hc ht hk hte =>
    obtain ⟨h1, h2, h3⟩ := hI.waste (w' := c.w.alloc (.cells #[] et)) (.cells #[] et) rfl rfl rfl rfl
    obtain ⟨i, d, hi, _, _, _, hs, hb⟩ := (hT et te hte).parts
    refine ⟨.slice (some ⟨c.w.heap.size, 0, none⟩) 0 0, _, ?_, h1, rfl, rfl, .nils, .nils, h2.more (fun q hq => .inl hq), h3, fun q x hx => .inr ⟨q, x, hx, rfl⟩⟩
    have hw0 : IntKind.i64.wrap 0 = 0 := by decide
    simp [execOp, Instr.makeSlice, run_underlying (under_slice (hT t ti ht) hk), sc hl, sc hc, asInt, asIntOf, typeInfo, hi, hw0, run_sizeOf_ty c.w (hT et te hte), newRow, Array.range_zero']
  | @make t l cc k k' n m ti et te hl hc h0 hnm hm ht hk hte hpos hb hb' =>
    obtain ⟨hz, hzs⟩ := zero_elems (c := c) (M := M) (hT et te hte).zs hpos m.toNat
    obtain ⟨i, d, hi, _, _, _, hs, hby⟩ := (hT et te hte).parts
    have hwn : IntKind.i64.wrap n = n := by
      simp only [IntKind.wrap, IntKind.signed, IntKind.bits]; simp; omega
    have hwm : IntKind.i64.wrap m = m := by
      simp only [IntKind.wrap, IntKind.signed, IntKind.bits]; simp; omega
    refine new_ok hI hid (w' := c.w.alloc (.cells ((Array.range (m.toNat * te.size)).map (te.zero.cells[· % te.zero.cells.size]!)) et)) (ety := et) (cap := m.toNat) (esz := te.size) (v := .slice (some ⟨c.w.heap.size, 0, none⟩) n.toNat m.toNat)
      ?_ rfl rfl rfl rfl (by rw [hz.size]; simp) (Nat.pos_of_ne_zero hpos) rfl (by simp; omega) ?_ ?_ (.ref (.inr rfl))
    · have e1 : ¬ (m < 0 ∨ 2 ^ 48 < (i.bytes : Int) * m) := by rw [← hby]; omega
      have e2 : m.toNat * te.size ≠ 0 := Nat.mul_ne_zero (by omega) hpos
      have e3 : ((decide (m < 0) || decide ((i.bytes : Int) * m > 2 ^ 48)) || decide (n < 0) || decide (n > m)) = false := by
        simp only [Bool.or_eq_false_iff, decide_eq_false_iff_not]
        rw [← hby]; refine ⟨⟨⟨?_, ?_⟩, ?_⟩, ?_⟩ <;> omega
      simp only [execOp, Instr.makeSlice, Sem.run_bind, run_underlying (under_slice (hT t ti ht) hk), sc hl, sc hc, asInt, asIntOf, typeInfo, run_program, hi, Result.andThen_ok, Sem.run_pure, hwn, hwm, e3, Bool.false_eq_true, if_false,
        run_askRoom, run_sizeOf_ty c.w (hT et te hte), e2, run_zero_ty c.w (hT et te hte), newRow, run_newObj]
      rfl
    · intro i e he
      have he' : (List.replicate m.toNat (ofConst te.zero))[i]? = some e := by
        rw [List.getElem?_replicate] at he ⊢
        split at he
        · cases he; rw [if_pos (by omega)]
        · cases he
      exact hz.rel i e he'
    · intro c' hc
      have : VRel c' false (.ref id 0 n.toNat) (.slice (some ⟨(c'.ρ id).blk, 0 * (c'.ρ id).esz, none⟩) n.toNat ((c'.ρ id).cap - 0)) := .ref (by rw [hc]; simp; omega)
      rw [hc] at this
      simpa using this
  | @append0 s x t ti et te n hs hs' hx ht hk hte =>
    obtain ⟨q, qc, hxv⟩ := src_len (src hx) (hE x)
    simp only [List.length_nil] at hxv
    refine .pure hI ⟨σ s, ?_, hE s, hO s⟩
    have hcap : ∃ p cap, σ s = .slice p n cap ∧ n ≤ cap := by
      have h1 := hE s
      generalize ev s = as at h1 hs hs'
      cases as with
      | list own es =>
        obtain ⟨p, cap, h2, hcase⟩ := h1.list_inv
        simp [lenA] at hs; subst hs
        exact ⟨p, cap, h2, by rcases hcase with rfl | ⟨h3, _⟩ <;> simp_all⟩
      | ref o off len => obtain ⟨h2, h3⟩ := h1.ref_inv; simp [lenA] at hs; subst hs; exact ⟨_, _, h2, by omega⟩
      | nils => obtain ⟨p, h2⟩ := h1.nils_inv; simp [lenA] at hs; subst hs; exact ⟨_, _, h2, Nat.le_refl _⟩
      | sc v => cases v <;> simp [lenA] at hs; exact absurd rfl (hs' _)
      | _ => simp [lenA] at hs
    obtain ⟨p, cap, hsv, hle⟩ := hcap
    have hu := under_slice (hT t ti ht) hk
    have hf : (Builtin.firstCells te.size 0 (.slice q 0 qc)).run P c.w = .ok #[] c.w := by
      cases q <;> simp [Builtin.firstCells, loadCells, loadCellsFrom]
    simp [execOp, resolve, invoke, builtin, Builtin.append_, hsv, hxv, run_underlying hu, run_sizeOf_ty c.w (hT et te hte), Builtin.lenOf, hle, hf]
    cases p <;> simp [storeCells]
  | @appendNil s x t ti et te xs hs hx hne ht hk hte hsz hpos hlen hb =>
    have hsv := hE s
    rw [hs] at hsv
    obtain ⟨p, hp⟩ := hsv.nils_inv
    obtain ⟨b, off, cap, esz, hxv, hel⟩ := src_ok hI (src hx) (hE x) hne
    have hx0 : 0 < xs.length := List.length_pos_iff.2 hne
    have hesz : esz = te.size := by
      rw [← (hel 0 _ (List.getElem?_eq_getElem hx0)).1, hsz _ (List.getElem_mem hx0)]
    subst hesz
    obtain ⟨news, hnl, hnc, hn1, hnr⟩ := flat_ok (Nat.pos_of_ne_zero hpos) hel
    obtain ⟨i, d, hi, _, hzi, _, hs', hby⟩ := (hT et te hte).parts
    have hu := under_slice (hT t ti ht) hk
    have hzsz := (zero_elems (c := c) (M := M) (hT et te hte).zs hpos 0).2
    have hml : (xs.length : Int) ≤ 9223372036854775807 := by simp only [maxLen] at hlen; omega
    have hfit := growslice_fits (need := 0 + xs.length) (old := 0) (bytes := i.bytes) (by omega) (by rw [← hby]; simpa using hb)
    have hge := grownCap_ge c.w xs.length 0 et
    refine new_ok hI hid (w' := c.w.drew.alloc (.cells (news.toArray ++ Builtin.zeroCells te.zero.cells (grownCap c.w xs.length 0 et - xs.length)) et)) (cap := grownCap c.w xs.length 0 et) (esz := te.size)
      (v := .slice (some ⟨c.w.heap.size, 0, none⟩) xs.length (grownCap c.w xs.length 0 et)) (ety := et) (cur := news.toArray ++ Builtin.zeroCells te.zero.cells (grownCap c.w xs.length 0 et - xs.length))
      ?_ rfl rfl rfl rfl ?_ (Nat.pos_of_ne_zero hpos) rfl hge ?_ ?_ (.ref (.inr rfl))
    · simp only [execOp, resolve, invoke, builtin, List.map_toArray, List.map_cons, List.map_nil, hp, hxv, Sem.run_bind, Sem.run_pure, Result.andThen_ok]
      cases p with
      | none =>
        rw [run_append_nil (P := P) c.w t type et i te.zero hu hi hzi ⟨b, off, none⟩ xs.length cap news (by rw [hnl, hs']) hnc hx0 hml (by rw [← hby]; omega)]
        rfl
      | some pa =>
        have hg := run_append_grow (P := P) c.w t type et i te.zero hu hi hzi pa 0 0 [] (by simp) (by simp) ⟨b, off, none⟩ xs.length cap news (by rw [hnl, hs']) hnc (by omega) (by simpa using hml) hfit
        simp only [Nat.zero_add] at hg
        rw [hg]
        simp only [Result.andThen_ok]
        simp
    · simp only [Array.size_append, List.size_toArray, size_zeroCells, hzsz, hnl, ← Nat.add_mul]
      congr 1; omega
    · intro j e he
      refine ⟨(hel j e he).1, fun k a ha => ?_⟩
      obtain ⟨r1, v, r2, r3⟩ := hnr j e k a he ha
      refine ⟨r1, v, ?_, r3⟩
      rw [Array.getElem?_append_left (by simpa using (List.getElem?_eq_some_iff.1 r2).1)]
      simpa using r2
    · intro c' hc
      have : VRel c' false (.ref id 0 xs.length) (.slice (some ⟨(c'.ρ id).blk, 0 * (c'.ρ id).esz, none⟩) xs.length ((c'.ρ id).cap - 0)) := .ref (by rw [hc]; simpa using hge)
      rw [hc] at this
      simpa using this
  | @append s x t ti et te xs o n y hs hH hn hsp hes hx hne ht hk hte hsz hlen hb =>
    have hH' := hsub _ _ hH
    have hsv := hE s
    rw [hs] at hsv
    obtain ⟨hp, hle⟩ := hsv.ref_inv
    simp only [Nat.zero_mul, Nat.sub_zero, Nat.zero_add] at hp hle
    obtain ⟨b, off, cap, esz, hxv, hel⟩ := src_ok hI (src hx) (hE x) hne
    have hx0 : 0 < xs.length := List.length_pos_iff.2 hne
    obtain ⟨hMo, ⟨⟨cur, hcb, hcs, hcr⟩, hfits, hpos', hsame⟩, hoks⟩ := hI.obj o y hH'
    have hte' : te.size = (c.ρ o).esz := by rw [← hes, hsame]
    have hesz : esz = (c.ρ o).esz := by
      rw [← (hel 0 _ (List.getElem?_eq_getElem hx0)).1, hsz _ (List.getElem_mem hx0), hte']
    subst hesz
    obtain ⟨news, hnl, hnc, hn1, hnr⟩ := flat_ok hpos' hel
    obtain ⟨i, d, hi, _, hzi, _, hs', hby⟩ := (hT et te hte).parts
    have hu := under_slice (hT t ti ht) hk
    have hzsz := (zero_elems (c := c) (M := M) (hT et te hte).zs (by omega) 0).2
    have hml : ((n + xs.length : Nat) : Int) ≤ 9223372036854775807 := by simp only [maxLen] at hlen; omega
    have hxsz : ∀ (j : Nat) e, (y.es ++ xs)[j]? = some e → (j < n ∧ y.es[j]? = some e) ∨ (n ≤ j ∧ xs[j - n]? = some e) := by
      intro j e he
      rw [List.getElem?_append] at he
      split at he
      · exact .inl ⟨by omega, he⟩
      · exact .inr ⟨by omega, by rw [← hn]; exact he⟩
    have hown : ∀ (p : Pl) {w' : World}, (c.w.heap.size ≤ p.blk ∨ (c.ρ o).blk = p.blk) → OwnRel c H ⟨w', upd c.ρ id p, c.Sa, c.So, c.B⟩ ((Eff.app o { es := y.es ++ xs, esz := te.size }).apply id H) := by
      intro p w' hp q z hz
      by_cases hq : q = id
      · subst hq
        simp only [upd_same]
        exact hp.imp id (fun h => ⟨o, y, hH', h⟩)
      · simp only [Eff.apply, upd_other _ _ hq] at hz
        simp only [upd_other _ _ hq]
        by_cases hqo : q = o
        · subst hqo; exact .inr ⟨q, y, hH', rfl⟩
        · rw [upd_other _ _ hqo] at hz; exact .inr ⟨q, z, hz, rfl⟩
    by_cases hroom : n + xs.length ≤ (c.ρ o).cap
    · -- there is room
      have hfit : n * i.size + news.length ≤ cur.size := by
        rw [hnl, ← hs', hte', hcs, ← Nat.add_mul]; exact Nat.mul_le_mul_right _ hroom
      have hr := run_append_room' (P := P) c.w t type et (c.ρ o).ety i hu hi (c.ρ o).blk n (c.ρ o).cap cur hcb ⟨b, off, none⟩ xs.length cap news (by rw [hnl, ← hs', hte']) hnc hn1 hroom hfit
      have hi' : i.size = (c.ρ o).esz := by rw [← hs', hte']
      rw [hi'] at hr hfit
      have hns : n * (c.ρ o).esz ≤ cur.toList.length := by simp only [Array.length_toList]; omega
      have hgrow := hI.grow (id := id) hid hH' hsp (x := { es := y.es ++ xs, esz := te.size }) (new := (cur.toList.take (n * (c.ρ o).esz) ++ news ++ cur.toList.drop (n * (c.ρ o).esz + news.length)).toArray) hcb
        (by simp only [List.size_toArray, List.length_append, List.length_take, List.length_drop, Array.length_toList]; omega)
        (by
          intro j hj
          rw [hn] at hj
          simp only [List.append_assoc, List.getElem?_toArray]
          rw [List.getElem?_append_left (by rw [List.length_take]; omega), List.getElem?_take, if_pos hj]
          simp)
        hte' (by simp only [List.length_append]; omega) (by simp) (by
          intro j e he
          rcases hxsz j e he with ⟨hj, he⟩ | ⟨hj, he⟩
          · obtain ⟨g1, g2⟩ := hcr j e he
            refine ⟨g1, fun k a ha => ?_⟩
            obtain ⟨v, h3, h4, h5⟩ := g2 k a ha
            refine ⟨hoks e (List.mem_of_getElem? he) a (List.mem_of_getElem? ha), v, ?_, h4, h5⟩
            have hk : k < (c.ρ o).esz := by rw [← g1]; exact (List.getElem?_eq_some_iff.1 ha).1
            have h6 : (j + 1) * (c.ρ o).esz ≤ n * (c.ρ o).esz := Nat.mul_le_mul_right _ hj
            rw [Nat.add_mul] at h6
            simp only [List.append_assoc, List.getElem?_toArray]
            rw [List.getElem?_append_left (by rw [List.length_take]; omega), List.getElem?_take, if_pos (by omega)]
            simpa using h3
          · refine ⟨(hel _ e he).1, fun k a ha => ?_⟩
            obtain ⟨r1, v, r2, r3⟩ := hnr _ e k a he ha
            refine ⟨r1, v, ?_, r3⟩
            have hk : k < (c.ρ o).esz := by rw [← (hel _ e he).1]; exact (List.getElem?_eq_some_iff.1 ha).1
            have hj2 : j - n < xs.length := (List.getElem?_eq_some_iff.1 he).1
            have h6 : (j - n + 1) * (c.ρ o).esz ≤ xs.length * (c.ρ o).esz := Nat.mul_le_mul_right _ hj2
            have h7 : j * (c.ρ o).esz = n * (c.ρ o).esz + (j - n) * (c.ρ o).esz := by rw [← Nat.add_mul]; congr 1; omega
            rw [Nat.add_mul] at h6
            simp only [List.append_assoc, List.getElem?_toArray]
            rw [List.getElem?_append_right (by rw [List.length_take]; omega), List.length_take, Nat.min_eq_left hns, h7,
              show n * (c.ρ o).esz + (j - n) * (c.ρ o).esz + k - n * (c.ρ o).esz = (j - n) * (c.ρ o).esz + k by omega, List.getElem?_append_left (by omega)]
            exact r2)
      obtain ⟨h1, h2, h3⟩ := hgrow
      refine ⟨.slice (some ⟨(c.ρ o).blk, 0, none⟩) (n + xs.length) (c.ρ o).cap, _, ?_, h1, rfl, rfl, ?_, .ref (.inr rfl), h2, h3, hown (c.ρ o) (.inr rfl)⟩
      · simp only [execOp, resolve, invoke, builtin, List.map_toArray, List.map_cons, List.map_nil, hp, hxv, Sem.run_bind, Sem.run_pure, Result.andThen_ok, hr]
      · have := @VRel.ref ⟨c.w.setRow (c.ρ o).blk (cur.toList.take (n * (c.ρ o).esz) ++ news ++ cur.toList.drop (n * (c.ρ o).esz + news.length)).toArray, upd c.ρ id (c.ρ o), c.Sa, c.So, c.B⟩ id 0 (n + xs.length) (by simp only [upd_same]; omega)
        simpa [upd_same] using this
    · -- a new block
      let olds : List Value := cur.toList.take (n * (c.ρ o).esz)
      have hi' : i.size = (c.ρ o).esz := by rw [← hs', hte']
      have hns : n * (c.ρ o).esz ≤ cur.size := by rw [hcs]; exact Nat.mul_le_mul_right _ hle
      have hol : olds.length = n * (c.ρ o).esz := by simp only [olds, List.length_take, Array.length_toList]; omega
      have holds : ∀ (j : Nat) v, olds[j]? = some v → c.w.cell? ((⟨(c.ρ o).blk, 0, none⟩ : Addr).add j) = some v := by
        intro j v hv
        rw [Addr.add_lit, cell_of_row _ _ _ _ _ _ hcb, Nat.zero_add]
        simp only [olds] at hv
        rw [List.getElem?_take] at hv
        split at hv
        · simpa using hv
        · cases hv
      have hfit := growslice_fits (need := n + xs.length) (old := (c.ρ o).cap) (bytes := i.bytes) (by omega) (by rw [← hby]; exact hb)
      have hr := run_append_grow (P := P) c.w t type et i te.zero hu hi hzi ⟨(c.ρ o).blk, 0, none⟩ n (c.ρ o).cap olds (by rw [hol, hi']) holds ⟨b, off, none⟩ xs.length cap news (by rw [hnl, hi']) hnc (by omega) hml hfit
      have hge := grownCap_ge c.w (n + xs.length) (c.ρ o).cap et
      have hIm := hI.mark hH'
      have hadd := hIm.addBlock (id := id) hid (w' := c.w.drew.alloc (.cells (olds.toArray ++ news.toArray ++ Builtin.zeroCells te.zero.cells (grownCap c.w (n + xs.length) (c.ρ o).cap et - (n + xs.length))) et))
        (cur := olds.toArray ++ news.toArray ++ Builtin.zeroCells te.zero.cells (grownCap c.w (n + xs.length) (c.ρ o).cap et - (n + xs.length))) (ety := et) (cap := grownCap c.w (n + xs.length) (c.ρ o).cap et) (esz := te.size)
        rfl rfl rfl rfl (x := { es := y.es ++ xs, esz := te.size, solo := false })
        (by simp only [Array.size_append, List.size_toArray, size_zeroCells, hzsz, hnl, hol, ← hte', ← Nat.add_mul]; congr 1; omega)
        (by omega) rfl (by simp only [List.length_append]; omega) (by
          intro j e he
          rcases hxsz j e he with ⟨hj, he⟩ | ⟨hj, he⟩
          · obtain ⟨g1, g2⟩ := hcr j e he
            refine ⟨by rw [g1, hte'], fun k a ha => ?_⟩
            obtain ⟨v, h3, h4, h5⟩ := g2 k a ha
            refine ⟨hoks e (List.mem_of_getElem? he) a (List.mem_of_getElem? ha), v, ?_, h4, h5⟩
            have hk : k < (c.ρ o).esz := by rw [← g1]; exact (List.getElem?_eq_some_iff.1 ha).1
            have h6 : (j + 1) * (c.ρ o).esz ≤ n * (c.ρ o).esz := Nat.mul_le_mul_right _ hj
            rw [Nat.add_mul] at h6
            rw [hte', Array.getElem?_append_left (by simp only [Array.size_append, List.size_toArray]; omega), Array.getElem?_append_left (by simp only [List.size_toArray]; omega)]
            simp only [List.getElem?_toArray, olds]
            rw [List.getElem?_take, if_pos (by omega)]
            simpa using h3
          · refine ⟨by rw [(hel _ e he).1, hte'], fun k a ha => ?_⟩
            obtain ⟨r1, v, r2, r3⟩ := hnr _ e k a he ha
            refine ⟨r1, v, ?_, r3⟩
            have hk : k < (c.ρ o).esz := by rw [← (hel _ e he).1]; exact (List.getElem?_eq_some_iff.1 ha).1
            have hj2 : j - n < xs.length := (List.getElem?_eq_some_iff.1 he).1
            have h6 : (j - n + 1) * (c.ρ o).esz ≤ xs.length * (c.ρ o).esz := Nat.mul_le_mul_right _ hj2
            have h7 : j * (c.ρ o).esz = n * (c.ρ o).esz + (j - n) * (c.ρ o).esz := by rw [← Nat.add_mul]; congr 1; omega
            rw [Nat.add_mul] at h6
            rw [hte', Array.getElem?_append_left (by simp only [Array.size_append, List.size_toArray]; omega), Array.getElem?_append_right (by simp only [List.size_toArray]; omega)]
            simp only [List.getElem?_toArray, List.size_toArray, hol]
            rw [show j * (c.ρ o).esz + k - n * (c.ρ o).esz = (j - n) * (c.ρ o).esz + k by omega]
            exact r2)
      obtain ⟨h1, h2, h3⟩ := hadd
      refine ⟨.slice (some ⟨c.w.heap.size, 0, none⟩) (n + xs.length) (grownCap c.w (n + xs.length) (c.ρ o).cap et), _, ?_, h1, rfl, rfl, ?_, .ref (.inr rfl), h2, ?_, hown ⟨c.w.heap.size, grownCap c.w (n + xs.length) (c.ρ o).cap et, te.size, et⟩ (.inl (Nat.le_refl _))⟩
      · simp only [execOp, resolve, invoke, builtin, List.map_toArray, List.map_cons, List.map_nil, hp, hxv, Sem.run_bind, Sem.run_pure, Result.andThen_ok, hr]
      · have := @VRel.ref ⟨c.w.drew.alloc (.cells (olds.toArray ++ news.toArray ++ Builtin.zeroCells te.zero.cells (grownCap c.w (n + xs.length) (c.ρ o).cap et - (n + xs.length))) et),
          upd c.ρ id ⟨c.w.heap.size, grownCap c.w (n + xs.length) (c.ρ o).cap et, te.size, et⟩, c.Sa, c.So, c.B⟩ id 0 (n + xs.length) (by simp only [upd_same]; omega)
        simpa [upd_same] using this
      · exact ⟨h3.os, h3.tape, h3.output, h3.size, fun q hq hn => h3.block q hq fun p z hz => by
          by_cases hpo : p = o
          · subst hpo; exact hn p y hH'
          · rw [upd_other _ _ hpo] at hz; exact hn p z hz⟩
end
end Go.Av
