/- The pure operations: soundness. -/
import Derived.Test.YtioookhnoobpgaaAvPuOk4
namespace Go.Av

section
variable {P : Program} {T : Ty} {c : Ctx} {H : Heap} {M : Nat → Prop} {ev : Operand → AV} {σ : Operand → Value}

theorem mapM_places (hT : TyOk P T) (w : World) : ∀ (l : List Field), (∀ f ∈ l, ∃ tf, T f.type = some tf) →
    (l.mapM (m := Sem) fun f => do pure (f.offset, ← Go.sizeOf f.type)).run P w = .ok (l.map fun f => (f.offset, ((T f.type).map (·.size)).getD 0)) w := by
  intro l
  induction l with
  | nil => intro _; rfl
  | cons f l ih =>
    intro h
    obtain ⟨tf, htf⟩ := h f (List.mem_cons_self ..)
    have := ih fun g hg => h g (List.mem_cons_of_mem _ hg)
    simp only [List.mapM_cons, Sem.run_bind, run_sizeOf_ty w (hT _ _ htf), Result.andThen_ok, Sem.run_pure, this, htf, List.map_cons, Option.map_some, Option.getD_some]

theorem pu_ok (hT : TyOk P T) (hI : Inv c H M) (hE : ∀ x, VRel c false (ev x) (σ x)) (hO : ∀ x, (ev x).Ok M) {o : Oper} {a : AV} (h : Pu T ev H o.op a) : PuOk P c M σ o a := by
  have sc : ∀ {x : Operand} {v : Value}, ev x = .sc v → σ x = v := fun {x v} hx => by have := hE x; rw [hx] at this; exact this.sc_inv
  obtain ⟨dst, op, type, pos, after, guard⟩ := o
  simp only at h
  have both : ∀ x, ∃ v, σ x = v ∧ VRel c false (ev x) v ∧ (ev x).Ok M := fun x => ⟨_, rfl, hE x, hO x⟩
  cases h with
  | @move x => exact ⟨σ x, by simp [execOp], hE x, hO x⟩
  | @assign x => exact ⟨σ x, by simp [execOp], hE x, hO x⟩
  | @pick cc a b t v hc ha hb =>
    refine ⟨if t then σ a else σ b, by simp [execOp, sc hc, asBool], ?_⟩
    cases t
    · rw [← hb rfl]; exact ⟨hE b, hO b⟩
    · rw [← ha rfl]; exact ⟨hE a, hO a⟩
  | @pickB cc a b t x y hc ha hb =>
    refine .sc ?_
    cases t
    · simp [execOp, sc hc, asBool, sc (hb rfl)]
    · simp [execOp, sc hc, asBool, sc (ha rfl)]
  | @load t x ti e k a ht hd hl =>
    obtain ⟨b, off, hx, hat⟩ := deref_ok hI hd (hE x)
    obtain ⟨hok, v, hr, hv⟩ := load_ok hat (hT t ti ht) hl
    exact ⟨v, by simp [execOp, hx, Instr.loadAt, Instr.sureAddr, hr], hv, hok⟩
  | @nilCheckPtr x o i k hx =>
    have h1 := hE x
    have h2 := h1; rw [hx] at h2
    exact ⟨σ x, by simp [execOp, h2.ptr_inv], h1, hO x⟩
  | @nilCheckElem x own e k hx =>
    have h1 := hE x
    have h2 := h1; rw [hx] at h2
    obtain ⟨b, off, h3, _⟩ := h2.elem_inv
    exact ⟨σ x, by simp [execOp, h3], h1, hO x⟩
  | @nilCheckFn x f caps hx =>
    have h1 := hE x
    have h2 := h1; rw [hx] at h2
    obtain ⟨vs, h3, _⟩ := h2.fn_inv
    exact ⟨σ x, by simp [execOp, h3], h1, hO x⟩
  | @binInt op t x y yt k a b v hx hy h =>
    exact .sc (by have := intBin_ok (P := P) h t x y c.w; simp only [execOp, sc hx, sc hy]; rw [Sem.run_bind, this]; rfl)
  | @quo t x y yt k a b hx hy h =>
    exact .sc (by have := run_quo (P := P) (w := c.w) (k := k) (a := a) t x y h; simp only [execOp, sc hx, sc hy]; rw [Sem.run_bind, this]; rfl)
  | @rem t x y yt k a b hx hy h =>
    exact .sc (by have := run_rem (P := P) (w := c.w) (k := k) (a := a) t x y h; simp only [execOp, sc hx, sc hy]; rw [Sem.run_bind, this]; rfl)
  | @shl t x y yt k k' a b hx hy h =>
    exact .sc (by have := run_shl (P := P) (w := c.w) (k := k) (k' := k') (a := a) t x y h; simp only [execOp, sc hx, sc hy]; rw [Sem.run_bind, this]; rfl)
  | @shr t x y yt k k' a b hx hy h =>
    exact .sc (by have := run_shr (P := P) (w := c.w) (k := k) (k' := k') (a := a) t x y h; simp only [execOp, sc hx, sc hy]; rw [Sem.run_bind, this]; rfl)
  | @binStr op t x y yt a b v hx hy h =>
    exact .sc (by have := strBin_ok (P := P) h t x y c.w; simp only [execOp, sc hx, sc hy]; rw [Sem.run_bind, this]; rfl)
  | @boolEq t x y yt a b ti hx hy ht hk =>
    exact .sc (by have := boolEq_ok (under_bool (hT t ti ht) hk) a b x y c.w; simp only [execOp, sc hx, sc hy]; rw [Sem.run_bind, this]; rfl)
  | @boolNe t x y yt a b ti hx hy ht hk =>
    exact .sc (by have := boolNe_ok (under_bool (hT t ti ht) hk) a b x y c.w; simp only [execOp, sc hx, sc hy]; rw [Sem.run_bind, this]; rfl)
  | @aggEq t x y yt xs ys r ti hx hy ht hok h =>
    have h1 := hE x; rw [hx] at h1
    have h2 := hE y; rw [hy] at h2
    have he := eqT_ok hT c.w 10000 t _ _ _ _ r h h1 h2
    obtain ⟨us, hu⟩ := h1.agg_inv
    obtain ⟨vs, hv⟩ := h2.agg_inv
    rw [hu, hv] at he
    refine .sc ?_
    simp only [execOp, hu, hv, Sem.run_bind, run_eqGuard_agg c.w _ t x y us vs ((hT t ti ht).eq hok).2.1, Result.andThen_ok, run_eql_struct, he, Sem.run_pure]
  | @aggNe t x y yt xs ys r ti hx hy ht hok h =>
    have h1 := hE x; rw [hx] at h1
    have h2 := hE y; rw [hy] at h2
    have he := eqT_ok hT c.w 10000 t _ _ _ _ r h h1 h2
    obtain ⟨us, hu⟩ := h1.agg_inv
    obtain ⟨vs, hv⟩ := h2.agg_inv
    rw [hu, hv] at he
    refine .sc ?_
    simp only [execOp, hu, hv, Sem.run_bind, run_eqGuard_agg c.w _ t x y us vs ((hT t ti ht).eq hok).2.1, Result.andThen_ok, run_neq_struct, he, Sem.run_pure]
  | @neg t x k n hx => exact .sc (by simp [execOp, sc hx, Op.unary, Op.intArith])
  | @not t x b hx => exact .sc (by simp [execOp, sc hx, Op.unary])
  | @conv src dst x k n k' ts td hx hs hd hk =>
    obtain ⟨_, d, _, hu, _⟩ := (hT src ts hs).parts
    exact .sc (by simp [execOp, sc hx, convert, run_underlying hu, run_underlying (under_int (hT dst td hd) hk), Conv.intToInt])
  | @convStr src dst x s ts td hx hs hd hk =>
    obtain ⟨_, d, _, hu, _⟩ := (hT src ts hs).parts
    exact .sc (by simp [execOp, sc hx, convert, run_underlying hu, run_underlying (under_string (hT dst td hd) hk)])
  | @fieldAddrPtr s x f o i k fs off ft ti tf hx hs hk hf ht hz =>
    have h1 := hE x; rw [hx] at h1
    have ho := hO x; rw [hx] at ho
    have hr := run_fieldAt (P := P) (w := c.w) (b := (c.ρ o).blk) (o := i * (c.ρ o).esz + k) (hT s ti hs) hk hf (hT ft tf ht) hz
    refine ⟨_, by simp only [execOp, h1.ptr_inv, Sem.run_bind, hr, Result.andThen_ok, Sem.run_pure]; rfl, ?_, by cases ho with | ptr ho => exact .ptr ho⟩
    rw [Nat.add_assoc]; exact .ptr
  | @fieldAddrElem s x f own e k fs off ft ti tf hx hs hk hf ht hz =>
    have h1 := hE x; rw [hx] at h1
    obtain ⟨b, o, h3, h4⟩ := h1.elem_inv
    have hr := run_fieldAt (P := P) (w := c.w) (b := b) (o := o + k) (hT s ti hs) hk hf (hT ft tf ht) hz
    refine ⟨_, by simp only [execOp, h3, Sem.run_bind, hr, Result.andThen_ok, Sem.run_pure]; rfl, ?_, .elem⟩
    rw [Nat.add_assoc]; exact h4 _
  | @field s x f cs fs off ft ti tf a hx hs hk hf ht h =>
    have h1 := hE x; rw [hx] at h1
    have ho := hO x; rw [hx] at ho
    obtain ⟨us, hu⟩ := h1.agg_inv
    rw [hu] at h1
    obtain ⟨⟨v, hv, hr⟩, hok⟩ := partA_ok hT ht h1 ho h c.w
    exact ⟨v, by simp only [execOp, hu, Sem.run_bind, run_field (hT s ti hs) hk hf hv, Result.andThen_ok, Sem.run_pure], hr, hok⟩
  | @indexList t x ix own es k i ti et te e hx hi h0 ht hk hte he hsz =>
    have h1 := hE x; rw [hx] at h1
    obtain ⟨p, cap, hp, hcase⟩ := h1.list_inv
    rw [hp] at h1
    obtain ⟨a, rfl, hel⟩ := h1.nth_list he
    have hlt : i < es.length := by have := (List.getElem?_eq_some_iff.1 he).1; omega
    refine ⟨_, by simp only [execOp, hp, sc hi, Sem.run_bind, run_indexAt_sl (hT t ti ht) hk (hT et te hte) h0 hlt, Result.andThen_ok, Sem.run_pure]; rfl, ?_, .elem⟩
    rw [← hsz]; exact hel
  | @indexRef t x ix o off len k i ti et te y e hx hi h0 hlt ht hk hte hH he hsz =>
    have h1 := hE x; rw [hx] at h1
    have ho := hO x; rw [hx] at ho
    obtain ⟨hp, hle⟩ := h1.ref_inv
    obtain ⟨_, ⟨⟨cur, hb, hs, hc⟩, _, _, _⟩, _⟩ := hI.obj o y hH
    have hes : te.size = (c.ρ o).esz := by rw [← hsz]; exact (hc _ e he).1
    refine ⟨.pointer (some ⟨(c.ρ o).blk, (off + i.toNat) * (c.ρ o).esz + 0, none⟩), ?_, .ptr, by cases ho with | ref ho => exact .ptr ho⟩
    simp only [execOp, hp, sc hi, Sem.run_bind, run_indexAt_sl (hT t ti ht) hk (hT et te hte) h0 hlt, Result.andThen_ok, Sem.run_pure]
    rw [Addr.add_lit, hes, Nat.add_mul, Nat.add_zero]
  | @indexArr t x ix o j q k i ti n et te hx hi h0 hlt ht hk hte =>
    have h1 := hE x; rw [hx] at h1
    have ho := hO x; rw [hx] at ho
    refine ⟨.pointer (some ⟨(c.ρ o).blk, j * (c.ρ o).esz + (q + i.toNat * te.size), none⟩), ?_, .ptr, by cases ho with | ptr ho => exact .ptr ho⟩
    simp only [execOp, h1.ptr_inv, sc hi, Sem.run_bind, run_indexAt_ar (hT t ti ht) hk (hT et te hte) h0 hlt, Result.andThen_ok, Sem.run_pure]
    rw [Addr.add_lit, Nat.add_assoc]
  | @indexArrElem t x ix own e q k i ti n et te hx hi h0 hlt ht hk hte =>
    have h1 := hE x; rw [hx] at h1
    obtain ⟨b, o, h3, h4⟩ := h1.elem_inv
    refine ⟨.pointer (some ⟨b, o + (q + i.toNat * te.size), none⟩), ?_, h4 _, .elem⟩
    simp only [execOp, h3, sc hi, Sem.run_bind, run_indexAt_ar (hT t ti ht) hk (hT et te hte) h0 hlt, Result.andThen_ok, Sem.run_pure]
    rw [Addr.add_lit, Nat.add_assoc]
  | @indexAgg t x ix cs k i ti n et te a hx hi h0 hlt ht hk hte h =>
    have h1 := hE x; rw [hx] at h1
    have ho := hO x; rw [hx] at ho
    obtain ⟨us, hu⟩ := h1.agg_inv
    rw [hu] at h1
    obtain ⟨⟨v, hv, hr⟩, hok⟩ := partA_ok hT hte h1 ho h c.w
    refine ⟨v, ?_, hr, hok⟩
    simp [execOp, hu, sc hi, Instr.index, asIntOf, run_underlying (under_array (hT t ti ht) hk), h0, hlt, run_sizeOf_ty c.w (hT et te hte), hv]
  | @indexStr t x ix s k i ti b hx hi h0 ht hk h =>
    refine .sc ?_
    simp [execOp, sc hx, sc hi, Instr.index, asIntOf, run_underlying (under_string (hT t ti ht) hk), h0, h]
  | @sliceList t x lo hi own es l h ti et te hx hl hh hlh hle ht hk hte hsz =>
    have h1 := hE x; rw [hx] at h1
    obtain ⟨p, cap, hp, hcase⟩ := h1.list_inv
    rw [hp] at h1
    have hcap : h ≤ cap := by rcases hcase with rfl | ⟨hc, _⟩ <;> simp_all <;> omega
    refine ⟨_, by simp only [execOp, hp, Option.map_none, Sem.run_bind, run_sliceAt_sl (hT t ti ht) hk (hT et te hte) (run_sliceBounds hE hl hh hlh hcap c.w), Result.andThen_ok, Sem.run_pure]; rfl, ?_, .list⟩
    exact h1.sub_list hlh hle hsz
  | @sliceRef t x lo hi o off len l h ti et te y hx hl hh hlh hle ht hk hte hH hsz =>
    have h1 := hE x; rw [hx] at h1
    have ho := hO x; rw [hx] at ho
    obtain ⟨hp, hle'⟩ := h1.ref_inv
    obtain ⟨_, ⟨⟨cur, hb, hs, hc⟩, _, _, _⟩, _⟩ := hI.obj o y hH
    obtain ⟨e, he, hes⟩ := hsz
    obtain ⟨q, hq⟩ := List.getElem?_of_mem he
    have hes' : te.size = (c.ρ o).esz := by rw [← hes]; exact (hc _ e hq).1
    refine ⟨.slice (some ⟨(c.ρ o).blk, (off + l) * (c.ρ o).esz, none⟩) (h - l) ((c.ρ o).cap - (off + l)), ?_, .ref (by omega), by cases ho with | ref ho => exact .ref ho⟩
    simp only [execOp, hp, Option.map_none, Sem.run_bind, run_sliceAt_sl (hT t ti ht) hk (hT et te hte) (run_sliceBounds hE hl hh (Nat.le_of_lt hlh) (show h ≤ (c.ρ o).cap - off by omega) c.w), Result.andThen_ok, Sem.run_pure]
    rw [if_neg (by omega), Option.map_some, Addr.add_lit, hes', Nat.add_mul, Nat.sub_sub]
  | @sliceRef0 t x lo hi o off len l ti et te hx hl hh hle ht hk hte =>
    have h1 := hE x; rw [hx] at h1
    obtain ⟨hp, hle'⟩ := h1.ref_inv
    refine ⟨_, by simp only [execOp, hp, Option.map_none, Sem.run_bind, run_sliceAt_sl (hT t ti ht) hk (hT et te hte) (run_sliceBounds hE hl hh (Nat.le_refl _) (show l ≤ (c.ρ o).cap - off by omega) c.w), Result.andThen_ok, Sem.run_pure]; rfl, ?_, .list⟩
    rw [Nat.sub_self]; exact .listNil
  | @sliceNils t x lo hi ti et te hx hl hh ht hk hte =>
    have h1 := hE x; rw [hx] at h1
    obtain ⟨p, hp⟩ := h1.nils_inv
    refine ⟨_, by simp only [execOp, hp, Option.map_none, Sem.run_bind, run_sliceAt_sl (hT t ti ht) hk (hT et te hte) (run_sliceBounds hE hl hh (Nat.le_refl _) (Nat.le_refl _) c.w), Result.andThen_ok, Sem.run_pure]; rfl, ?_, .nils⟩
    exact .nils
  | @sliceClone t x hi mx ti et te n hx hx' hh hm ht hk hte =>
    obtain ⟨p, cap, hp⟩ := (hE x).len_inv hx hx'
    refine ⟨_, by simp only [execOp, hp, Option.map_none, Option.map_some, Sem.run_bind, run_sliceAt_sl (hT t ti ht) hk (hT et te hte) (run_sliceBounds0 hE hh hm c.w), Result.andThen_ok, Sem.run_pure]; rfl, ?_, .nils⟩
    exact .nils
  | @sliceStr t x lo hi s l h ti hx hl hh hlh hle ht hk =>
    refine .sc ?_
    simp only [execOp, sc hx, Option.map_none, Sem.run_bind, run_sliceAt_str (hT t ti ht) hk (run_sliceBounds hE hl hh hlh hle c.w), Result.andThen_ok, Sem.run_pure]
  | @extract x i cs a hx h =>
    have h1 := hE x; rw [hx] at h1
    have ho := hO x; rw [hx] at ho
    obtain ⟨vs, hv, hlen, hrel⟩ := h1.tup_inv
    have hlt : i < vs.size := by rw [← hlen]; exact (List.getElem?_eq_some_iff.1 h).1
    refine ⟨vs[i], ?_, hrel i a _ h (Array.getElem?_eq_getElem hlt), by cases ho with | tup ho => exact ho a (List.mem_of_getElem? h)⟩
    simp [execOp, hv, Instr.extract, Array.getElem?_eq_getElem hlt]
  | @makeFunc f caps =>
    refine ⟨.func (.func f) #[] (caps.map σ), by simp [execOp, Instr.makeFunc], .fn (by simp) ?_, .fn ?_⟩
    · intro i a v ha hv
      rw [List.getElem?_map] at ha
      rw [Array.getElem?_map] at hv
      cases hc : caps[i]? with
      | none => simp [hc] at hv
      | some x =>
        have hc' : caps.toList[i]? = some x := by simpa using hc
        simp only [hc', Option.map_some, Option.some.injEq] at ha
        simp only [hc, Option.map_some, Option.some.injEq] at hv
        subst ha hv
        exact hE x
    · intro a ha
      obtain ⟨x, _, rfl⟩ := List.mem_map.1 ha
      exact hO x
  | @lenSlice x t ti et n h ht hk hs =>
    obtain ⟨p, cap, hp⟩ := (hE x).len_inv h hs
    refine .sc ?_
    simp [execOp, resolve, invoke, builtin, Builtin.len_, hp, run_underlying (under_slice (hT t ti ht) hk), goInt]
  | @lenStr x t ti s h ht hk =>
    refine .sc ?_
    simp [execOp, resolve, invoke, builtin, Builtin.len_, sc h, run_underlying (under_string (hT t ti ht) hk), goInt]
  | @lenArr x t ti n et ht hk =>
    refine .sc ?_
    simp [execOp, resolve, invoke, builtin, Builtin.len_, run_underlying (under_array (hT t ti ht) hk), goInt]
  | @min2 x y ts k a b hx hy =>
    refine .sc ?_
    simp [execOp, resolve, invoke, builtin, Builtin.min_, sc hx, sc hy, Builtin.min2]
  | @max2 x y ts k a b hx hy =>
    refine .sc ?_
    simp [execOp, resolve, invoke, builtin, Builtin.max_, sc hx, sc hy, Builtin.max2]
  | @buildS t ps ti fs cs r ht hk hz hfs h =>
    obtain ⟨gs, hu, hg⟩ := under_struct (hT t ti ht) hk
    have hzr := ofConst_rel c false ti.zero
    have hzo := ofConst_ok M ti.zero
    rw [hz] at hzr hzo
    obtain ⟨zs, hzs⟩ := hzr.agg_inv
    rw [hzs] at hzr
    obtain ⟨us, hf, hcr⟩ := fill_ok _ ev σ (fun x => ⟨hE x, hO x⟩) ps.toList cs r zs (.of_agg hzr hzo) h
    have hpl : (gs.mapM (m := Sem) fun f => do pure (f.offset, ← Go.sizeOf f.type)).run P c.w = .ok (gs.map fun f => (f.offset, ((T f.type).map (·.size)).getD 0)) c.w := by
      rw [Array.mapM_eq_mapM_toList, Sem.run_map, mapM_places hT c.w gs.toList (fun f hf => hfs (f.offset, f.type) (by rw [hg]; exact List.mem_map.2 ⟨f, hf, rfl⟩))]
      simp only [Result.andThen_ok]
      congr 1
      apply Array.ext'
      simp
    have hplace : (fun (i : Nat) => (fs[i]?).map fun (p : Nat × Nat) => (p.1, ((T p.2).map (·.size)).getD 0)) = fun (i : Nat) => (gs.map fun f => (f.offset, ((T f.type).map (·.size)).getD 0))[i]? := by
      funext i
      rw [hg]
      simp [List.getElem?_map]
      cases gs[i]? <;> rfl
    rw [hplace] at hf
    refine ⟨.agg us, ?_, hcr.agg⟩
    have hz' := run_zero_ty c.w (hT t ti ht)
    rw [hzs] at hz'
    have hps : (ps.map fun (p : Nat × Operand) => (p.1, σ p.2)).toList = ps.toList.map fun p => (p.1, σ p.2) := by simp
    simp only [execOp, Instr.build, Sem.run_bind, hz', Result.andThen_ok, Value.cells, run_underlying hu, hpl, hps, hf, Sem.run_pure]
  | @buildA t ps ti n et te cs r ht hk hz hte h =>
    have hu := under_array (hT t ti ht) hk
    have hzr := ofConst_rel c false ti.zero
    have hzo := ofConst_ok M ti.zero
    rw [hz] at hzr hzo
    obtain ⟨zs, hzs⟩ := hzr.agg_inv
    rw [hzs] at hzr
    obtain ⟨us, hf, hcr⟩ := fill_ok _ ev σ (fun x => ⟨hE x, hO x⟩) ps.toList cs r zs (.of_agg hzr hzo) h
    refine ⟨.agg us, ?_, hcr.agg⟩
    have hz' := run_zero_ty c.w (hT t ti ht)
    rw [hzs] at hz'
    have hps : (ps.map fun (p : Nat × Operand) => (p.1, σ p.2)).toList = ps.toList.map fun p => (p.1, σ p.2) := by simp
    simp only [execOp, Instr.build, Sem.run_bind, hz', Result.andThen_ok, Value.cells, run_underlying hu, run_sizeOf_ty c.w (hT et te hte), hps, hf, Sem.run_pure]
end
end Go.Av
