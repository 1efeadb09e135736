/- The pure operations: soundness. -/
import Derived.Test.YtioookhnoobpgaaAvPuRel
namespace Go.Av

section
variable {P : Program} {T : Ty} {c : Ctx} {H : Heap} {M : Nat → Prop} {ev : Operand → AV} {σ : Operand → Value}

/-- What a pure operation gives. -/
def PuOk (P : Program) (c : Ctx) (M : Nat → Prop) (σ : Operand → Value) (o : Oper) (a : AV) : Prop :=
  ∃ v, (execOp σ o).run P c.w = .ok (.value v) c.w ∧ VRel c false a v ∧ a.Ok M

theorem PuOk.sc {o : Oper} {v : Value} (h : (execOp σ o).run P c.w = .ok (.value v) c.w) : PuOk P c M σ o (.sc v) := ⟨v, h, .sc, .sc⟩

theorem eqT_ok (hT : TyOk P T) (w : World) :
    ∀ (d t : Nat) (x y : AV) (u v : Value) (r : Bool), eqT T d t x y = some r → VRel c false x u → VRel c false y v → (Op.equalIn d t u v).run P w = .ok r w := by
  have hpart : ∀ (t : Nat) (ti : TI) (cs : List AV) (vs : Array Value) (off : Nat) (a : AV), T t = some ti → VRel c false (.agg cs) (.agg vs) → eqT.partA ti cs off = some a →
      ∃ v, (part t vs off).run P w = .ok v w ∧ VRel c false a v := by
    intro t ti cs vs off a ht hr h
    cases hr with
    | agg hl h1 hr =>
    unfold eqT.partA at h
    split at h
    · rename_i hagg
      split at h
      · rename_i hle
        cases h
        refine ⟨.agg (vs.extract off (off + ti.size)), by simp only [part, Sem.run_bind, run_isAgg_ty w (hT t ti ht), hagg, Result.andThen_ok, if_true, run_sizeOf_ty w (hT t ti ht), Sem.run_pure], .agg ?_ ?_ ?_⟩
        · simp; omega
        · intro v hv
          obtain ⟨i, hi, rfl⟩ := Array.getElem_of_mem hv
          simp only [Array.getElem_extract]
          exact h1 _ (Array.getElem_mem _)
        · intro i a v ha hv
          rw [List.getElem?_take] at ha
          split at ha
          · rw [List.getElem?_drop] at ha
            rw [Array.getElem?_extract] at hv
            split at hv
            · exact hr _ a v ha hv
            · cases hv
          · cases ha
      · cases h
    · rename_i hagg
      have hagg' : ti.kind.isAgg = false := by simpa using hagg
      have hlt : off < vs.size := by rw [← hl]; exact (List.getElem?_eq_some_iff.1 h).1
      refine ⟨vs[off], ?_, hr off a _ h (Array.getElem?_eq_getElem hlt)⟩
      simp only [part, Sem.run_bind, run_isAgg_ty w (hT t ti ht), hagg', Result.andThen_ok, Bool.false_eq_true, if_false, Array.getElem?_eq_getElem hlt, Sem.run_pure]
  intro d
  induction d with
  | zero => intro t x y u v r h; simp [eqT] at h
  | succ d ih =>
    intro t x y u v r h hx hy
    unfold eqT at h
    cases hti : T t with
    | none => simp [hti] at h
    | some ti =>
      have hty := hT t ti hti
      simp only [hti] at h
      split at h
      · rename_i hk
        cases h
        rw [hx.sc_inv, hy.sc_inv]
        exact run_equalIn_bool' w d t _ _ (under_bool hty hk)
      · rename_i hk
        split at h
        · rename_i hkk
          subst hkk
          cases h
          rw [hx.sc_inv, hy.sc_inv]
          exact run_equalIn_int w d t _ _ _ _ (under_int hty hk)
        · cases h
      · rename_i hk
        cases h
        rw [hx.sc_inv, hy.sc_inv]
        exact run_equalIn_string w d t _ _ (under_string hty hk)
      · rename_i fs xs ys hk
        split at h
        case isFalse => cases h
        rename_i hok
        obtain ⟨hst, _, hnm⟩ := hty.eq hok
        obtain ⟨us, rfl⟩ := hx.agg_inv
        obtain ⟨vs, rfl⟩ := hy.agg_inv
        obtain ⟨gs, hu, hfs⟩ := under_struct hty hk
        have hfo : P.fieldsOf t = gs := by simp [Program.fieldsOf, hu]
        rw [run_equalIn_struct w d t us vs (by rw [hfo]; exact hu) hst, hfo]
        have hn := hnm gs hu
        have key : ∀ (l : List Field) (r : Bool), (∀ f ∈ l, f.name ≠ "_") → eqT.eqFs (eqT T d) T xs ys (l.map fun f => (f.offset, f.type)) = some r → (Op.eqFields d us vs l).run P w = .ok r w := by
          intro l
          induction l with
          | nil => intro r _ h; simp [eqT.eqFs] at h; subst h; rfl
          | cons f l ihl =>
            intro r hne h
            simp only [List.map_cons, eqT.eqFs] at h
            cases hft : T f.type with
            | none => simp [hft] at h
            | some fi =>
              simp only [hft] at h
              cases hp : eqT.partA fi xs f.offset with
              | none => simp [hp] at h
              | some a =>
                cases hq : eqT.partA fi ys f.offset with
                | none => simp [hp, hq] at h
                | some b =>
                  simp only [hp, hq] at h
                  cases hr1 : eqT T d f.type a b with
                  | none => simp [hr1] at h
                  | some p =>
                    cases hr2 : eqT.eqFs (eqT T d) T xs ys (l.map fun f => (f.offset, f.type)) with
                    | none => simp [hr1, hr2] at h
                    | some q =>
                      simp only [hr1, hr2, Option.some.injEq] at h
                      subst h
                      obtain ⟨va, hva, hra⟩ := hpart f.type fi xs us f.offset a hft hx hp
                      obtain ⟨vb, hvb, hrb⟩ := hpart f.type fi ys vs f.offset b hft hy hq
                      have he := ih f.type a b va vb p hr1 hra hrb
                      have hl := ihl q (fun g hg => hne g (List.mem_cons_of_mem _ hg)) hr2
                      simp only [Op.eqFields, hne f (List.mem_cons_self ..), ne_eq, not_false_eq_true, if_true, Sem.run_bind, hva, hvb, he, Result.andThen_ok]
                      cases p
                      · simp
                      · simpa using hl
        rw [hfs] at h
        exact key gs.toList r (fun f hf => hn f (by simpa using hf)) h
      · rename_i n e xs ys hk
        obtain ⟨us, rfl⟩ := hx.agg_inv
        obtain ⟨vs, rfl⟩ := hy.agg_inv
        have hu := under_array hty hk
        cases hte : T e with
        | none => simp [hte] at h
        | some te =>
          simp only [hte] at h
          have key : ∀ (m i : Nat) (r : Bool), eqT.eqAs (eqT T d) te xs ys e i m = some r →
              (forIn (m := Sem) (List.range' i m) ((none : Option Bool), ()) (fun i _ => do
                let b ← Op.equalIn d e (← part e us (i * te.size)) (← part e vs (i * te.size))
                if (!b) = true then pure (ForInStep.done (some false, ())) else pure (ForInStep.yield (none, ())))).run P w = .ok (if r then (none, ()) else (some false, ())) w := by
            intro m
            induction m with
            | zero => intro i r h; simp [eqT.eqAs] at h; subst h; simp
            | succ m ihm =>
              intro i r h
              simp only [eqT.eqAs] at h
              cases hp : eqT.partA te xs (i * te.size) with
              | none => simp [hp] at h
              | some a =>
                cases hq : eqT.partA te ys (i * te.size) with
                | none => simp [hp, hq] at h
                | some b =>
                  simp only [hp, hq] at h
                  cases hr1 : eqT T d e a b with
                  | none => simp [hr1] at h
                  | some p =>
                    cases hr2 : eqT.eqAs (eqT T d) te xs ys e (i + 1) m with
                    | none => simp [hr1, hr2] at h
                    | some q =>
                      simp only [hr1, hr2, Option.some.injEq] at h
                      subst h
                      obtain ⟨va, hva, hra⟩ := hpart e te xs us _ a hte hx hp
                      obtain ⟨vb, hvb, hrb⟩ := hpart e te ys vs _ b hte hy hq
                      have he := ih e a b va vb p hr1 hra hrb
                      have hl := ihm (i + 1) q hr2
                      rw [List.range'_succ, List.forIn_cons]
                      simp only [Sem.run_bind, hva, hvb, he, Result.andThen_ok]
                      cases p
                      · simp
                      · simpa using hl
          have hk0 := key n 0 r h
          simp only [Op.equalIn, Sem.run_bind, run_underlying hu, Result.andThen_ok, run_sizeOf_ty w (hT e te hte)]
          rw [Std.Legacy.Range.forIn_eq_forIn_range']
          simp only [Std.Legacy.Range.size, Nat.sub_zero, Nat.add_sub_cancel, Nat.div_one]
          rw [hk0]
          cases r <;> simp
      · cases h
end
end Go.Av
