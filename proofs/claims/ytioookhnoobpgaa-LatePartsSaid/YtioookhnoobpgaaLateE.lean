/- Late: the laws LateEnds. -/
import Derived.Test.YtioookhnoobpgaaLateW
namespace Go.Av.Try
open Go.Proofs Go.Av.Lt
set_option maxRecDepth 10000

theorem fn23 : FnOk Try.prog 23 Try.f23 (bodyOf Try.f23) := ⟨Try.func23, by kernel_rfl, rfl⟩
theorem fn8 : FnOk Try.prog 8 Try.f8 (bodyOf Try.f8) := ⟨Try.func8, by kernel_rfl, rfl⟩
theorem alive_pure : Pure Try.prog 24 [] (bo true) := run_pure (k := 1000) (d := 20) tyTab_ok fnTab_ok (by kernel_rfl)

theorem markE_pure (t : Int) : Pure Try.prog 23 [i64 t] (encE ⟨true, t, ⟨0, 0, 0⟩⟩) := by
  refine Pure.sym tyTab_ok fn23 (nt := 5) rfl rfl ?_ (by intro a ha; simp at ha; subst ha; exact .sc)
  refine run_to tm 100 [] rfl (by
     repeat' first
       | exact trivial
       | refine And.intro ?_ ?_
       | exact fun h => h
       | rfl
       | assumption
       | (intro a; rw [a]; done)
       | (intro a; rw [a]; rfl)
       | (intro a b; rw [a, b]; done)
       | (intro a b; rw [a, b]; rfl)
       | exact wrap_i64 (by omega) (by omega)
       | (intros; exact wrap_i64 (by omega) (by omega))
       | (exact decide_eq_true (by omega))
       | (exact decide_eq_false (by omega))
       | exact ix_map (List.getElem?_eq_getElem (by omega))
       | (simp only [List.length_map]; omega)
       | (intros; omega)
       | (refine Nat.le_trans (Nat.mul_le_mul_right _ (show _ ≤ 5000 by simp; omega)) (by decide))
       | (refine Nat.le_trans (Nat.mul_le_mul_right _ (show _ ≤ 5000 by simp)) (by decide))
       | (unfold maxLen; simp; omega)
       | (unfold maxLen; simp; done)
       | (intro e he; rw [List.mem_singleton.1 he]; rfl)
       | (simp; done)
       | (intros; simp_all; done)) ?_
  exact fin_ret rfl (cvE (x := ⟨true, t, ⟨0, 0, 0⟩⟩))

theorem ends_loop {Q : AExit → St → Mu → Prop} {μ : Mu} (l : List Ev) (hl : l.length ≤ 60) : ∀ (j k : Nat) (acc : List Ev), k + j = l.length → acc.length ≤ k →
    (SemK Try.prog 116 0 Q (.exit (.exit 0)) [] ⟨fr [(0, encEs false l), (3, bo true), (4, slA 0 ((acc ++ bare (l.drop k)).map encE))], hp (optG 0 5 ((acc ++ bare (l.drop k)).map encE)), 1⟩ μ) →
    SemK Try.prog 116 0 Q (.loop (loopB 0 (bodyOf Try.f8))) [] ⟨fr [(0, encEs false l), (3, bo true), (4, slA 0 (acc.map encE)), (5, i64 k)], hp (optG 0 5 (acc.map encE)), 1⟩ μ := by
  intro j
  induction j with
  | zero =>
    intro k acc hk ha h1
    rw [List.drop_of_length_le (by omega)] at h1
    simp only [bare, List.filter_nil, List.append_nil] at h1
    rcases acc with _ | ⟨r0, acc⟩
    all_goals
      refine SemK.round ?_
      refine run_to tm 200 [.br false] rfl (by
         repeat' first
           | exact trivial
           | refine And.intro ?_ ?_
           | exact fun h => h
           | rfl
           | assumption
           | exact (decide_eq_false (by simp; omega))
           | (intros; exact (decide_eq_false (by simp; omega)))
           | (intro a; rw [a]; done)
           | (intro a; rw [a]; rfl)
           | (intro a b; rw [a, b]; done)
           | (intro a b; rw [a, b]; rfl)
           | exact wrap_i64 (by omega) (by omega)
           | (intros; exact wrap_i64 (by omega) (by omega))
           | (exact decide_eq_true (by omega))
           | (exact decide_eq_false (by omega))
           | exact ix_map (List.getElem?_eq_getElem (by omega))
           | (simp only [List.length_map]; omega)
           | (intros; omega)
           | (refine Nat.le_trans (Nat.mul_le_mul_right _ (show _ ≤ 5000 by simp; omega)) (by decide))
           | (refine Nat.le_trans (Nat.mul_le_mul_right _ (show _ ≤ 5000 by simp)) (by decide))
           | (unfold maxLen; simp; omega)
           | (unfold maxLen; simp; done)
           | (intro e he; rw [List.mem_singleton.1 he]; rfl)
           | (simp; done)
           | (intros; simp_all; done)) ?_
      refine SemK.weakTo [] (h1) rfl
         (by
           repeat' first
             | exact trivial
             | rfl
             | exact .sc
             | exact .list
             | exact .nils
             | exact .ref (by decide)
             | exact .ptr (by decide)
             | assumption
             | (refine .fn ?_; intro a ha; simp at ha; subst ha; exact .ptr (by decide))
             | (refine congrArg (fun z => AV.sc (Value.int IntKind.i64 z)) ?_; first | rfl | omega | assumption | (simp; done) | (simp; omega))
             | (refine congrArg (fun z => AV.sc (Value.bool z)) ?_; first | rfl | assumption | (simp; done))
             | (refine congrArg (fun z => AV.ref _ 0 z) ?_; first | rfl | omega | (simp; done) | (simp; omega))
             | (show AV.ref _ 0 _ = AV.ref _ 0 _; congr 1; (simp; done))
             | refine And.intro ?_ ?_)
         (by
           repeat' first
             | exact trivial
             | rfl
             | decide
             | exact ⟨_, rfl, rfl, rfl⟩
             | exact ok_flat flat1
             | (refine ok_flat ?_; repeat' first | exact flatSc | exact allNil | exact flatR _ | exact flatE _ | exact flat1R _ | exact flat1E _ | refine allCons ?_ ?_ | refine allApp ?_ ?_)
             | (refine ⟨_, rfl, rfl, Eq.trans ?_ (ren_still ?_ _)⟩; (first | rfl | (simp; done) | (simp; rfl) | (simp only [List.map_append, List.map_cons, List.map_nil, List.cons_append]; rfl)); (repeat' first | exact stillSc | exact allNil | exact stillR _ | exact stillE _ | exact still1R _ | exact still1E _ | refine allCons ?_ ?_ | refine allApp ?_ ?_))
             | refine And.intro ?_ ?_)
  | succ j ih =>
    intro k acc hk ha h1
    have hk' : k < l.length := by omega
    have hd : l.drop k = l[k] :: l.drop (k + 1) := List.drop_eq_getElem_cons hk'
    rw [hd] at h1
    have hg := getE l k hk'
    have ih := ih (k + 1)
    generalize l[k] = x at *
    cases hx : x.mark with
    | true =>
      have e1 : bare (x :: l.drop (k + 1)) = bare (l.drop (k + 1)) := by simp [bare, hx]
      rw [e1] at h1
      rcases acc with _ | ⟨r0, acc⟩
      all_goals
        simp only [List.length_cons, List.length_nil] at ha
        refine SemK.round ?_
        refine run_to tm 200 [.br true, .el (encE x), .br false] rfl (by
           repeat' first
             | exact trivial
             | refine And.intro ?_ ?_
             | exact fun h => h
             | rfl
             | assumption
             | exact (hg)
             | (intros; exact (hg))
             | exact (decide_eq_true (by simp; omega))
             | (intros; exact (decide_eq_true (by simp; omega)))
             | (rw [hx]; rfl; done)
             | (intros; rw [hx]; rfl; done)
             | (intro a; rw [a]; done)
             | (intro a; rw [a]; rfl)
             | (intro a b; rw [a, b]; done)
             | (intro a b; rw [a, b]; rfl)
             | exact wrap_i64 (by omega) (by omega)
             | (intros; exact wrap_i64 (by omega) (by omega))
             | (exact decide_eq_true (by omega))
             | (exact decide_eq_false (by omega))
             | exact ix_map (List.getElem?_eq_getElem (by omega))
             | (simp only [List.length_map]; omega)
             | (intros; omega)
             | (refine Nat.le_trans (Nat.mul_le_mul_right _ (show _ ≤ 5000 by simp; omega)) (by decide))
             | (refine Nat.le_trans (Nat.mul_le_mul_right _ (show _ ≤ 5000 by simp)) (by decide))
             | (unfold maxLen; simp; omega)
             | (unfold maxLen; simp; done)
             | (intro e he; rw [List.mem_singleton.1 he]; rfl)
             | (simp; done)
             | (intros; simp_all; done)) ?_
        refine SemK.weakTo [] (ih _ (by omega) (by first | (simp; done) | (simp; omega)) h1) rfl
           (by
             repeat' first
               | exact trivial
               | rfl
               | exact .sc
               | exact .list
               | exact .nils
               | exact .ref (by decide)
               | exact .ptr (by decide)
               | assumption
               | (refine .fn ?_; intro a ha; simp at ha; subst ha; exact .ptr (by decide))
               | (refine congrArg (fun z => AV.sc (Value.int IntKind.i64 z)) ?_; first | rfl | omega | assumption | (simp; done) | (simp; omega))
               | (refine congrArg (fun z => AV.sc (Value.bool z)) ?_; first | rfl | assumption | (simp; done))
               | (refine congrArg (fun z => AV.ref _ 0 z) ?_; first | rfl | omega | (simp; done) | (simp; omega))
               | (show AV.ref _ 0 _ = AV.ref _ 0 _; congr 1; (simp; done))
               | refine And.intro ?_ ?_)
           (by
             repeat' first
               | exact trivial
               | rfl
               | decide
               | exact ⟨_, rfl, rfl, rfl⟩
               | exact ok_flat flat1
               | (refine ok_flat ?_; repeat' first | exact flatSc | exact allNil | exact flatR _ | exact flatE _ | exact flat1R _ | exact flat1E _ | refine allCons ?_ ?_ | refine allApp ?_ ?_)
               | (refine ⟨_, rfl, rfl, Eq.trans ?_ (ren_still ?_ _)⟩; (first | rfl | (simp; done) | (simp; rfl) | (simp only [List.map_append, List.map_cons, List.map_nil, List.cons_append]; rfl)); (repeat' first | exact stillSc | exact allNil | exact stillR _ | exact stillE _ | exact still1R _ | exact still1E _ | refine allCons ?_ ?_ | refine allApp ?_ ?_))
               | refine And.intro ?_ ?_)
    | false =>
      have e1 : bare (x :: l.drop (k + 1)) = x :: bare (l.drop (k + 1)) := by simp [bare, hx]
      rw [e1, List.append_cons] at h1
      rcases acc with _ | ⟨r0, acc⟩
      all_goals
        simp only [List.length_cons, List.length_nil] at ha
        refine SemK.round ?_
        refine run_to tm 200 [.br true, .el (encE x), .br true, .el (encE x)] rfl (by
           repeat' first
             | exact trivial
             | refine And.intro ?_ ?_
             | exact fun h => h
             | rfl
             | assumption
             | exact (hg)
             | (intros; exact (hg))
             | exact (decide_eq_true (by simp; omega))
             | (intros; exact (decide_eq_true (by simp; omega)))
             | (rw [hx]; rfl; done)
             | (intros; rw [hx]; rfl; done)
             | (intro a; rw [a]; done)
             | (intro a; rw [a]; rfl)
             | (intro a b; rw [a, b]; done)
             | (intro a b; rw [a, b]; rfl)
             | exact wrap_i64 (by omega) (by omega)
             | (intros; exact wrap_i64 (by omega) (by omega))
             | (exact decide_eq_true (by omega))
             | (exact decide_eq_false (by omega))
             | exact ix_map (List.getElem?_eq_getElem (by omega))
             | (simp only [List.length_map]; omega)
             | (intros; omega)
             | (refine Nat.le_trans (Nat.mul_le_mul_right _ (show _ ≤ 5000 by simp; omega)) (by decide))
             | (refine Nat.le_trans (Nat.mul_le_mul_right _ (show _ ≤ 5000 by simp)) (by decide))
             | (unfold maxLen; simp; omega)
             | (unfold maxLen; simp; done)
             | (intro e he; rw [List.mem_singleton.1 he]; rfl)
             | (simp; done)
             | (intros; simp_all; done)) ?_
        refine SemK.weakTo [(0, 2)] (ih _ (by omega) (by first | (simp; done) | (simp; omega)) h1) rfl
           (by
             repeat' first
               | exact trivial
               | rfl
               | exact .sc
               | exact .list
               | exact .nils
               | exact .ref (by decide)
               | exact .ptr (by decide)
               | assumption
               | (refine .fn ?_; intro a ha; simp at ha; subst ha; exact .ptr (by decide))
               | (refine congrArg (fun z => AV.sc (Value.int IntKind.i64 z)) ?_; first | rfl | omega | assumption | (simp; done) | (simp; omega))
               | (refine congrArg (fun z => AV.sc (Value.bool z)) ?_; first | rfl | assumption | (simp; done))
               | (refine congrArg (fun z => AV.ref _ 0 z) ?_; first | rfl | omega | (simp; done) | (simp; omega))
               | (show AV.ref _ 0 _ = AV.ref _ 0 _; congr 1; (simp; done))
               | refine And.intro ?_ ?_)
           (by
             repeat' first
               | exact trivial
               | rfl
               | decide
               | exact ⟨_, rfl, rfl, rfl⟩
               | exact ok_flat flat1
               | (refine ok_flat ?_; repeat' first | exact flatSc | exact allNil | exact flatR _ | exact flatE _ | exact flat1R _ | exact flat1E _ | refine allCons ?_ ?_ | refine allApp ?_ ?_)
               | (refine ⟨_, rfl, rfl, Eq.trans ?_ (ren_still ?_ _)⟩; (first | rfl | (simp; done) | (simp; rfl) | (simp only [List.map_append, List.map_cons, List.map_nil, List.cons_append]; rfl)); (repeat' first | exact stillSc | exact allNil | exact stillR _ | exact stillE _ | exact still1R _ | exact still1E _ | refine allCons ?_ ?_ | refine allApp ?_ ?_))
               | refine And.intro ?_ ?_)

theorem ownTup3 {a b c : AV} (h : OwnO a) (k : OwnO b) (l : OwnO c) : OwnO (.tup [a, b, c]) := .tup fun x hx => by
  simp only [List.mem_cons, List.not_mem_nil, or_false] at hx
  rcases hx with rfl | rfl | rfl
  · exact h
  · exact k
  · exact l

theorem ends_pure (l : List Ev) : Pure Try.prog 8 [encEs false l] (bo true) := by
  refine Pure.sym tyTab_ok fn8 (nt := 116) rfl rfl ?_ (by intro a ha; simp at ha; subst ha; exact .list)
  by_cases h : chk l ≠ 0 ∨ 60 ≤ l.length
  · refine run_to tm 100 [.pure [] (bo true), .pure [encEs false l] (i64 (chk l)), .br true] rfl (by
     repeat' first
       | exact trivial
       | refine And.intro ?_ ?_
       | exact fun h => h
       | rfl
       | assumption
       | exact (PureCall.none alive_pure .nil)
       | (intros; exact (PureCall.none alive_pure .nil))
       | exact (PureCall.none (rcheck_pure _) (Cvs.cons cvEs .nil))
       | (intros; exact (PureCall.none (rcheck_pure _) (Cvs.cons cvEs .nil)))
       | (rcases h with h | h; simp [h]; simp; right; omega; done)
       | (intros; rcases h with h | h; simp [h]; simp; right; omega; done)
       | (intro a; rw [a]; done)
       | (intro a; rw [a]; rfl)
       | (intro a b; rw [a, b]; done)
       | (intro a b; rw [a, b]; rfl)
       | exact wrap_i64 (by omega) (by omega)
       | (intros; exact wrap_i64 (by omega) (by omega))
       | (exact decide_eq_true (by omega))
       | (exact decide_eq_false (by omega))
       | exact ix_map (List.getElem?_eq_getElem (by omega))
       | (simp only [List.length_map]; omega)
       | (intros; omega)
       | (refine Nat.le_trans (Nat.mul_le_mul_right _ (show _ ≤ 5000 by simp; omega)) (by decide))
       | (refine Nat.le_trans (Nat.mul_le_mul_right _ (show _ ≤ 5000 by simp)) (by decide))
       | (unfold maxLen; simp; omega)
       | (unfold maxLen; simp; done)
       | (intro e he; rw [List.mem_singleton.1 he]; rfl)
       | (simp; done)
       | (intros; simp_all; done)) ?_
    exact fin_ret rfl .sc
  · have hc : chk l = 0 := by omega
    have hl : l.length < 60 := by omega
    obtain ⟨k1, k2, k3, k4, k5, k6, k7⟩ := ends hc hl
    refine run_to tm 100 [.pure [] (bo true), .pure [encEs false l] (i64 (chk l)), .br false] rfl (by
       repeat' first
         | exact trivial
         | refine And.intro ?_ ?_
         | exact fun h => h
         | rfl
         | assumption
         | exact (PureCall.none alive_pure .nil)
         | (intros; exact (PureCall.none alive_pure .nil))
         | exact (PureCall.none (rcheck_pure _) (Cvs.cons cvEs .nil))
         | (intros; exact (PureCall.none (rcheck_pure _) (Cvs.cons cvEs .nil)))
         | (rw [hc]; simp; omega; done)
         | (intros; rw [hc]; simp; omega; done)
         | (intro a; rw [a]; done)
         | (intro a; rw [a]; rfl)
         | (intro a b; rw [a, b]; done)
         | (intro a b; rw [a, b]; rfl)
         | exact wrap_i64 (by omega) (by omega)
         | (intros; exact wrap_i64 (by omega) (by omega))
         | (exact decide_eq_true (by omega))
         | (exact decide_eq_false (by omega))
         | exact ix_map (List.getElem?_eq_getElem (by omega))
         | (simp only [List.length_map]; omega)
         | (intros; omega)
         | (refine Nat.le_trans (Nat.mul_le_mul_right _ (show _ ≤ 5000 by simp; omega)) (by decide))
         | (refine Nat.le_trans (Nat.mul_le_mul_right _ (show _ ≤ 5000 by simp)) (by decide))
         | (unfold maxLen; simp; omega)
         | (unfold maxLen; simp; done)
         | (intro e he; rw [List.mem_singleton.1 he]; rfl)
         | (simp; done)
         | (intros; simp_all; done)) ?_
    refine SemK.weakTo [] (SemK.cut (ends_loop l (by omega) l.length 0 [] (by omega) (by simp) ?_)) rfl
       (by
         repeat' first
           | exact trivial
           | rfl
           | exact .sc
           | exact .list
           | exact .nils
           | exact .ref (by decide)
           | exact .ptr (by decide)
           | assumption
           | (refine .fn ?_; intro a ha; simp at ha; subst ha; exact .ptr (by decide))
           | (refine congrArg (fun z => AV.sc (Value.int IntKind.i64 z)) ?_; first | rfl | omega | assumption | (simp; done) | (simp; omega))
           | (refine congrArg (fun z => AV.sc (Value.bool z)) ?_; first | rfl | assumption | (simp; done))
           | (refine congrArg (fun z => AV.ref _ 0 z) ?_; first | rfl | omega | (simp; done) | (simp; omega))
           | (show AV.ref _ 0 _ = AV.ref _ 0 _; congr 1; (simp; done))
           | refine And.intro ?_ ?_)
       (by
         repeat' first
           | exact trivial
           | rfl
           | decide
           | exact ⟨_, rfl, rfl, rfl⟩
           | exact ok_flat flat1
           | (refine ok_flat ?_; repeat' first | exact flatSc | exact allNil | exact flatR _ | exact flatE _ | exact flat1R _ | exact flat1E _ | refine allCons ?_ ?_ | refine allApp ?_ ?_)
           | (refine ⟨_, rfl, rfl, Eq.trans ?_ (ren_still ?_ _)⟩; (first | rfl | (simp; done) | (simp; rfl) | (simp only [List.map_append, List.map_cons, List.map_nil, List.cons_append]; rfl)); (repeat' first | exact stillSc | exact allNil | exact stillR _ | exact stillE _ | exact still1R _ | exact still1E _ | refine allCons ?_ ?_ | refine allApp ?_ ?_))
           | refine And.intro ?_ ?_)
    refine SemK.glue ?_
    simp only [List.nil_append, List.drop_zero]
    have hB : (bare l).length ≤ l.length := List.length_filter_le _ _
    generalize hb : bare l = B at *
    rcases B with _ | ⟨b0, B⟩
    all_goals
      rcases l with _ | ⟨l0, l⟩
    · simp only [List.length_nil, List.length_cons] at hB k3 k5 k7
      refine run_to tm 200 [.pure [i64 final] (encE finE), .pure [encEs false (finE :: [])] (.tup [encRs true (rightS (finE :: [])), encRs true (lateS (finE :: [])), i64 (chk (finE :: []))]),
        .pure [encEs false []] (.tup [encRs true (rightS []), encRs true (lateS []), i64 (chk [])]), .pure [encEs false []] (.tup [encRs true (rightS []), encRs true (lateS []), i64 (chk [])])] rfl
        (by
           repeat' first
             | exact trivial
             | refine And.intro ?_ ?_
             | exact fun h => h
             | rfl
             | assumption
             | exact (PureCall.none (markE_pure _) (Cvs.cons .sc .nil))
             | (intros; exact (PureCall.none (markE_pure _) (Cvs.cons .sc .nil)))
             | exact (sz5 [])
             | (intros; exact (sz5 []))
             | exact (PureCall.lent (split_pure _) (Cvs.cons (cv_ref (es := (finE :: []).map encE) rfl rfl (by simp <;> omega) (flatE _)) .nil) (ownTup3 (ownRs _) (ownRs _) .sc))
             | (intros; exact (PureCall.lent (split_pure _) (Cvs.cons (cv_ref (es := (finE :: []).map encE) rfl rfl (by simp <;> omega) (flatE _)) .nil) (ownTup3 (ownRs _) (ownRs _) .sc)))
             | exact (PureCall.lent (split_pure _) (Cvs.cons .nils .nil) (ownTup3 (ownRs _) (ownRs _) .sc))
             | (intros; exact (PureCall.lent (split_pure _) (Cvs.cons .nils .nil) (ownTup3 (ownRs _) (ownRs _) .sc)))
             | exact (PureCall.none (split_pure _) (Cvs.cons cvEs .nil))
             | (intros; exact (PureCall.none (split_pure _) (Cvs.cons cvEs .nil)))
             | exact (wrap_i64 (by simp only [List.length_map]; omega) (by simp only [List.length_map]; omega))
             | (intros; exact (wrap_i64 (by simp only [List.length_map]; omega) (by simp only [List.length_map]; omega)))
             | (intro a; rw [a]; done)
             | (intro a; rw [a]; rfl)
             | (intro a b; rw [a, b]; done)
             | (intro a b; rw [a, b]; rfl)
             | exact wrap_i64 (by omega) (by omega)
             | (intros; exact wrap_i64 (by omega) (by omega))
             | (exact decide_eq_true (by omega))
             | (exact decide_eq_false (by omega))
             | exact ix_map (List.getElem?_eq_getElem (by omega))
             | (simp only [List.length_map]; omega)
             | (intros; omega)
             | (refine Nat.le_trans (Nat.mul_le_mul_right _ (show _ ≤ 5000 by simp; omega)) (by decide))
             | (refine Nat.le_trans (Nat.mul_le_mul_right _ (show _ ≤ 5000 by simp)) (by decide))
             | (unfold maxLen; simp; omega)
             | (unfold maxLen; simp; done)
             | (intro e he; rw [List.mem_singleton.1 he]; rfl)
             | (simp; done)
             | (intros; simp_all; done)) ?_
      refine fin_ret rfl (cv_bo ?_)
      first
        | (simp [k1, k2, k3, k4, k5, k6, hc]; done)
        | (simp [k1, k2, k3, k4, k5, k6, hc]; omega)
        | (simp [k1, k2, k4, k6, hc]; omega)
    · simp only [List.length_cons, List.length_nil] at hl hB k3 k5 k7
      refine run_to tm 200 [.pure [i64 final] (encE finE), .ne true, .pure [encEs false (finE :: (l0 :: l))] (.tup [encRs true (rightS (finE :: (l0 :: l))), encRs true (lateS (finE :: (l0 :: l))), i64 (chk (finE :: (l0 :: l)))]),
        .pure [encEs false []] (.tup [encRs true (rightS []), encRs true (lateS []), i64 (chk [])]), .pure [encEs false (l0 :: l)] (.tup [encRs true (rightS (l0 :: l)), encRs true (lateS (l0 :: l)), i64 (chk (l0 :: l))])] rfl
        (by
           repeat' first
             | exact trivial
             | refine And.intro ?_ ?_
             | exact fun h => h
             | rfl
             | assumption
             | exact (PureCall.none (markE_pure _) (Cvs.cons .sc .nil))
             | (intros; exact (PureCall.none (markE_pure _) (Cvs.cons .sc .nil)))
             | exact (sz5 (l0 :: l))
             | (intros; exact (sz5 (l0 :: l)))
             | exact (PureCall.lent (split_pure _) (Cvs.cons (cv_ref (es := (finE :: (l0 :: l)).map encE) rfl rfl (by simp <;> omega) (flatE _)) .nil) (ownTup3 (ownRs _) (ownRs _) .sc))
             | (intros; exact (PureCall.lent (split_pure _) (Cvs.cons (cv_ref (es := (finE :: (l0 :: l)).map encE) rfl rfl (by simp <;> omega) (flatE _)) .nil) (ownTup3 (ownRs _) (ownRs _) .sc)))
             | exact (PureCall.lent (split_pure _) (Cvs.cons .nils .nil) (ownTup3 (ownRs _) (ownRs _) .sc))
             | (intros; exact (PureCall.lent (split_pure _) (Cvs.cons .nils .nil) (ownTup3 (ownRs _) (ownRs _) .sc)))
             | exact (PureCall.none (split_pure _) (Cvs.cons cvEs .nil))
             | (intros; exact (PureCall.none (split_pure _) (Cvs.cons cvEs .nil)))
             | exact (wrap_i64 (by simp only [List.length_map]; omega) (by simp only [List.length_map]; omega))
             | (intros; exact (wrap_i64 (by simp only [List.length_map]; omega) (by simp only [List.length_map]; omega)))
             | (intro a; rw [a]; done)
             | (intro a; rw [a]; rfl)
             | (intro a b; rw [a, b]; done)
             | (intro a b; rw [a, b]; rfl)
             | exact wrap_i64 (by omega) (by omega)
             | (intros; exact wrap_i64 (by omega) (by omega))
             | (exact decide_eq_true (by omega))
             | (exact decide_eq_false (by omega))
             | exact ix_map (List.getElem?_eq_getElem (by omega))
             | (simp only [List.length_map]; omega)
             | (intros; omega)
             | (refine Nat.le_trans (Nat.mul_le_mul_right _ (show _ ≤ 5000 by simp; omega)) (by decide))
             | (refine Nat.le_trans (Nat.mul_le_mul_right _ (show _ ≤ 5000 by simp)) (by decide))
             | (unfold maxLen; simp; omega)
             | (unfold maxLen; simp; done)
             | (intro e he; rw [List.mem_singleton.1 he]; rfl)
             | (simp; done)
             | (intros; simp_all; done)) ?_
      refine fin_ret rfl (cv_bo ?_)
      first
        | (simp [k1, k2, k3, k4, k5, k6, hc]; done)
        | (simp [k1, k2, k3, k4, k5, k6, hc]; omega)
        | (simp [k1, k2, k4, k6, hc]; omega)
    · simp only [List.length_nil, List.length_cons] at hB k3 k5 k7
      refine run_to tm 200 [.pure [i64 final] (encE finE), .pure [encEs false (finE :: [])] (.tup [encRs true (rightS (finE :: [])), encRs true (lateS (finE :: [])), i64 (chk (finE :: []))]),
        .pure [encEs false (b0 :: B)] (.tup [encRs true (rightS (b0 :: B)), encRs true (lateS (b0 :: B)), i64 (chk (b0 :: B))]), .pure [encEs false []] (.tup [encRs true (rightS []), encRs true (lateS []), i64 (chk [])])] rfl
        (by
           repeat' first
             | exact trivial
             | refine And.intro ?_ ?_
             | exact fun h => h
             | rfl
             | assumption
             | exact (PureCall.none (markE_pure _) (Cvs.cons .sc .nil))
             | (intros; exact (PureCall.none (markE_pure _) (Cvs.cons .sc .nil)))
             | exact (sz5 [])
             | (intros; exact (sz5 []))
             | exact (PureCall.lent (split_pure _) (Cvs.cons (cv_ref (es := (finE :: []).map encE) rfl rfl (by simp <;> omega) (flatE _)) .nil) (ownTup3 (ownRs _) (ownRs _) .sc))
             | (intros; exact (PureCall.lent (split_pure _) (Cvs.cons (cv_ref (es := (finE :: []).map encE) rfl rfl (by simp <;> omega) (flatE _)) .nil) (ownTup3 (ownRs _) (ownRs _) .sc)))
             | exact (PureCall.lent (split_pure _) (Cvs.cons (cv_ref (x := { es := encE b0 :: B.map encE, esz := 5 }) rfl rfl rfl (flatE (b0 :: B))) .nil) (ownTup3 (ownRs _) (ownRs _) .sc))
             | (intros; exact (PureCall.lent (split_pure _) (Cvs.cons (cv_ref (x := { es := encE b0 :: B.map encE, esz := 5 }) rfl rfl rfl (flatE (b0 :: B))) .nil) (ownTup3 (ownRs _) (ownRs _) .sc)))
             | exact (PureCall.none (split_pure _) (Cvs.cons cvEs .nil))
             | (intros; exact (PureCall.none (split_pure _) (Cvs.cons cvEs .nil)))
             | exact (wrap_i64 (by simp only [List.length_map]; omega) (by simp only [List.length_map]; omega))
             | (intros; exact (wrap_i64 (by simp only [List.length_map]; omega) (by simp only [List.length_map]; omega)))
             | (intro a; rw [a]; done)
             | (intro a; rw [a]; rfl)
             | (intro a b; rw [a, b]; done)
             | (intro a b; rw [a, b]; rfl)
             | exact wrap_i64 (by omega) (by omega)
             | (intros; exact wrap_i64 (by omega) (by omega))
             | (exact decide_eq_true (by omega))
             | (exact decide_eq_false (by omega))
             | exact ix_map (List.getElem?_eq_getElem (by omega))
             | (simp only [List.length_map]; omega)
             | (intros; omega)
             | (refine Nat.le_trans (Nat.mul_le_mul_right _ (show _ ≤ 5000 by simp; omega)) (by decide))
             | (refine Nat.le_trans (Nat.mul_le_mul_right _ (show _ ≤ 5000 by simp)) (by decide))
             | (unfold maxLen; simp; omega)
             | (unfold maxLen; simp; done)
             | (intro e he; rw [List.mem_singleton.1 he]; rfl)
             | (simp; done)
             | (intros; simp_all; done)) ?_
      refine fin_ret rfl (cv_bo ?_)
      first
        | (simp [k1, k2, k3, k4, k5, k6, hc]; done)
        | (simp [k1, k2, k3, k4, k5, k6, hc]; omega)
        | (simp [k1, k2, k4, k6, hc]; omega)
    · simp only [List.length_cons, List.length_nil] at hl hB k3 k5 k7
      refine run_to tm 200 [.pure [i64 final] (encE finE), .ne true, .pure [encEs false (finE :: (l0 :: l))] (.tup [encRs true (rightS (finE :: (l0 :: l))), encRs true (lateS (finE :: (l0 :: l))), i64 (chk (finE :: (l0 :: l)))]),
        .pure [encEs false (b0 :: B)] (.tup [encRs true (rightS (b0 :: B)), encRs true (lateS (b0 :: B)), i64 (chk (b0 :: B))]), .pure [encEs false (l0 :: l)] (.tup [encRs true (rightS (l0 :: l)), encRs true (lateS (l0 :: l)), i64 (chk (l0 :: l))])] rfl
        (by
           repeat' first
             | exact trivial
             | refine And.intro ?_ ?_
             | exact fun h => h
             | rfl
             | assumption
             | exact (PureCall.none (markE_pure _) (Cvs.cons .sc .nil))
             | (intros; exact (PureCall.none (markE_pure _) (Cvs.cons .sc .nil)))
             | exact (sz5 (l0 :: l))
             | (intros; exact (sz5 (l0 :: l)))
             | exact (PureCall.lent (split_pure _) (Cvs.cons (cv_ref (es := (finE :: (l0 :: l)).map encE) rfl rfl (by simp <;> omega) (flatE _)) .nil) (ownTup3 (ownRs _) (ownRs _) .sc))
             | (intros; exact (PureCall.lent (split_pure _) (Cvs.cons (cv_ref (es := (finE :: (l0 :: l)).map encE) rfl rfl (by simp <;> omega) (flatE _)) .nil) (ownTup3 (ownRs _) (ownRs _) .sc)))
             | exact (PureCall.lent (split_pure _) (Cvs.cons (cv_ref (x := { es := encE b0 :: B.map encE, esz := 5 }) rfl rfl rfl (flatE (b0 :: B))) .nil) (ownTup3 (ownRs _) (ownRs _) .sc))
             | (intros; exact (PureCall.lent (split_pure _) (Cvs.cons (cv_ref (x := { es := encE b0 :: B.map encE, esz := 5 }) rfl rfl rfl (flatE (b0 :: B))) .nil) (ownTup3 (ownRs _) (ownRs _) .sc)))
             | exact (PureCall.none (split_pure _) (Cvs.cons cvEs .nil))
             | (intros; exact (PureCall.none (split_pure _) (Cvs.cons cvEs .nil)))
             | exact (wrap_i64 (by simp only [List.length_map]; omega) (by simp only [List.length_map]; omega))
             | (intros; exact (wrap_i64 (by simp only [List.length_map]; omega) (by simp only [List.length_map]; omega)))
             | (intro a; rw [a]; done)
             | (intro a; rw [a]; rfl)
             | (intro a b; rw [a, b]; done)
             | (intro a b; rw [a, b]; rfl)
             | exact wrap_i64 (by omega) (by omega)
             | (intros; exact wrap_i64 (by omega) (by omega))
             | (exact decide_eq_true (by omega))
             | (exact decide_eq_false (by omega))
             | exact ix_map (List.getElem?_eq_getElem (by omega))
             | (simp only [List.length_map]; omega)
             | (intros; omega)
             | (refine Nat.le_trans (Nat.mul_le_mul_right _ (show _ ≤ 5000 by simp; omega)) (by decide))
             | (refine Nat.le_trans (Nat.mul_le_mul_right _ (show _ ≤ 5000 by simp)) (by decide))
             | (unfold maxLen; simp; omega)
             | (unfold maxLen; simp; done)
             | (intro e he; rw [List.mem_singleton.1 he]; rfl)
             | (simp; done)
             | (intros; simp_all; done)) ?_
      refine fin_ret rfl (cv_bo ?_)
      first
        | (simp [k1, k2, k3, k4, k5, k6, hc]; done)
        | (simp [k1, k2, k3, k4, k5, k6, hc]; omega)
        | (simp [k1, k2, k4, k6, hc]; omega)
theorem endsL (xs : List AV) (h : Rels (fun t a => Shape Try.prog 4 t a) [33] xs) : Pure Try.prog 8 xs (.sc (.bool true)) := by
  cases h with
  | cons h hr =>
    cases hr
    obtain ⟨l, rfl, _⟩ := evs_shape (n := 0) h
    exact ends_pure l
end Go.Av.Try
