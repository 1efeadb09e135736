/- Late: the walks. -/
import Derived.Test.YtioookhnoobpgaaLtSpec
import Derived.Test.YtioookhnoobpgaaTabT
namespace Go.Av.Try
open Go.Proofs Go.Av.Lt
set_option maxRecDepth 10000

theorem tm : TyOk Try.prog tyTab.find ∧ Try.prog.follows .mixedOrders = true := ⟨tyTab_ok, by kernel_rfl⟩

theorem fn35 : FnOk Try.prog 35 Try.f35 (bodyOf Try.f35) := ⟨Try.func35, by kernel_rfl, rfl⟩
theorem fn20 : FnOk Try.prog 20 Try.f20 (bodyOf Try.f20) := ⟨Try.func20, by kernel_rfl, rfl⟩

theorem time_pure (t : Int) : Pure Try.prog 35 [i64 t] (bo (isTime t)) := by
  refine Pure.sym tyTab_ok fn35 (nt := 9) rfl rfl ?_ (by intro a ha; simp at ha; subst ha; exact .sc)
  refine run_to tm 100 [] rfl (by
     repeat' first
       | exact trivial
       | refine And.intro ?_ ?_
       | exact fun h => h
       | rfl
       | assumption
       | (intro a; rw [a]; done)
       | (intro a; rw [a]; rfl)
       | (intro a b; rw [a, b]; done)
       | (intro a b; rw [a, b]; rfl)
       | exact wrap_i64 (by omega) (by omega)
       | (intros; exact wrap_i64 (by omega) (by omega))
       | (exact decide_eq_true (by omega))
       | (exact decide_eq_false (by omega))
       | exact ix_map (List.getElem?_eq_getElem (by omega))
       | (simp only [List.length_map]; omega)
       | (intros; omega)
       | (refine Nat.le_trans (Nat.mul_le_mul_right _ (show _ ≤ 5000 by simp; omega)) (by decide))
       | (refine Nat.le_trans (Nat.mul_le_mul_right _ (show _ ≤ 5000 by simp)) (by decide))
       | (unfold maxLen; simp; omega)
       | (unfold maxLen; simp; done)
       | (intro e he; rw [List.mem_singleton.1 he]; rfl)
       | (simp; done)
       | (intros; simp_all; done)) ?_
  refine fin_ret rfl ?_
  have : isTime t = (bif decide (t ≥ -1099511627776) then decide (t ≤ 1099511627776) else false) := by unfold isTime; cases h : decide (t ≥ -1099511627776) <;> simp_all
  rw [this]; exact .sc

theorem bad_ev (x : Ev) : (bif bif x.mark then !bif x.r.key == 0 && (x.r.time == 0 && (x.r.value == 0 && true)) then bif isTime x.time then true else x.time == 9223372036854775807 else false else false then true
      else bif !x.mark then !bif x.time == 0 then isTime x.r.time else false else false) = !okEv x := by
  unfold okEv R3.zero final
  generalize x.mark = b1
  generalize (x.r.key == 0) = b2
  generalize (x.r.time == 0) = b3
  generalize (x.r.value == 0) = b4
  generalize isTime x.time = b5
  generalize (x.time == 9223372036854775807) = b6
  generalize (x.time == 0) = b7
  generalize isTime x.r.time = b8
  revert b1 b2 b3 b4 b5 b6 b7 b8
  decide

theorem check_loop {Q : AExit → St → Mu → Prop} {μ : Mu} (l : List Ev) (hl : l.length ≤ 60) : ∀ (j k : Nat), k + j = l.length →
    ((l.drop k).all okEv = true → SemK Try.prog 55 0 Q (.exit (.exit 0)) [] ⟨fr [(2, i64 0)], hp [], 0⟩ μ) →
    ((l.drop k).all okEv = false → SemK Try.prog 55 0 Q (.exit .ret) [] ⟨fr [(2, i64 8)], hp [], 0⟩ μ) →
    SemK Try.prog 55 0 Q (.loop (loopB 0 (bodyOf Try.f20))) [] ⟨fr [(2, i64 0), (10, encEs false l), (11, i64 l.length), (12, i64 k)], hp [], 0⟩ μ := by
  intro j
  induction j with
  | zero =>
    intro k hk h1 h2
    refine SemK.round ?_
    refine run_to tm 200 [.br false] rfl (by
       repeat' first
         | exact trivial
         | refine And.intro ?_ ?_
         | exact fun h => h
         | rfl
         | assumption
         | (intro a; rw [a]; done)
         | (intro a; rw [a]; rfl)
         | (intro a b; rw [a, b]; done)
         | (intro a b; rw [a, b]; rfl)
         | exact wrap_i64 (by omega) (by omega)
         | (intros; exact wrap_i64 (by omega) (by omega))
         | (exact decide_eq_true (by omega))
         | (exact decide_eq_false (by omega))
         | exact ix_map (List.getElem?_eq_getElem (by omega))
         | (simp only [List.length_map]; omega)
         | (intros; omega)
         | (refine Nat.le_trans (Nat.mul_le_mul_right _ (show _ ≤ 5000 by simp; omega)) (by decide))
         | (refine Nat.le_trans (Nat.mul_le_mul_right _ (show _ ≤ 5000 by simp)) (by decide))
         | (unfold maxLen; simp; omega)
         | (unfold maxLen; simp; done)
         | (intro e he; rw [List.mem_singleton.1 he]; rfl)
         | (simp; done)
         | (intros; simp_all; done)) ?_
    refine SemK.weakTo [] (h1 (by rw [List.drop_of_length_le (by omega)]; rfl)) rfl
       (by
         repeat' first
           | exact trivial
           | rfl
           | exact .sc
           | exact .list
           | exact .nils
           | exact .ref (by decide)
           | exact .ptr (by decide)
           | assumption
           | (refine .fn ?_; intro a ha; simp at ha; subst ha; exact .ptr (by decide))
           | (refine congrArg (fun z => AV.sc (Value.int IntKind.i64 z)) ?_; first | rfl | omega | assumption | (simp; done) | (simp; omega))
           | (refine congrArg (fun z => AV.sc (Value.bool z)) ?_; first | rfl | assumption | (simp; done))
           | (refine congrArg (fun z => AV.ref _ 0 z) ?_; first | rfl | omega | (simp; done) | (simp; omega))
           | (show AV.ref _ 0 _ = AV.ref _ 0 _; congr 1; (simp; done))
           | refine And.intro ?_ ?_)
       (by
         repeat' first
           | exact trivial
           | rfl
           | decide
           | exact ⟨_, rfl, rfl, rfl⟩
           | exact ok_flat flat1
           | (refine ok_flat ?_; repeat' first | exact flatSc | exact allNil | exact flatR _ | exact flatE _ | exact flat1R _ | exact flat1E _ | refine allCons ?_ ?_ | refine allApp ?_ ?_)
           | (refine ⟨_, rfl, rfl, Eq.trans ?_ (ren_still ?_ _)⟩; (first | rfl | (simp; done) | (simp; rfl) | (simp only [List.map_append, List.map_cons, List.map_nil, List.cons_append]; rfl)); (repeat' first | exact stillSc | exact allNil | exact stillR _ | exact stillE _ | exact still1R _ | exact still1E _ | refine allCons ?_ ?_ | refine allApp ?_ ?_))
           | refine And.intro ?_ ?_)
  | succ j ih =>
    intro k hk h1 h2
    have hk' : k < l.length := by omega
    have hd : l.drop k = l[k] :: l.drop (k + 1) := List.drop_eq_getElem_cons hk'
    refine SemK.round ?_
    refine run_to tm 200 [.br true, .el (encE l[k]), .pure [i64 l[k].time] (bo (isTime l[k].time)), .pure [i64 l[k].r.time] (bo (isTime l[k].r.time))] rfl
      (by
         repeat' first
           | exact trivial
           | refine And.intro ?_ ?_
           | exact fun h => h
           | rfl
           | assumption
           | exact (PureCall.none (time_pure _) (Cvs.cons .sc .nil))
           | (intros; exact (PureCall.none (time_pure _) (Cvs.cons .sc .nil)))
           | (intro a; rw [a]; done)
           | (intro a; rw [a]; rfl)
           | (intro a b; rw [a, b]; done)
           | (intro a b; rw [a, b]; rfl)
           | exact wrap_i64 (by omega) (by omega)
           | (intros; exact wrap_i64 (by omega) (by omega))
           | (exact decide_eq_true (by omega))
           | (exact decide_eq_false (by omega))
           | exact ix_map (List.getElem?_eq_getElem (by omega))
           | (simp only [List.length_map]; omega)
           | (intros; omega)
           | (refine Nat.le_trans (Nat.mul_le_mul_right _ (show _ ≤ 5000 by simp; omega)) (by decide))
           | (refine Nat.le_trans (Nat.mul_le_mul_right _ (show _ ≤ 5000 by simp)) (by decide))
           | (unfold maxLen; simp; omega)
           | (unfold maxLen; simp; done)
           | (intro e he; rw [List.mem_singleton.1 he]; rfl)
           | (simp; done)
           | (intros; simp_all; done)) ?_
    generalize l[k] = x at *
    cases hv : okEv x with
    | true =>
      refine run_to tm 200 [.br false] rfl (by
         repeat' first
           | exact trivial
           | refine And.intro ?_ ?_
           | exact fun h => h
           | rfl
           | assumption
           | (rw [bad_ev, hv]; rfl; done)
           | (intros; rw [bad_ev, hv]; rfl; done)
           | (intro a; rw [a]; done)
           | (intro a; rw [a]; rfl)
           | (intro a b; rw [a, b]; done)
           | (intro a b; rw [a, b]; rfl)
           | exact wrap_i64 (by omega) (by omega)
           | (intros; exact wrap_i64 (by omega) (by omega))
           | (exact decide_eq_true (by omega))
           | (exact decide_eq_false (by omega))
           | exact ix_map (List.getElem?_eq_getElem (by omega))
           | (simp only [List.length_map]; omega)
           | (intros; omega)
           | (refine Nat.le_trans (Nat.mul_le_mul_right _ (show _ ≤ 5000 by simp; omega)) (by decide))
           | (refine Nat.le_trans (Nat.mul_le_mul_right _ (show _ ≤ 5000 by simp)) (by decide))
           | (unfold maxLen; simp; omega)
           | (unfold maxLen; simp; done)
           | (intro e he; rw [List.mem_singleton.1 he]; rfl)
           | (simp; done)
           | (intros; simp_all; done)) ?_
      refine SemK.weakTo [] (ih (k + 1) (by omega) (fun h => h1 (by rw [hd, List.all_cons, hv, h]; rfl)) (fun h => h2 (by rw [hd, List.all_cons, hv, h]; rfl))) rfl
         (by
           repeat' first
             | exact trivial
             | rfl
             | exact .sc
             | exact .list
             | exact .nils
             | exact .ref (by decide)
             | exact .ptr (by decide)
             | assumption
             | (refine .fn ?_; intro a ha; simp at ha; subst ha; exact .ptr (by decide))
             | (refine congrArg (fun z => AV.sc (Value.int IntKind.i64 z)) ?_; first | rfl | omega | assumption | (simp; done) | (simp; omega))
             | (refine congrArg (fun z => AV.sc (Value.bool z)) ?_; first | rfl | assumption | (simp; done))
             | (refine congrArg (fun z => AV.ref _ 0 z) ?_; first | rfl | omega | (simp; done) | (simp; omega))
             | (show AV.ref _ 0 _ = AV.ref _ 0 _; congr 1; (simp; done))
             | refine And.intro ?_ ?_)
         (by
           repeat' first
             | exact trivial
             | rfl
             | decide
             | exact ⟨_, rfl, rfl, rfl⟩
             | exact ok_flat flat1
             | (refine ok_flat ?_; repeat' first | exact flatSc | exact allNil | exact flatR _ | exact flatE _ | exact flat1R _ | exact flat1E _ | refine allCons ?_ ?_ | refine allApp ?_ ?_)
             | (refine ⟨_, rfl, rfl, Eq.trans ?_ (ren_still ?_ _)⟩; (first | rfl | (simp; done) | (simp; rfl) | (simp only [List.map_append, List.map_cons, List.map_nil, List.cons_append]; rfl)); (repeat' first | exact stillSc | exact allNil | exact stillR _ | exact stillE _ | exact still1R _ | exact still1E _ | refine allCons ?_ ?_ | refine allApp ?_ ?_))
             | refine And.intro ?_ ?_)
    | false =>
      refine run_to tm 200 [.br true] rfl (by
         repeat' first
           | exact trivial
           | refine And.intro ?_ ?_
           | exact fun h => h
           | rfl
           | assumption
           | (rw [bad_ev, hv]; rfl; done)
           | (intros; rw [bad_ev, hv]; rfl; done)
           | (intro a; rw [a]; done)
           | (intro a; rw [a]; rfl)
           | (intro a b; rw [a, b]; done)
           | (intro a b; rw [a, b]; rfl)
           | exact wrap_i64 (by omega) (by omega)
           | (intros; exact wrap_i64 (by omega) (by omega))
           | (exact decide_eq_true (by omega))
           | (exact decide_eq_false (by omega))
           | exact ix_map (List.getElem?_eq_getElem (by omega))
           | (simp only [List.length_map]; omega)
           | (intros; omega)
           | (refine Nat.le_trans (Nat.mul_le_mul_right _ (show _ ≤ 5000 by simp; omega)) (by decide))
           | (refine Nat.le_trans (Nat.mul_le_mul_right _ (show _ ≤ 5000 by simp)) (by decide))
           | (unfold maxLen; simp; omega)
           | (unfold maxLen; simp; done)
           | (intro e he; rw [List.mem_singleton.1 he]; rfl)
           | (simp; done)
           | (intros; simp_all; done)) ?_
      refine SemK.weakTo [] (h2 (by rw [hd, List.all_cons, hv]; rfl)) rfl
         (by
           repeat' first
             | exact trivial
             | rfl
             | exact .sc
             | exact .list
             | exact .nils
             | exact .ref (by decide)
             | exact .ptr (by decide)
             | assumption
             | (refine .fn ?_; intro a ha; simp at ha; subst ha; exact .ptr (by decide))
             | (refine congrArg (fun z => AV.sc (Value.int IntKind.i64 z)) ?_; first | rfl | omega | assumption | (simp; done) | (simp; omega))
             | (refine congrArg (fun z => AV.sc (Value.bool z)) ?_; first | rfl | assumption | (simp; done))
             | (refine congrArg (fun z => AV.ref _ 0 z) ?_; first | rfl | omega | (simp; done) | (simp; omega))
             | (show AV.ref _ 0 _ = AV.ref _ 0 _; congr 1; (simp; done))
             | refine And.intro ?_ ?_)
         (by
           repeat' first
             | exact trivial
             | rfl
             | decide
             | exact ⟨_, rfl, rfl, rfl⟩
             | exact ok_flat flat1
             | (refine ok_flat ?_; repeat' first | exact flatSc | exact allNil | exact flatR _ | exact flatE _ | exact flat1R _ | exact flat1E _ | refine allCons ?_ ?_ | refine allApp ?_ ?_)
             | (refine ⟨_, rfl, rfl, Eq.trans ?_ (ren_still ?_ _)⟩; (first | rfl | (simp; done) | (simp; rfl) | (simp only [List.map_append, List.map_cons, List.map_nil, List.cons_append]; rfl)); (repeat' first | exact stillSc | exact allNil | exact stillR _ | exact stillE _ | exact still1R _ | exact still1E _ | refine allCons ?_ ?_ | refine allApp ?_ ?_))
             | refine And.intro ?_ ?_)
theorem check_pure (l : List Ev) : Pure Try.prog 20 [encEs false l] (i64 (chk l)) := by
  refine Pure.sym tyTab_ok fn20 (nt := 55) rfl rfl ?_ (by intro a ha; simp at ha; subst ha; exact .list)
  by_cases h : 60 < l.length
  · refine run_to tm 100 [.br true] rfl (by
     repeat' first
       | exact trivial
       | refine And.intro ?_ ?_
       | exact fun h => h
       | rfl
       | assumption
       | exact (decide_eq_true (by simp; omega))
       | (intros; exact (decide_eq_true (by simp; omega)))
       | (intro a; rw [a]; done)
       | (intro a; rw [a]; rfl)
       | (intro a b; rw [a, b]; done)
       | (intro a b; rw [a, b]; rfl)
       | exact wrap_i64 (by omega) (by omega)
       | (intros; exact wrap_i64 (by omega) (by omega))
       | (exact decide_eq_true (by omega))
       | (exact decide_eq_false (by omega))
       | exact ix_map (List.getElem?_eq_getElem (by omega))
       | (simp only [List.length_map]; omega)
       | (intros; omega)
       | (refine Nat.le_trans (Nat.mul_le_mul_right _ (show _ ≤ 5000 by simp; omega)) (by decide))
       | (refine Nat.le_trans (Nat.mul_le_mul_right _ (show _ ≤ 5000 by simp)) (by decide))
       | (unfold maxLen; simp; omega)
       | (unfold maxLen; simp; done)
       | (intro e he; rw [List.mem_singleton.1 he]; rfl)
       | (simp; done)
       | (intros; simp_all; done)) ?_
    refine fin_ret rfl ?_
    rw [show chk l = 4 by simp [chk, h]]; exact .sc
  · refine run_to tm 100 [.br false] rfl (by
     repeat' first
       | exact trivial
       | refine And.intro ?_ ?_
       | exact fun h => h
       | rfl
       | assumption
       | exact (decide_eq_false (by simp; omega))
       | (intros; exact (decide_eq_false (by simp; omega)))
       | (intro a; rw [a]; done)
       | (intro a; rw [a]; rfl)
       | (intro a b; rw [a, b]; done)
       | (intro a b; rw [a, b]; rfl)
       | exact wrap_i64 (by omega) (by omega)
       | (intros; exact wrap_i64 (by omega) (by omega))
       | (exact decide_eq_true (by omega))
       | (exact decide_eq_false (by omega))
       | exact ix_map (List.getElem?_eq_getElem (by omega))
       | (simp only [List.length_map]; omega)
       | (intros; omega)
       | (refine Nat.le_trans (Nat.mul_le_mul_right _ (show _ ≤ 5000 by simp; omega)) (by decide))
       | (refine Nat.le_trans (Nat.mul_le_mul_right _ (show _ ≤ 5000 by simp)) (by decide))
       | (unfold maxLen; simp; omega)
       | (unfold maxLen; simp; done)
       | (intro e he; rw [List.mem_singleton.1 he]; rfl)
       | (simp; done)
       | (intros; simp_all; done)) ?_
    refine SemK.weakTo [] (SemK.cut (check_loop l (by omega) l.length 0 (by omega) ?_ ?_)) rfl
       (by
         repeat' first
           | exact trivial
           | rfl
           | exact .sc
           | exact .list
           | exact .nils
           | exact .ref (by decide)
           | exact .ptr (by decide)
           | assumption
           | (refine .fn ?_; intro a ha; simp at ha; subst ha; exact .ptr (by decide))
           | (refine congrArg (fun z => AV.sc (Value.int IntKind.i64 z)) ?_; first | rfl | omega | assumption | (simp; done) | (simp; omega))
           | (refine congrArg (fun z => AV.sc (Value.bool z)) ?_; first | rfl | assumption | (simp; done))
           | (refine congrArg (fun z => AV.ref _ 0 z) ?_; first | rfl | omega | (simp; done) | (simp; omega))
           | (show AV.ref _ 0 _ = AV.ref _ 0 _; congr 1; (simp; done))
           | refine And.intro ?_ ?_)
       (by
         repeat' first
           | exact trivial
           | rfl
           | decide
           | exact ⟨_, rfl, rfl, rfl⟩
           | exact ok_flat flat1
           | (refine ok_flat ?_; repeat' first | exact flatSc | exact allNil | exact flatR _ | exact flatE _ | exact flat1R _ | exact flat1E _ | refine allCons ?_ ?_ | refine allApp ?_ ?_)
           | (refine ⟨_, rfl, rfl, Eq.trans ?_ (ren_still ?_ _)⟩; (first | rfl | (simp; done) | (simp; rfl) | (simp only [List.map_append, List.map_cons, List.map_nil, List.cons_append]; rfl)); (repeat' first | exact stillSc | exact allNil | exact stillR _ | exact stillE _ | exact still1R _ | exact still1E _ | refine allCons ?_ ?_ | refine allApp ?_ ?_))
           | refine And.intro ?_ ?_)
    · intro hv
      refine SemK.glue ?_
      refine run_to tm 100 [] rfl (by
         repeat' first
           | exact trivial
           | refine And.intro ?_ ?_
           | exact fun h => h
           | rfl
           | assumption
           | (intro a; rw [a]; done)
           | (intro a; rw [a]; rfl)
           | (intro a b; rw [a, b]; done)
           | (intro a b; rw [a, b]; rfl)
           | exact wrap_i64 (by omega) (by omega)
           | (intros; exact wrap_i64 (by omega) (by omega))
           | (exact decide_eq_true (by omega))
           | (exact decide_eq_false (by omega))
           | exact ix_map (List.getElem?_eq_getElem (by omega))
           | (simp only [List.length_map]; omega)
           | (intros; omega)
           | (refine Nat.le_trans (Nat.mul_le_mul_right _ (show _ ≤ 5000 by simp; omega)) (by decide))
           | (refine Nat.le_trans (Nat.mul_le_mul_right _ (show _ ≤ 5000 by simp)) (by decide))
           | (unfold maxLen; simp; omega)
           | (unfold maxLen; simp; done)
           | (intro e he; rw [List.mem_singleton.1 he]; rfl)
           | (simp; done)
           | (intros; simp_all; done)) ?_
      refine fin_ret rfl ?_
      rw [show chk l = 0 by simp only [List.drop_zero] at hv; simp [chk, h, hv]]; exact .sc
    · intro hv
      refine SemK.glue ?_
      refine run_to tm 100 [] rfl (by
         repeat' first
           | exact trivial
           | refine And.intro ?_ ?_
           | exact fun h => h
           | rfl
           | assumption
           | (intro a; rw [a]; done)
           | (intro a; rw [a]; rfl)
           | (intro a b; rw [a, b]; done)
           | (intro a b; rw [a, b]; rfl)
           | exact wrap_i64 (by omega) (by omega)
           | (intros; exact wrap_i64 (by omega) (by omega))
           | (exact decide_eq_true (by omega))
           | (exact decide_eq_false (by omega))
           | exact ix_map (List.getElem?_eq_getElem (by omega))
           | (simp only [List.length_map]; omega)
           | (intros; omega)
           | (refine Nat.le_trans (Nat.mul_le_mul_right _ (show _ ≤ 5000 by simp; omega)) (by decide))
           | (refine Nat.le_trans (Nat.mul_le_mul_right _ (show _ ≤ 5000 by simp)) (by decide))
           | (unfold maxLen; simp; omega)
           | (unfold maxLen; simp; done)
           | (intro e he; rw [List.mem_singleton.1 he]; rfl)
           | (simp; done)
           | (intros; simp_all; done)) ?_
      refine fin_ret rfl ?_
      rw [show chk l = 8 by simp only [List.drop_zero] at hv; simp [chk, h, hv]]; exact .sc

theorem fn36 : FnOk Try.prog 36 Try.f36 (bodyOf Try.f36) := ⟨Try.func36, by kernel_rfl, rfl⟩
theorem fn26 : FnOk Try.prog 26 Try.f26 (bodyOf Try.f26) := ⟨Try.func26, by kernel_rfl, rfl⟩
theorem fn21 : FnOk Try.prog 21 Try.f21 (bodyOf Try.f21) := ⟨Try.func21, by kernel_rfl, rfl⟩
theorem c13_pure (t : Int) : Pure Try.prog 36 [i64 t, i64 1] (i64 (if isTime t then 0 else 16)) := by
  refine Pure.sym tyTab_ok fn36 (nt := 17) rfl rfl ?_ (by intro a ha; simp at ha; rcases ha with rfl | rfl <;> exact .sc)
  cases h : isTime t with
  | true =>
    have h' := h
    unfold isTime at h'
    simp only [Bool.and_eq_true, decide_eq_true_eq] at h'
    refine run_to tm 100 [.br false, .br false] rfl (by
       repeat' first
         | exact trivial
         | refine And.intro ?_ ?_
         | exact fun h => h
         | rfl
         | assumption
         | (simp; omega; done)
         | (intros; simp; omega; done)
         | (intro a; rw [a]; done)
         | (intro a; rw [a]; rfl)
         | (intro a b; rw [a, b]; done)
         | (intro a b; rw [a, b]; rfl)
         | exact wrap_i64 (by omega) (by omega)
         | (intros; exact wrap_i64 (by omega) (by omega))
         | (exact decide_eq_true (by omega))
         | (exact decide_eq_false (by omega))
         | exact ix_map (List.getElem?_eq_getElem (by omega))
         | (simp only [List.length_map]; omega)
         | (intros; omega)
         | (refine Nat.le_trans (Nat.mul_le_mul_right _ (show _ ≤ 5000 by simp; omega)) (by decide))
         | (refine Nat.le_trans (Nat.mul_le_mul_right _ (show _ ≤ 5000 by simp)) (by decide))
         | (unfold maxLen; simp; omega)
         | (unfold maxLen; simp; done)
         | (intro e he; rw [List.mem_singleton.1 he]; rfl)
         | (simp; done)
         | (intros; simp_all; done)) ?_
    refine fin_ret rfl ?_
    exact .sc
  | false =>
    have h' := h
    unfold isTime at h'
    simp only [Bool.and_eq_false_iff, decide_eq_false_iff_not] at h'
    refine run_to tm 100 [.br false, .br true] rfl (by
       repeat' first
         | exact trivial
         | refine And.intro ?_ ?_
         | exact fun h => h
         | rfl
         | assumption
         | (simp; omega; done)
         | (intros; simp; omega; done)
         | (intro a; rw [a]; done)
         | (intro a; rw [a]; rfl)
         | (intro a b; rw [a, b]; done)
         | (intro a b; rw [a, b]; rfl)
         | exact wrap_i64 (by omega) (by omega)
         | (intros; exact wrap_i64 (by omega) (by omega))
         | (exact decide_eq_true (by omega))
         | (exact decide_eq_false (by omega))
         | exact ix_map (List.getElem?_eq_getElem (by omega))
         | (simp only [List.length_map]; omega)
         | (intros; omega)
         | (refine Nat.le_trans (Nat.mul_le_mul_right _ (show _ ≤ 5000 by simp; omega)) (by decide))
         | (refine Nat.le_trans (Nat.mul_le_mul_right _ (show _ ≤ 5000 by simp)) (by decide))
         | (unfold maxLen; simp; omega)
         | (unfold maxLen; simp; done)
         | (intro e he; rw [List.mem_singleton.1 he]; rfl)
         | (simp; done)
         | (intros; simp_all; done)) ?_
    refine fin_ret rfl ?_
    exact .sc
theorem valid_pure (x : Ev) : Pure Try.prog 26 [encE x] (bo (okEv x)) := by
  refine Pure.sym tyTab_ok fn26 (nt := 30) rfl rfl ?_ (by intro a ha; simp at ha; subst ha; exact okE x _)
  have hc : ∀ t, ((if isTime t = true then (0 : Int) else 16) == 0) = isTime t := fun t => by cases isTime t <;> rfl
  cases hm : x.mark with
  | true =>
    refine run_to tm 100 [.br true, .pure [i64 x.time, i64 1] (i64 (if isTime x.time then 0 else 16))] rfl (by
       repeat' first
         | exact trivial
         | refine And.intro ?_ ?_
         | exact fun h => h
         | rfl
         | assumption
         | exact (PureCall.none (c13_pure _) (Cvs.cons .sc (Cvs.cons .sc .nil)))
         | (intros; exact (PureCall.none (c13_pure _) (Cvs.cons .sc (Cvs.cons .sc .nil))))
         | (intro a; rw [a]; done)
         | (intro a; rw [a]; rfl)
         | (intro a b; rw [a, b]; done)
         | (intro a b; rw [a, b]; rfl)
         | exact wrap_i64 (by omega) (by omega)
         | (intros; exact wrap_i64 (by omega) (by omega))
         | (exact decide_eq_true (by omega))
         | (exact decide_eq_false (by omega))
         | exact ix_map (List.getElem?_eq_getElem (by omega))
         | (simp only [List.length_map]; omega)
         | (intros; omega)
         | (refine Nat.le_trans (Nat.mul_le_mul_right _ (show _ ≤ 5000 by simp; omega)) (by decide))
         | (refine Nat.le_trans (Nat.mul_le_mul_right _ (show _ ≤ 5000 by simp)) (by decide))
         | (unfold maxLen; simp; omega)
         | (unfold maxLen; simp; done)
         | (intro e he; rw [List.mem_singleton.1 he]; rfl)
         | (simp; done)
         | (intros; simp_all; done)) ?_
    refine fin_ret rfl (cv_bo ?_)
    rw [hc]
    unfold okEv R3.zero final
    rw [hm, if_pos rfl]
    generalize (x.r.key == 0) = b2
    generalize (x.r.time == 0) = b3
    generalize (x.r.value == 0) = b4
    generalize isTime x.time = b5
    generalize (x.time == 9223372036854775807) = b6
    revert b2 b3 b4 b5 b6
    decide
  | false =>
    refine run_to tm 100 [.br false, .pure [i64 x.r.time, i64 1] (i64 (if isTime x.r.time then 0 else 16))] rfl (by
       repeat' first
         | exact trivial
         | refine And.intro ?_ ?_
         | exact fun h => h
         | rfl
         | assumption
         | exact (PureCall.none (c13_pure _) (Cvs.cons .sc (Cvs.cons .sc .nil)))
         | (intros; exact (PureCall.none (c13_pure _) (Cvs.cons .sc (Cvs.cons .sc .nil))))
         | (intro a; rw [a]; done)
         | (intro a; rw [a]; rfl)
         | (intro a b; rw [a, b]; done)
         | (intro a b; rw [a, b]; rfl)
         | exact wrap_i64 (by omega) (by omega)
         | (intros; exact wrap_i64 (by omega) (by omega))
         | (exact decide_eq_true (by omega))
         | (exact decide_eq_false (by omega))
         | exact ix_map (List.getElem?_eq_getElem (by omega))
         | (simp only [List.length_map]; omega)
         | (intros; omega)
         | (refine Nat.le_trans (Nat.mul_le_mul_right _ (show _ ≤ 5000 by simp; omega)) (by decide))
         | (refine Nat.le_trans (Nat.mul_le_mul_right _ (show _ ≤ 5000 by simp)) (by decide))
         | (unfold maxLen; simp; omega)
         | (unfold maxLen; simp; done)
         | (intro e he; rw [List.mem_singleton.1 he]; rfl)
         | (simp; done)
         | (intros; simp_all; done)) ?_
    refine fin_ret rfl (cv_bo ?_)
    rw [hc]
    unfold okEv R3.zero final
    rw [hm, if_neg (by simp)]
    generalize (x.time == 0) = b2
    generalize isTime x.r.time = b5
    revert b2 b5
    decide

theorem rcheck_loop {Q : AExit → St → Mu → Prop} {μ : Mu} (l : List Ev) (hl : l.length ≤ 60) : ∀ (j k : Nat), k + j = l.length →
    ((l.drop k).all okEv = true → SemK Try.prog 19 0 Q (.exit (.exit 0)) [] ⟨fr [(2, i64 0)], hp [], 0⟩ μ) →
    ((l.drop k).all okEv = false → SemK Try.prog 19 0 Q (.exit .ret) [] ⟨fr [(2, i64 8)], hp [], 0⟩ μ) →
    SemK Try.prog 19 0 Q (.loop (loopB 0 (bodyOf Try.f21))) [] ⟨fr [(2, i64 0), (0, encEs false l), (3, i64 k)], hp [], 0⟩ μ := by
  intro j
  induction j with
  | zero =>
    intro k hk h1 h2
    refine SemK.round ?_
    refine run_to tm 200 [.br false] rfl (by
       repeat' first
         | exact trivial
         | refine And.intro ?_ ?_
         | exact fun h => h
         | rfl
         | assumption
         | exact (decide_eq_false (by simp; omega))
         | (intros; exact (decide_eq_false (by simp; omega)))
         | (intro a; rw [a]; done)
         | (intro a; rw [a]; rfl)
         | (intro a b; rw [a, b]; done)
         | (intro a b; rw [a, b]; rfl)
         | exact wrap_i64 (by omega) (by omega)
         | (intros; exact wrap_i64 (by omega) (by omega))
         | (exact decide_eq_true (by omega))
         | (exact decide_eq_false (by omega))
         | exact ix_map (List.getElem?_eq_getElem (by omega))
         | (simp only [List.length_map]; omega)
         | (intros; omega)
         | (refine Nat.le_trans (Nat.mul_le_mul_right _ (show _ ≤ 5000 by simp; omega)) (by decide))
         | (refine Nat.le_trans (Nat.mul_le_mul_right _ (show _ ≤ 5000 by simp)) (by decide))
         | (unfold maxLen; simp; omega)
         | (unfold maxLen; simp; done)
         | (intro e he; rw [List.mem_singleton.1 he]; rfl)
         | (simp; done)
         | (intros; simp_all; done)) ?_
    refine SemK.weakTo [] (h1 (by rw [List.drop_of_length_le (by omega)]; rfl)) rfl
       (by
         repeat' first
           | exact trivial
           | rfl
           | exact .sc
           | exact .list
           | exact .nils
           | exact .ref (by decide)
           | exact .ptr (by decide)
           | assumption
           | (refine .fn ?_; intro a ha; simp at ha; subst ha; exact .ptr (by decide))
           | (refine congrArg (fun z => AV.sc (Value.int IntKind.i64 z)) ?_; first | rfl | omega | assumption | (simp; done) | (simp; omega))
           | (refine congrArg (fun z => AV.sc (Value.bool z)) ?_; first | rfl | assumption | (simp; done))
           | (refine congrArg (fun z => AV.ref _ 0 z) ?_; first | rfl | omega | (simp; done) | (simp; omega))
           | (show AV.ref _ 0 _ = AV.ref _ 0 _; congr 1; (simp; done))
           | refine And.intro ?_ ?_)
       (by
         repeat' first
           | exact trivial
           | rfl
           | decide
           | exact ⟨_, rfl, rfl, rfl⟩
           | exact ok_flat flat1
           | (refine ok_flat ?_; repeat' first | exact flatSc | exact allNil | exact flatR _ | exact flatE _ | exact flat1R _ | exact flat1E _ | refine allCons ?_ ?_ | refine allApp ?_ ?_)
           | (refine ⟨_, rfl, rfl, Eq.trans ?_ (ren_still ?_ _)⟩; (first | rfl | (simp; done) | (simp; rfl) | (simp only [List.map_append, List.map_cons, List.map_nil, List.cons_append]; rfl)); (repeat' first | exact stillSc | exact allNil | exact stillR _ | exact stillE _ | exact still1R _ | exact still1E _ | refine allCons ?_ ?_ | refine allApp ?_ ?_))
           | refine And.intro ?_ ?_)
  | succ j ih =>
    intro k hk h1 h2
    have hk' : k < l.length := by omega
    have hd : l.drop k = l[k] :: l.drop (k + 1) := List.drop_eq_getElem_cons hk'
    refine SemK.round ?_
    refine run_to tm 200 [.br true, .el (encE l[k]), .pure [encE l[k]] (bo (okEv l[k]))] rfl
      (by
         repeat' first
           | exact trivial
           | refine And.intro ?_ ?_
           | exact fun h => h
           | rfl
           | assumption
           | exact (PureCall.none (valid_pure _) (Cvs.cons cvE .nil))
           | (intros; exact (PureCall.none (valid_pure _) (Cvs.cons cvE .nil)))
           | exact (decide_eq_true (by simp; omega))
           | (intros; exact (decide_eq_true (by simp; omega)))
           | (intro a; rw [a]; done)
           | (intro a; rw [a]; rfl)
           | (intro a b; rw [a, b]; done)
           | (intro a b; rw [a, b]; rfl)
           | exact wrap_i64 (by omega) (by omega)
           | (intros; exact wrap_i64 (by omega) (by omega))
           | (exact decide_eq_true (by omega))
           | (exact decide_eq_false (by omega))
           | exact ix_map (List.getElem?_eq_getElem (by omega))
           | (simp only [List.length_map]; omega)
           | (intros; omega)
           | (refine Nat.le_trans (Nat.mul_le_mul_right _ (show _ ≤ 5000 by simp; omega)) (by decide))
           | (refine Nat.le_trans (Nat.mul_le_mul_right _ (show _ ≤ 5000 by simp)) (by decide))
           | (unfold maxLen; simp; omega)
           | (unfold maxLen; simp; done)
           | (intro e he; rw [List.mem_singleton.1 he]; rfl)
           | (simp; done)
           | (intros; simp_all; done)) ?_
    generalize l[k] = x at *
    cases hv : okEv x with
    | true =>
      refine run_to tm 200 [.br false] rfl (by
         repeat' first
           | exact trivial
           | refine And.intro ?_ ?_
           | exact fun h => h
           | rfl
           | assumption
           | (intro a; rw [a]; done)
           | (intro a; rw [a]; rfl)
           | (intro a b; rw [a, b]; done)
           | (intro a b; rw [a, b]; rfl)
           | exact wrap_i64 (by omega) (by omega)
           | (intros; exact wrap_i64 (by omega) (by omega))
           | (exact decide_eq_true (by omega))
           | (exact decide_eq_false (by omega))
           | exact ix_map (List.getElem?_eq_getElem (by omega))
           | (simp only [List.length_map]; omega)
           | (intros; omega)
           | (refine Nat.le_trans (Nat.mul_le_mul_right _ (show _ ≤ 5000 by simp; omega)) (by decide))
           | (refine Nat.le_trans (Nat.mul_le_mul_right _ (show _ ≤ 5000 by simp)) (by decide))
           | (unfold maxLen; simp; omega)
           | (unfold maxLen; simp; done)
           | (intro e he; rw [List.mem_singleton.1 he]; rfl)
           | (simp; done)
           | (intros; simp_all; done)) ?_
      refine SemK.weakTo [] (ih (k + 1) (by omega) (fun h => h1 (by rw [hd, List.all_cons, hv, h]; rfl)) (fun h => h2 (by rw [hd, List.all_cons, hv, h]; rfl))) rfl
         (by
           repeat' first
             | exact trivial
             | rfl
             | exact .sc
             | exact .list
             | exact .nils
             | exact .ref (by decide)
             | exact .ptr (by decide)
             | assumption
             | (refine .fn ?_; intro a ha; simp at ha; subst ha; exact .ptr (by decide))
             | (refine congrArg (fun z => AV.sc (Value.int IntKind.i64 z)) ?_; first | rfl | omega | assumption | (simp; done) | (simp; omega))
             | (refine congrArg (fun z => AV.sc (Value.bool z)) ?_; first | rfl | assumption | (simp; done))
             | (refine congrArg (fun z => AV.ref _ 0 z) ?_; first | rfl | omega | (simp; done) | (simp; omega))
             | (show AV.ref _ 0 _ = AV.ref _ 0 _; congr 1; (simp; done))
             | refine And.intro ?_ ?_)
         (by
           repeat' first
             | exact trivial
             | rfl
             | decide
             | exact ⟨_, rfl, rfl, rfl⟩
             | exact ok_flat flat1
             | (refine ok_flat ?_; repeat' first | exact flatSc | exact allNil | exact flatR _ | exact flatE _ | exact flat1R _ | exact flat1E _ | refine allCons ?_ ?_ | refine allApp ?_ ?_)
             | (refine ⟨_, rfl, rfl, Eq.trans ?_ (ren_still ?_ _)⟩; (first | rfl | (simp; done) | (simp; rfl) | (simp only [List.map_append, List.map_cons, List.map_nil, List.cons_append]; rfl)); (repeat' first | exact stillSc | exact allNil | exact stillR _ | exact stillE _ | exact still1R _ | exact still1E _ | refine allCons ?_ ?_ | refine allApp ?_ ?_))
             | refine And.intro ?_ ?_)
    | false =>
      refine run_to tm 200 [.br true] rfl (by
         repeat' first
           | exact trivial
           | refine And.intro ?_ ?_
           | exact fun h => h
           | rfl
           | assumption
           | (intro a; rw [a]; done)
           | (intro a; rw [a]; rfl)
           | (intro a b; rw [a, b]; done)
           | (intro a b; rw [a, b]; rfl)
           | exact wrap_i64 (by omega) (by omega)
           | (intros; exact wrap_i64 (by omega) (by omega))
           | (exact decide_eq_true (by omega))
           | (exact decide_eq_false (by omega))
           | exact ix_map (List.getElem?_eq_getElem (by omega))
           | (simp only [List.length_map]; omega)
           | (intros; omega)
           | (refine Nat.le_trans (Nat.mul_le_mul_right _ (show _ ≤ 5000 by simp; omega)) (by decide))
           | (refine Nat.le_trans (Nat.mul_le_mul_right _ (show _ ≤ 5000 by simp)) (by decide))
           | (unfold maxLen; simp; omega)
           | (unfold maxLen; simp; done)
           | (intro e he; rw [List.mem_singleton.1 he]; rfl)
           | (simp; done)
           | (intros; simp_all; done)) ?_
      refine SemK.weakTo [] (h2 (by rw [hd, List.all_cons, hv]; rfl)) rfl
         (by
           repeat' first
             | exact trivial
             | rfl
             | exact .sc
             | exact .list
             | exact .nils
             | exact .ref (by decide)
             | exact .ptr (by decide)
             | assumption
             | (refine .fn ?_; intro a ha; simp at ha; subst ha; exact .ptr (by decide))
             | (refine congrArg (fun z => AV.sc (Value.int IntKind.i64 z)) ?_; first | rfl | omega | assumption | (simp; done) | (simp; omega))
             | (refine congrArg (fun z => AV.sc (Value.bool z)) ?_; first | rfl | assumption | (simp; done))
             | (refine congrArg (fun z => AV.ref _ 0 z) ?_; first | rfl | omega | (simp; done) | (simp; omega))
             | (show AV.ref _ 0 _ = AV.ref _ 0 _; congr 1; (simp; done))
             | refine And.intro ?_ ?_)
         (by
           repeat' first
             | exact trivial
             | rfl
             | decide
             | exact ⟨_, rfl, rfl, rfl⟩
             | exact ok_flat flat1
             | (refine ok_flat ?_; repeat' first | exact flatSc | exact allNil | exact flatR _ | exact flatE _ | exact flat1R _ | exact flat1E _ | refine allCons ?_ ?_ | refine allApp ?_ ?_)
             | (refine ⟨_, rfl, rfl, Eq.trans ?_ (ren_still ?_ _)⟩; (first | rfl | (simp; done) | (simp; rfl) | (simp only [List.map_append, List.map_cons, List.map_nil, List.cons_append]; rfl)); (repeat' first | exact stillSc | exact allNil | exact stillR _ | exact stillE _ | exact still1R _ | exact still1E _ | refine allCons ?_ ?_ | refine allApp ?_ ?_))
             | refine And.intro ?_ ?_)

theorem rcheck_pure (l : List Ev) : Pure Try.prog 21 [encEs false l] (i64 (chk l)) := by
  refine Pure.sym tyTab_ok fn21 (nt := 19) rfl rfl ?_ (by intro a ha; simp at ha; subst ha; exact .list)
  by_cases h : 60 < l.length
  · refine run_to tm 100 [.br true] rfl (by
     repeat' first
       | exact trivial
       | refine And.intro ?_ ?_
       | exact fun h => h
       | rfl
       | assumption
       | exact (decide_eq_true (by simp; omega))
       | (intros; exact (decide_eq_true (by simp; omega)))
       | (intro a; rw [a]; done)
       | (intro a; rw [a]; rfl)
       | (intro a b; rw [a, b]; done)
       | (intro a b; rw [a, b]; rfl)
       | exact wrap_i64 (by omega) (by omega)
       | (intros; exact wrap_i64 (by omega) (by omega))
       | (exact decide_eq_true (by omega))
       | (exact decide_eq_false (by omega))
       | exact ix_map (List.getElem?_eq_getElem (by omega))
       | (simp only [List.length_map]; omega)
       | (intros; omega)
       | (refine Nat.le_trans (Nat.mul_le_mul_right _ (show _ ≤ 5000 by simp; omega)) (by decide))
       | (refine Nat.le_trans (Nat.mul_le_mul_right _ (show _ ≤ 5000 by simp)) (by decide))
       | (unfold maxLen; simp; omega)
       | (unfold maxLen; simp; done)
       | (intro e he; rw [List.mem_singleton.1 he]; rfl)
       | (simp; done)
       | (intros; simp_all; done)) ?_
    refine fin_ret rfl ?_
    rw [show chk l = 4 by simp [chk, h]]; exact .sc
  · refine run_to tm 100 [.br false] rfl (by
     repeat' first
       | exact trivial
       | refine And.intro ?_ ?_
       | exact fun h => h
       | rfl
       | assumption
       | exact (decide_eq_false (by simp; omega))
       | (intros; exact (decide_eq_false (by simp; omega)))
       | (intro a; rw [a]; done)
       | (intro a; rw [a]; rfl)
       | (intro a b; rw [a, b]; done)
       | (intro a b; rw [a, b]; rfl)
       | exact wrap_i64 (by omega) (by omega)
       | (intros; exact wrap_i64 (by omega) (by omega))
       | (exact decide_eq_true (by omega))
       | (exact decide_eq_false (by omega))
       | exact ix_map (List.getElem?_eq_getElem (by omega))
       | (simp only [List.length_map]; omega)
       | (intros; omega)
       | (refine Nat.le_trans (Nat.mul_le_mul_right _ (show _ ≤ 5000 by simp; omega)) (by decide))
       | (refine Nat.le_trans (Nat.mul_le_mul_right _ (show _ ≤ 5000 by simp)) (by decide))
       | (unfold maxLen; simp; omega)
       | (unfold maxLen; simp; done)
       | (intro e he; rw [List.mem_singleton.1 he]; rfl)
       | (simp; done)
       | (intros; simp_all; done)) ?_
    refine SemK.weakTo [] (SemK.cut (rcheck_loop l (by omega) l.length 0 (by omega) ?_ ?_)) rfl
       (by
         repeat' first
           | exact trivial
           | rfl
           | exact .sc
           | exact .list
           | exact .nils
           | exact .ref (by decide)
           | exact .ptr (by decide)
           | assumption
           | (refine .fn ?_; intro a ha; simp at ha; subst ha; exact .ptr (by decide))
           | (refine congrArg (fun z => AV.sc (Value.int IntKind.i64 z)) ?_; first | rfl | omega | assumption | (simp; done) | (simp; omega))
           | (refine congrArg (fun z => AV.sc (Value.bool z)) ?_; first | rfl | assumption | (simp; done))
           | (refine congrArg (fun z => AV.ref _ 0 z) ?_; first | rfl | omega | (simp; done) | (simp; omega))
           | (show AV.ref _ 0 _ = AV.ref _ 0 _; congr 1; (simp; done))
           | refine And.intro ?_ ?_)
       (by
         repeat' first
           | exact trivial
           | rfl
           | decide
           | exact ⟨_, rfl, rfl, rfl⟩
           | exact ok_flat flat1
           | (refine ok_flat ?_; repeat' first | exact flatSc | exact allNil | exact flatR _ | exact flatE _ | exact flat1R _ | exact flat1E _ | refine allCons ?_ ?_ | refine allApp ?_ ?_)
           | (refine ⟨_, rfl, rfl, Eq.trans ?_ (ren_still ?_ _)⟩; (first | rfl | (simp; done) | (simp; rfl) | (simp only [List.map_append, List.map_cons, List.map_nil, List.cons_append]; rfl)); (repeat' first | exact stillSc | exact allNil | exact stillR _ | exact stillE _ | exact still1R _ | exact still1E _ | refine allCons ?_ ?_ | refine allApp ?_ ?_))
           | refine And.intro ?_ ?_)
    · intro hv
      refine SemK.glue ?_
      refine run_to tm 100 [] rfl (by
         repeat' first
           | exact trivial
           | refine And.intro ?_ ?_
           | exact fun h => h
           | rfl
           | assumption
           | (intro a; rw [a]; done)
           | (intro a; rw [a]; rfl)
           | (intro a b; rw [a, b]; done)
           | (intro a b; rw [a, b]; rfl)
           | exact wrap_i64 (by omega) (by omega)
           | (intros; exact wrap_i64 (by omega) (by omega))
           | (exact decide_eq_true (by omega))
           | (exact decide_eq_false (by omega))
           | exact ix_map (List.getElem?_eq_getElem (by omega))
           | (simp only [List.length_map]; omega)
           | (intros; omega)
           | (refine Nat.le_trans (Nat.mul_le_mul_right _ (show _ ≤ 5000 by simp; omega)) (by decide))
           | (refine Nat.le_trans (Nat.mul_le_mul_right _ (show _ ≤ 5000 by simp)) (by decide))
           | (unfold maxLen; simp; omega)
           | (unfold maxLen; simp; done)
           | (intro e he; rw [List.mem_singleton.1 he]; rfl)
           | (simp; done)
           | (intros; simp_all; done)) ?_
      refine fin_ret rfl ?_
      rw [show chk l = 0 by simp only [List.drop_zero] at hv; simp [chk, h, hv]]; exact .sc
    · intro hv
      refine SemK.glue ?_
      refine run_to tm 100 [] rfl (by
         repeat' first
           | exact trivial
           | refine And.intro ?_ ?_
           | exact fun h => h
           | rfl
           | assumption
           | (intro a; rw [a]; done)
           | (intro a; rw [a]; rfl)
           | (intro a b; rw [a, b]; done)
           | (intro a b; rw [a, b]; rfl)
           | exact wrap_i64 (by omega) (by omega)
           | (intros; exact wrap_i64 (by omega) (by omega))
           | (exact decide_eq_true (by omega))
           | (exact decide_eq_false (by omega))
           | exact ix_map (List.getElem?_eq_getElem (by omega))
           | (simp only [List.length_map]; omega)
           | (intros; omega)
           | (refine Nat.le_trans (Nat.mul_le_mul_right _ (show _ ≤ 5000 by simp; omega)) (by decide))
           | (refine Nat.le_trans (Nat.mul_le_mul_right _ (show _ ≤ 5000 by simp)) (by decide))
           | (unfold maxLen; simp; omega)
           | (unfold maxLen; simp; done)
           | (intro e he; rw [List.mem_singleton.1 he]; rfl)
           | (simp; done)
           | (intros; simp_all; done)) ?_
      refine fin_ret rfl ?_
      rw [show chk l = 8 by simp only [List.drop_zero] at hv; simp [chk, h, hv]]; exact .sc

theorem fn33 : FnOk Try.prog 33 Try.f33 (bodyOf Try.f33) := ⟨Try.func33, by kernel_rfl, rfl⟩
theorem off_ev {x : Ev} {m : Int} (h : ¬ (x.mark = true ∧ x.time > m)) : (bif x.mark then decide (x.time > m) else false) = false := by
  cases hm : x.mark with
  | false => rfl
  | true => exact decide_eq_false fun h' => h ⟨hm, h'⟩
theorem on_ev {x : Ev} {m : Int} (h : x.mark = true ∧ x.time > m) : (bif x.mark then decide (x.time > m) else false) = true := by
  rw [h.1]; exact decide_eq_true h.2

theorem mstep_off {x : Ev} {m : Int} (h : ¬ (x.mark = true ∧ x.time > m)) : mstep m x = m := by
  unfold mstep
  by_cases hm : x.mark = true
  · rw [if_pos hm, if_neg fun h' => h ⟨hm, h'⟩]
  · rw [if_neg hm]

theorem of_loop {Q : AExit → St → Mu → Prop} {μ : Mu} (l : List Ev) (hl : l.length ≤ maxLen) : ∀ (j k : Nat) (m : Int), k + j = l.length →
    (SemK Try.prog 31 0 Q (.exit (.exit 0)) [] ⟨fr [(3, i64 (markF m (l.drop k)))], hp [], 0⟩ μ) →
    SemK Try.prog 31 0 Q (.loop (loopB 0 (bodyOf Try.f33))) [] ⟨fr [(0, encEs false l), (3, i64 m), (4, i64 k)], hp [], 0⟩ μ := by
  unfold maxLen at hl
  intro j
  induction j with
  | zero =>
    intro k m hk h1
    refine SemK.round ?_
    refine run_to tm 200 [.br false] rfl (by
       repeat' first
         | exact trivial
         | refine And.intro ?_ ?_
         | exact fun h => h
         | rfl
         | assumption
         | exact (decide_eq_false (by simp; omega))
         | (intros; exact (decide_eq_false (by simp; omega)))
         | (intro a; rw [a]; done)
         | (intro a; rw [a]; rfl)
         | (intro a b; rw [a, b]; done)
         | (intro a b; rw [a, b]; rfl)
         | exact wrap_i64 (by omega) (by omega)
         | (intros; exact wrap_i64 (by omega) (by omega))
         | (exact decide_eq_true (by omega))
         | (exact decide_eq_false (by omega))
         | exact ix_map (List.getElem?_eq_getElem (by omega))
         | (simp only [List.length_map]; omega)
         | (intros; omega)
         | (refine Nat.le_trans (Nat.mul_le_mul_right _ (show _ ≤ 5000 by simp; omega)) (by decide))
         | (refine Nat.le_trans (Nat.mul_le_mul_right _ (show _ ≤ 5000 by simp)) (by decide))
         | (unfold maxLen; simp; omega)
         | (unfold maxLen; simp; done)
         | (intro e he; rw [List.mem_singleton.1 he]; rfl)
         | (simp; done)
         | (intros; simp_all; done)) ?_
    rw [List.drop_of_length_le (by omega)] at h1
    refine SemK.weakTo [] (h1) rfl
       (by
         repeat' first
           | exact trivial
           | rfl
           | exact .sc
           | exact .list
           | exact .nils
           | exact .ref (by decide)
           | exact .ptr (by decide)
           | assumption
           | (refine .fn ?_; intro a ha; simp at ha; subst ha; exact .ptr (by decide))
           | (refine congrArg (fun z => AV.sc (Value.int IntKind.i64 z)) ?_; first | rfl | omega | assumption | (simp; done) | (simp; omega))
           | (refine congrArg (fun z => AV.sc (Value.bool z)) ?_; first | rfl | assumption | (simp; done))
           | (refine congrArg (fun z => AV.ref _ 0 z) ?_; first | rfl | omega | (simp; done) | (simp; omega))
           | (show AV.ref _ 0 _ = AV.ref _ 0 _; congr 1; (simp; done))
           | refine And.intro ?_ ?_)
       (by
         repeat' first
           | exact trivial
           | rfl
           | decide
           | exact ⟨_, rfl, rfl, rfl⟩
           | exact ok_flat flat1
           | (refine ok_flat ?_; repeat' first | exact flatSc | exact allNil | exact flatR _ | exact flatE _ | exact flat1R _ | exact flat1E _ | refine allCons ?_ ?_ | refine allApp ?_ ?_)
           | (refine ⟨_, rfl, rfl, Eq.trans ?_ (ren_still ?_ _)⟩; (first | rfl | (simp; done) | (simp; rfl) | (simp only [List.map_append, List.map_cons, List.map_nil, List.cons_append]; rfl)); (repeat' first | exact stillSc | exact allNil | exact stillR _ | exact stillE _ | exact still1R _ | exact still1E _ | refine allCons ?_ ?_ | refine allApp ?_ ?_))
           | refine And.intro ?_ ?_)
  | succ j ih =>
    intro k m hk h1
    have hk' : k < l.length := by omega
    have hd : l.drop k = l[k] :: l.drop (k + 1) := List.drop_eq_getElem_cons hk'
    rw [hd] at h1
    have hs : markF m (l[k] :: l.drop (k + 1)) = markF (mstep m l[k]) (l.drop (k + 1)) := rfl
    rw [hs] at h1
    refine SemK.round ?_
    refine run_to tm 200 [.br true, .el (encE l[k]), .el (encE l[k])] rfl (by
       repeat' first
         | exact trivial
         | refine And.intro ?_ ?_
         | exact fun h => h
         | rfl
         | assumption
         | exact (getE l k hk')
         | (intros; exact (getE l k hk'))
         | exact (decide_eq_true (by simp; omega))
         | (intros; exact (decide_eq_true (by simp; omega)))
         | (intro a; rw [a]; done)
         | (intro a; rw [a]; rfl)
         | (intro a b; rw [a, b]; done)
         | (intro a b; rw [a, b]; rfl)
         | exact wrap_i64 (by omega) (by omega)
         | (intros; exact wrap_i64 (by omega) (by omega))
         | (exact decide_eq_true (by omega))
         | (exact decide_eq_false (by omega))
         | exact ix_map (List.getElem?_eq_getElem (by omega))
         | (simp only [List.length_map]; omega)
         | (intros; omega)
         | (refine Nat.le_trans (Nat.mul_le_mul_right _ (show _ ≤ 5000 by simp; omega)) (by decide))
         | (refine Nat.le_trans (Nat.mul_le_mul_right _ (show _ ≤ 5000 by simp)) (by decide))
         | (unfold maxLen; simp; omega)
         | (unfold maxLen; simp; done)
         | (intro e he; rw [List.mem_singleton.1 he]; rfl)
         | (simp; done)
         | (intros; simp_all; done)) ?_
    have hg := getE l k hk'
    generalize l[k] = x at *
    by_cases hc : x.mark = true ∧ x.time > m
    · refine run_to tm 200 [.br true, .el (encE x)] rfl (by
       repeat' first
         | exact trivial
         | refine And.intro ?_ ?_
         | exact fun h => h
         | rfl
         | assumption
         | exact (on_ev hc)
         | (intros; exact (on_ev hc))
         | (intro a; rw [a]; done)
         | (intro a; rw [a]; rfl)
         | (intro a b; rw [a, b]; done)
         | (intro a b; rw [a, b]; rfl)
         | exact wrap_i64 (by omega) (by omega)
         | (intros; exact wrap_i64 (by omega) (by omega))
         | (exact decide_eq_true (by omega))
         | (exact decide_eq_false (by omega))
         | exact ix_map (List.getElem?_eq_getElem (by omega))
         | (simp only [List.length_map]; omega)
         | (intros; omega)
         | (refine Nat.le_trans (Nat.mul_le_mul_right _ (show _ ≤ 5000 by simp; omega)) (by decide))
         | (refine Nat.le_trans (Nat.mul_le_mul_right _ (show _ ≤ 5000 by simp)) (by decide))
         | (unfold maxLen; simp; omega)
         | (unfold maxLen; simp; done)
         | (intro e he; rw [List.mem_singleton.1 he]; rfl)
         | (simp; done)
         | (intros; simp_all; done)) ?_
      rw [show mstep m x = x.time by simp [mstep, hc.1, hc.2]] at h1
      refine SemK.weakTo [] (ih (k + 1) x.time (by omega) h1) rfl
         (by
           repeat' first
             | exact trivial
             | rfl
             | exact .sc
             | exact .list
             | exact .nils
             | exact .ref (by decide)
             | exact .ptr (by decide)
             | assumption
             | (refine .fn ?_; intro a ha; simp at ha; subst ha; exact .ptr (by decide))
             | (refine congrArg (fun z => AV.sc (Value.int IntKind.i64 z)) ?_; first | rfl | omega | assumption | (simp; done) | (simp; omega))
             | (refine congrArg (fun z => AV.sc (Value.bool z)) ?_; first | rfl | assumption | (simp; done))
             | (refine congrArg (fun z => AV.ref _ 0 z) ?_; first | rfl | omega | (simp; done) | (simp; omega))
             | (show AV.ref _ 0 _ = AV.ref _ 0 _; congr 1; (simp; done))
             | refine And.intro ?_ ?_)
         (by
           repeat' first
             | exact trivial
             | rfl
             | decide
             | exact ⟨_, rfl, rfl, rfl⟩
             | exact ok_flat flat1
             | (refine ok_flat ?_; repeat' first | exact flatSc | exact allNil | exact flatR _ | exact flatE _ | exact flat1R _ | exact flat1E _ | refine allCons ?_ ?_ | refine allApp ?_ ?_)
             | (refine ⟨_, rfl, rfl, Eq.trans ?_ (ren_still ?_ _)⟩; (first | rfl | (simp; done) | (simp; rfl) | (simp only [List.map_append, List.map_cons, List.map_nil, List.cons_append]; rfl)); (repeat' first | exact stillSc | exact allNil | exact stillR _ | exact stillE _ | exact still1R _ | exact still1E _ | refine allCons ?_ ?_ | refine allApp ?_ ?_))
             | refine And.intro ?_ ?_)
    · refine run_to tm 200 [.br false] rfl (by
       repeat' first
         | exact trivial
         | refine And.intro ?_ ?_
         | exact fun h => h
         | rfl
         | assumption
         | exact (off_ev hc)
         | (intros; exact (off_ev hc))
         | (intro a; rw [a]; done)
         | (intro a; rw [a]; rfl)
         | (intro a b; rw [a, b]; done)
         | (intro a b; rw [a, b]; rfl)
         | exact wrap_i64 (by omega) (by omega)
         | (intros; exact wrap_i64 (by omega) (by omega))
         | (exact decide_eq_true (by omega))
         | (exact decide_eq_false (by omega))
         | exact ix_map (List.getElem?_eq_getElem (by omega))
         | (simp only [List.length_map]; omega)
         | (intros; omega)
         | (refine Nat.le_trans (Nat.mul_le_mul_right _ (show _ ≤ 5000 by simp; omega)) (by decide))
         | (refine Nat.le_trans (Nat.mul_le_mul_right _ (show _ ≤ 5000 by simp)) (by decide))
         | (unfold maxLen; simp; omega)
         | (unfold maxLen; simp; done)
         | (intro e he; rw [List.mem_singleton.1 he]; rfl)
         | (simp; done)
         | (intros; simp_all; done)) ?_
      rw [mstep_off hc] at h1
      refine SemK.weakTo [] (ih (k + 1) m (by omega) h1) rfl
         (by
           repeat' first
             | exact trivial
             | rfl
             | exact .sc
             | exact .list
             | exact .nils
             | exact .ref (by decide)
             | exact .ptr (by decide)
             | assumption
             | (refine .fn ?_; intro a ha; simp at ha; subst ha; exact .ptr (by decide))
             | (refine congrArg (fun z => AV.sc (Value.int IntKind.i64 z)) ?_; first | rfl | omega | assumption | (simp; done) | (simp; omega))
             | (refine congrArg (fun z => AV.sc (Value.bool z)) ?_; first | rfl | assumption | (simp; done))
             | (refine congrArg (fun z => AV.ref _ 0 z) ?_; first | rfl | omega | (simp; done) | (simp; omega))
             | (show AV.ref _ 0 _ = AV.ref _ 0 _; congr 1; (simp; done))
             | refine And.intro ?_ ?_)
         (by
           repeat' first
             | exact trivial
             | rfl
             | decide
             | exact ⟨_, rfl, rfl, rfl⟩
             | exact ok_flat flat1
             | (refine ok_flat ?_; repeat' first | exact flatSc | exact allNil | exact flatR _ | exact flatE _ | exact flat1R _ | exact flat1E _ | refine allCons ?_ ?_ | refine allApp ?_ ?_)
             | (refine ⟨_, rfl, rfl, Eq.trans ?_ (ren_still ?_ _)⟩; (first | rfl | (simp; done) | (simp; rfl) | (simp only [List.map_append, List.map_cons, List.map_nil, List.cons_append]; rfl)); (repeat' first | exact stillSc | exact allNil | exact stillR _ | exact stillE _ | exact still1R _ | exact still1E _ | refine allCons ?_ ?_ | refine allApp ?_ ?_))
             | refine And.intro ?_ ?_)

theorem of_pure (l : List Ev) (hl : l.length ≤ maxLen) : Pure Try.prog 33 [encEs false l] (i64 (markF lowest l)) := by
  refine Pure.sym tyTab_ok fn33 (nt := 31) rfl rfl ?_ (by intro a ha; simp at ha; subst ha; exact .list)
  refine run_to tm 100 [] rfl (by
     repeat' first
       | exact trivial
       | refine And.intro ?_ ?_
       | exact fun h => h
       | rfl
       | assumption
       | (intro a; rw [a]; done)
       | (intro a; rw [a]; rfl)
       | (intro a b; rw [a, b]; done)
       | (intro a b; rw [a, b]; rfl)
       | exact wrap_i64 (by omega) (by omega)
       | (intros; exact wrap_i64 (by omega) (by omega))
       | (exact decide_eq_true (by omega))
       | (exact decide_eq_false (by omega))
       | exact ix_map (List.getElem?_eq_getElem (by omega))
       | (simp only [List.length_map]; omega)
       | (intros; omega)
       | (refine Nat.le_trans (Nat.mul_le_mul_right _ (show _ ≤ 5000 by simp; omega)) (by decide))
       | (refine Nat.le_trans (Nat.mul_le_mul_right _ (show _ ≤ 5000 by simp)) (by decide))
       | (unfold maxLen; simp; omega)
       | (unfold maxLen; simp; done)
       | (intro e he; rw [List.mem_singleton.1 he]; rfl)
       | (simp; done)
       | (intros; simp_all; done)) ?_
  refine SemK.weakTo [] (SemK.cut (of_loop l hl l.length 0 lowest (by omega) ?_)) rfl
     (by
       repeat' first
         | exact trivial
         | rfl
         | exact .sc
         | exact .list
         | exact .nils
         | exact .ref (by decide)
         | exact .ptr (by decide)
         | assumption
         | (refine .fn ?_; intro a ha; simp at ha; subst ha; exact .ptr (by decide))
         | (refine congrArg (fun z => AV.sc (Value.int IntKind.i64 z)) ?_; first | rfl | omega | assumption | (simp; done) | (simp; omega))
         | (refine congrArg (fun z => AV.sc (Value.bool z)) ?_; first | rfl | assumption | (simp; done))
         | (refine congrArg (fun z => AV.ref _ 0 z) ?_; first | rfl | omega | (simp; done) | (simp; omega))
         | (show AV.ref _ 0 _ = AV.ref _ 0 _; congr 1; (simp; done))
         | refine And.intro ?_ ?_)
     (by
       repeat' first
         | exact trivial
         | rfl
         | decide
         | exact ⟨_, rfl, rfl, rfl⟩
         | exact ok_flat flat1
         | (refine ok_flat ?_; repeat' first | exact flatSc | exact allNil | exact flatR _ | exact flatE _ | exact flat1R _ | exact flat1E _ | refine allCons ?_ ?_ | refine allApp ?_ ?_)
         | (refine ⟨_, rfl, rfl, Eq.trans ?_ (ren_still ?_ _)⟩; (first | rfl | (simp; done) | (simp; rfl) | (simp only [List.map_append, List.map_cons, List.map_nil, List.cons_append]; rfl)); (repeat' first | exact stillSc | exact allNil | exact stillR _ | exact stillE _ | exact still1R _ | exact still1E _ | refine allCons ?_ ?_ | refine allApp ?_ ?_))
         | refine And.intro ?_ ?_)
  refine SemK.glue ?_
  refine run_to tm 100 [] rfl (by
     repeat' first
       | exact trivial
       | refine And.intro ?_ ?_
       | exact fun h => h
       | rfl
       | assumption
       | (intro a; rw [a]; done)
       | (intro a; rw [a]; rfl)
       | (intro a b; rw [a, b]; done)
       | (intro a b; rw [a, b]; rfl)
       | exact wrap_i64 (by omega) (by omega)
       | (intros; exact wrap_i64 (by omega) (by omega))
       | (exact decide_eq_true (by omega))
       | (exact decide_eq_false (by omega))
       | exact ix_map (List.getElem?_eq_getElem (by omega))
       | (simp only [List.length_map]; omega)
       | (intros; omega)
       | (refine Nat.le_trans (Nat.mul_le_mul_right _ (show _ ≤ 5000 by simp; omega)) (by decide))
       | (refine Nat.le_trans (Nat.mul_le_mul_right _ (show _ ≤ 5000 by simp)) (by decide))
       | (unfold maxLen; simp; omega)
       | (unfold maxLen; simp; done)
       | (intro e he; rw [List.mem_singleton.1 he]; rfl)
       | (simp; done)
       | (intros; simp_all; done)) ?_
  exact fin_ret rfl .sc
theorem fn32 : FnOk Try.prog 32 Try.f32 (bodyOf Try.f32) := ⟨Try.func32, by kernel_rfl, rfl⟩
theorem fn37 : FnOk Try.prog 37 Try.f37 (bodyOf Try.f37) := ⟨Try.func37, by kernel_rfl, rfl⟩
theorem fn15 : FnOk Try.prog 15 Try.f15 (bodyOf Try.f15) := ⟨Try.func15, by kernel_rfl, rfl⟩
theorem marker_hc : HCall Try.prog 32 [] [] 0 (.fn 37 [.ptr 0 0 0]) [(0, { es := [i64 lowest], esz := 1 })] 1 := by
  refine HCall.sym tyTab_ok fn32 (nt := 3) rfl rfl ?_
  refine run_to tm 100 [] rfl (by
     repeat' first
       | exact trivial
       | refine And.intro ?_ ?_
       | exact fun h => h
       | rfl
       | assumption
       | (intro a; rw [a]; done)
       | (intro a; rw [a]; rfl)
       | (intro a b; rw [a, b]; done)
       | (intro a b; rw [a, b]; rfl)
       | exact wrap_i64 (by omega) (by omega)
       | (intros; exact wrap_i64 (by omega) (by omega))
       | (exact decide_eq_true (by omega))
       | (exact decide_eq_false (by omega))
       | exact ix_map (List.getElem?_eq_getElem (by omega))
       | (simp only [List.length_map]; omega)
       | (intros; omega)
       | (refine Nat.le_trans (Nat.mul_le_mul_right _ (show _ ≤ 5000 by simp; omega)) (by decide))
       | (refine Nat.le_trans (Nat.mul_le_mul_right _ (show _ ≤ 5000 by simp)) (by decide))
       | (unfold maxLen; simp; omega)
       | (unfold maxLen; simp; done)
       | (intro e he; rw [List.mem_singleton.1 he]; rfl)
       | (simp; done)
       | (intros; simp_all; done)) ?_
  exact SemK.fin (by intro id h; cases h) rfl rfl

theorem mstep_max (m : Int) (x : Ev) (h : x.mark = true) : (bif true then (if x.time > m then x.time else m) else (if x.time < m then x.time else m)) = mstep m x := by
  unfold mstep; rw [if_pos h]; rfl

theorem mark_loop {Q : AExit → St → Mu → Prop} {μ : Mu} (l : List Ev) (hl : l.length ≤ 60) : ∀ (j k : Nat) (m : Int), k + j = l.length →
    (SemK Try.prog 27 0 Q (.exit (.exit 0)) [] ⟨fr [(5, .fn 37 [.ptr 0 0 0])], hp [(0, { es := [i64 (markF m (l.drop k))], esz := 1 })], 1⟩ μ) →
    SemK Try.prog 27 0 Q (.loop (loopB 0 (bodyOf Try.f15))) [] ⟨fr [(5, .fn 37 [.ptr 0 0 0]), (14, encEs false l), (15, i64 l.length), (16, i64 k)], hp [(0, { es := [i64 m], esz := 1 })], 1⟩ μ := by
  intro j
  induction j with
  | zero =>
    intro k m hk h1
    refine SemK.round ?_
    refine run_to tm 200 [.br false] rfl (by
       repeat' first
         | exact trivial
         | refine And.intro ?_ ?_
         | exact fun h => h
         | rfl
         | assumption
         | exact (decide_eq_false (by simp; omega))
         | (intros; exact (decide_eq_false (by simp; omega)))
         | (intro a; rw [a]; done)
         | (intro a; rw [a]; rfl)
         | (intro a b; rw [a, b]; done)
         | (intro a b; rw [a, b]; rfl)
         | exact wrap_i64 (by omega) (by omega)
         | (intros; exact wrap_i64 (by omega) (by omega))
         | (exact decide_eq_true (by omega))
         | (exact decide_eq_false (by omega))
         | exact ix_map (List.getElem?_eq_getElem (by omega))
         | (simp only [List.length_map]; omega)
         | (intros; omega)
         | (refine Nat.le_trans (Nat.mul_le_mul_right _ (show _ ≤ 5000 by simp; omega)) (by decide))
         | (refine Nat.le_trans (Nat.mul_le_mul_right _ (show _ ≤ 5000 by simp)) (by decide))
         | (unfold maxLen; simp; omega)
         | (unfold maxLen; simp; done)
         | (intro e he; rw [List.mem_singleton.1 he]; rfl)
         | (simp; done)
         | (intros; simp_all; done)) ?_
    rw [List.drop_of_length_le (by omega)] at h1
    refine SemK.weakTo [] (h1) rfl
       (by
         repeat' first
           | exact trivial
           | rfl
           | exact .sc
           | exact .list
           | exact .nils
           | exact .ref (by decide)
           | exact .ptr (by decide)
           | assumption
           | (refine .fn ?_; intro a ha; simp at ha; subst ha; exact .ptr (by decide))
           | (refine congrArg (fun z => AV.sc (Value.int IntKind.i64 z)) ?_; first | rfl | omega | assumption | (simp; done) | (simp; omega))
           | (refine congrArg (fun z => AV.sc (Value.bool z)) ?_; first | rfl | assumption | (simp; done))
           | (refine congrArg (fun z => AV.ref _ 0 z) ?_; first | rfl | omega | (simp; done) | (simp; omega))
           | (show AV.ref _ 0 _ = AV.ref _ 0 _; congr 1; (simp; done))
           | refine And.intro ?_ ?_)
       (by
         repeat' first
           | exact trivial
           | rfl
           | decide
           | exact ⟨_, rfl, rfl, rfl⟩
           | exact ok_flat flat1
           | (refine ok_flat ?_; repeat' first | exact flatSc | exact allNil | exact flatR _ | exact flatE _ | exact flat1R _ | exact flat1E _ | refine allCons ?_ ?_ | refine allApp ?_ ?_)
           | (refine ⟨_, rfl, rfl, Eq.trans ?_ (ren_still ?_ _)⟩; (first | rfl | (simp; done) | (simp; rfl) | (simp only [List.map_append, List.map_cons, List.map_nil, List.cons_append]; rfl)); (repeat' first | exact stillSc | exact allNil | exact stillR _ | exact stillE _ | exact still1R _ | exact still1E _ | refine allCons ?_ ?_ | refine allApp ?_ ?_))
           | refine And.intro ?_ ?_)
  | succ j ih =>
    intro k m hk h1
    have hk' : k < l.length := by omega
    have hd : l.drop k = l[k] :: l.drop (k + 1) := List.drop_eq_getElem_cons hk'
    rw [hd] at h1
    have hs : markF m (l[k] :: l.drop (k + 1)) = markF (mstep m l[k]) (l.drop (k + 1)) := rfl
    rw [hs] at h1
    refine SemK.round ?_
    refine run_to tm 200 [.br true, .el (encE l[k])] rfl (by
       repeat' first
         | exact trivial
         | refine And.intro ?_ ?_
         | exact fun h => h
         | rfl
         | assumption
         | exact (getE l k hk')
         | (intros; exact (getE l k hk'))
         | exact (decide_eq_true (by simp; omega))
         | (intros; exact (decide_eq_true (by simp; omega)))
         | (intro a; rw [a]; done)
         | (intro a; rw [a]; rfl)
         | (intro a b; rw [a, b]; done)
         | (intro a b; rw [a, b]; rfl)
         | exact wrap_i64 (by omega) (by omega)
         | (intros; exact wrap_i64 (by omega) (by omega))
         | (exact decide_eq_true (by omega))
         | (exact decide_eq_false (by omega))
         | exact ix_map (List.getElem?_eq_getElem (by omega))
         | (simp only [List.length_map]; omega)
         | (intros; omega)
         | (refine Nat.le_trans (Nat.mul_le_mul_right _ (show _ ≤ 5000 by simp; omega)) (by decide))
         | (refine Nat.le_trans (Nat.mul_le_mul_right _ (show _ ≤ 5000 by simp)) (by decide))
         | (unfold maxLen; simp; omega)
         | (unfold maxLen; simp; done)
         | (intro e he; rw [List.mem_singleton.1 he]; rfl)
         | (simp; done)
         | (intros; simp_all; done)) ?_
    generalize l[k] = x at *
    refine SemK.inline tyTab_ok fn37 rfl rfl rfl rfl rfl trivial trivial rfl rfl ?_
    cases hm : x.mark with
    | true =>
      refine run_to tm 200 [.br true] rfl (by
         repeat' first
           | exact trivial
           | refine And.intro ?_ ?_
           | exact fun h => h
           | rfl
           | assumption
           | (intro a; rw [a]; done)
           | (intro a; rw [a]; rfl)
           | (intro a b; rw [a, b]; done)
           | (intro a b; rw [a, b]; rfl)
           | exact wrap_i64 (by omega) (by omega)
           | (intros; exact wrap_i64 (by omega) (by omega))
           | (exact decide_eq_true (by omega))
           | (exact decide_eq_false (by omega))
           | exact ix_map (List.getElem?_eq_getElem (by omega))
           | (simp only [List.length_map]; omega)
           | (intros; omega)
           | (refine Nat.le_trans (Nat.mul_le_mul_right _ (show _ ≤ 5000 by simp; omega)) (by decide))
           | (refine Nat.le_trans (Nat.mul_le_mul_right _ (show _ ≤ 5000 by simp)) (by decide))
           | (unfold maxLen; simp; omega)
           | (unfold maxLen; simp; done)
           | (intro e he; rw [List.mem_singleton.1 he]; rfl)
           | (simp; done)
           | (intros; simp_all; done)) ?_
      refine SemK.back (by intro id h; cases h) rfl ?_
      refine run_to tm 200 [] rfl (by
         repeat' first
           | exact trivial
           | refine And.intro ?_ ?_
           | exact fun h => h
           | rfl
           | assumption
           | (intro a; rw [a]; done)
           | (intro a; rw [a]; rfl)
           | (intro a b; rw [a, b]; done)
           | (intro a b; rw [a, b]; rfl)
           | exact wrap_i64 (by omega) (by omega)
           | (intros; exact wrap_i64 (by omega) (by omega))
           | (exact decide_eq_true (by omega))
           | (exact decide_eq_false (by omega))
           | exact ix_map (List.getElem?_eq_getElem (by omega))
           | (simp only [List.length_map]; omega)
           | (intros; omega)
           | (refine Nat.le_trans (Nat.mul_le_mul_right _ (show _ ≤ 5000 by simp; omega)) (by decide))
           | (refine Nat.le_trans (Nat.mul_le_mul_right _ (show _ ≤ 5000 by simp)) (by decide))
           | (unfold maxLen; simp; omega)
           | (unfold maxLen; simp; done)
           | (intro e he; rw [List.mem_singleton.1 he]; rfl)
           | (simp; done)
           | (intros; simp_all; done)) ?_
      rw [← mstep_max m x hm] at h1
      refine SemK.weakTo [] (ih (k + 1) _ (by omega) h1) rfl
         (by
           repeat' first
             | exact trivial
             | rfl
             | exact .sc
             | exact .list
             | exact .nils
             | exact .ref (by decide)
             | exact .ptr (by decide)
             | assumption
             | (refine .fn ?_; intro a ha; simp at ha; subst ha; exact .ptr (by decide))
             | (refine congrArg (fun z => AV.sc (Value.int IntKind.i64 z)) ?_; first | rfl | omega | assumption | (simp; done) | (simp; omega))
             | (refine congrArg (fun z => AV.sc (Value.bool z)) ?_; first | rfl | assumption | (simp; done))
             | (refine congrArg (fun z => AV.ref _ 0 z) ?_; first | rfl | omega | (simp; done) | (simp; omega))
             | (show AV.ref _ 0 _ = AV.ref _ 0 _; congr 1; (simp; done))
             | refine And.intro ?_ ?_)
         (by
           repeat' first
             | exact trivial
             | rfl
             | decide
             | exact ⟨_, rfl, rfl, rfl⟩
             | exact ok_flat flat1
             | (refine ok_flat ?_; repeat' first | exact flatSc | exact allNil | exact flatR _ | exact flatE _ | exact flat1R _ | exact flat1E _ | refine allCons ?_ ?_ | refine allApp ?_ ?_)
             | (refine ⟨_, rfl, rfl, Eq.trans ?_ (ren_still ?_ _)⟩; (first | rfl | (simp; done) | (simp; rfl) | (simp only [List.map_append, List.map_cons, List.map_nil, List.cons_append]; rfl)); (repeat' first | exact stillSc | exact allNil | exact stillR _ | exact stillE _ | exact still1R _ | exact still1E _ | refine allCons ?_ ?_ | refine allApp ?_ ?_))
             | refine And.intro ?_ ?_)
    | false =>
      refine run_to tm 200 [.br false] rfl (by
         repeat' first
           | exact trivial
           | refine And.intro ?_ ?_
           | exact fun h => h
           | rfl
           | assumption
           | (intro a; rw [a]; done)
           | (intro a; rw [a]; rfl)
           | (intro a b; rw [a, b]; done)
           | (intro a b; rw [a, b]; rfl)
           | exact wrap_i64 (by omega) (by omega)
           | (intros; exact wrap_i64 (by omega) (by omega))
           | (exact decide_eq_true (by omega))
           | (exact decide_eq_false (by omega))
           | exact ix_map (List.getElem?_eq_getElem (by omega))
           | (simp only [List.length_map]; omega)
           | (intros; omega)
           | (refine Nat.le_trans (Nat.mul_le_mul_right _ (show _ ≤ 5000 by simp; omega)) (by decide))
           | (refine Nat.le_trans (Nat.mul_le_mul_right _ (show _ ≤ 5000 by simp)) (by decide))
           | (unfold maxLen; simp; omega)
           | (unfold maxLen; simp; done)
           | (intro e he; rw [List.mem_singleton.1 he]; rfl)
           | (simp; done)
           | (intros; simp_all; done)) ?_
      refine SemK.back (by intro id h; cases h) rfl ?_
      refine run_to tm 200 [] rfl (by
         repeat' first
           | exact trivial
           | refine And.intro ?_ ?_
           | exact fun h => h
           | rfl
           | assumption
           | (intro a; rw [a]; done)
           | (intro a; rw [a]; rfl)
           | (intro a b; rw [a, b]; done)
           | (intro a b; rw [a, b]; rfl)
           | exact wrap_i64 (by omega) (by omega)
           | (intros; exact wrap_i64 (by omega) (by omega))
           | (exact decide_eq_true (by omega))
           | (exact decide_eq_false (by omega))
           | exact ix_map (List.getElem?_eq_getElem (by omega))
           | (simp only [List.length_map]; omega)
           | (intros; omega)
           | (refine Nat.le_trans (Nat.mul_le_mul_right _ (show _ ≤ 5000 by simp; omega)) (by decide))
           | (refine Nat.le_trans (Nat.mul_le_mul_right _ (show _ ≤ 5000 by simp)) (by decide))
           | (unfold maxLen; simp; omega)
           | (unfold maxLen; simp; done)
           | (intro e he; rw [List.mem_singleton.1 he]; rfl)
           | (simp; done)
           | (intros; simp_all; done)) ?_
      rw [show mstep m x = m by unfold mstep; rw [hm]; rfl] at h1
      refine SemK.weakTo [] (ih (k + 1) _ (by omega) h1) rfl
         (by
           repeat' first
             | exact trivial
             | rfl
             | exact .sc
             | exact .list
             | exact .nils
             | exact .ref (by decide)
             | exact .ptr (by decide)
             | assumption
             | (refine .fn ?_; intro a ha; simp at ha; subst ha; exact .ptr (by decide))
             | (refine congrArg (fun z => AV.sc (Value.int IntKind.i64 z)) ?_; first | rfl | omega | assumption | (simp; done) | (simp; omega))
             | (refine congrArg (fun z => AV.sc (Value.bool z)) ?_; first | rfl | assumption | (simp; done))
             | (refine congrArg (fun z => AV.ref _ 0 z) ?_; first | rfl | omega | (simp; done) | (simp; omega))
             | (show AV.ref _ 0 _ = AV.ref _ 0 _; congr 1; (simp; done))
             | refine And.intro ?_ ?_)
         (by
           repeat' first
             | exact trivial
             | rfl
             | decide
             | exact ⟨_, rfl, rfl, rfl⟩
             | exact ok_flat flat1
             | (refine ok_flat ?_; repeat' first | exact flatSc | exact allNil | exact flatR _ | exact flatE _ | exact flat1R _ | exact flat1E _ | refine allCons ?_ ?_ | refine allApp ?_ ?_)
             | (refine ⟨_, rfl, rfl, Eq.trans ?_ (ren_still ?_ _)⟩; (first | rfl | (simp; done) | (simp; rfl) | (simp only [List.map_append, List.map_cons, List.map_nil, List.cons_append]; rfl)); (repeat' first | exact stillSc | exact allNil | exact stillR _ | exact stillE _ | exact still1R _ | exact still1E _ | refine allCons ?_ ?_ | refine allApp ?_ ?_))
             | refine And.intro ?_ ?_)

theorem mark_pure (l : List Ev) : Pure Try.prog 15 [encEs false l] (.tup [i64 (markS l).1, i64 (markS l).2]) := by
  refine Pure.sym tyTab_ok fn15 (nt := 27) rfl rfl ?_ (by intro a ha; simp at ha; subst ha; exact .list)
  by_cases h : chk l = 0
  · refine run_to tm 100 [.pure [encEs false l] (i64 (chk l)), .br false, .call (.fn 37 [.ptr 0 0 0]) [(0, { es := [i64 lowest], esz := 1 })] 1] rfl (by
     repeat' first
       | exact trivial
       | refine And.intro ?_ ?_
       | exact fun h => h
       | rfl
       | assumption
       | exact (PureCall.none (check_pure _) (Cvs.cons cvEs .nil))
       | (intros; exact (PureCall.none (check_pure _) (Cvs.cons cvEs .nil)))
       | (rw [h]; rfl; done)
       | (intros; rw [h]; rfl; done)
       | exact (marker_hc)
       | (intros; exact (marker_hc))
       | (intro a; rw [a]; done)
       | (intro a; rw [a]; rfl)
       | (intro a b; rw [a, b]; done)
       | (intro a b; rw [a, b]; rfl)
       | exact wrap_i64 (by omega) (by omega)
       | (intros; exact wrap_i64 (by omega) (by omega))
       | (exact decide_eq_true (by omega))
       | (exact decide_eq_false (by omega))
       | exact ix_map (List.getElem?_eq_getElem (by omega))
       | (simp only [List.length_map]; omega)
       | (intros; omega)
       | (refine Nat.le_trans (Nat.mul_le_mul_right _ (show _ ≤ 5000 by simp; omega)) (by decide))
       | (refine Nat.le_trans (Nat.mul_le_mul_right _ (show _ ≤ 5000 by simp)) (by decide))
       | (unfold maxLen; simp; omega)
       | (unfold maxLen; simp; done)
       | (intro e he; rw [List.mem_singleton.1 he]; rfl)
       | (simp; done)
       | (intros; simp_all; done)) ?_
    have hl : l.length ≤ 60 := by unfold chk at h; by_cases h1 : 60 < l.length; · rw [if_pos h1] at h; cases h
                                  omega
    refine SemK.weakTo [] (SemK.cut (mark_loop l hl l.length 0 lowest (by omega) ?_)) rfl
       (by
         repeat' first
           | exact trivial
           | rfl
           | exact .sc
           | exact .list
           | exact .nils
           | exact .ref (by decide)
           | exact .ptr (by decide)
           | assumption
           | (refine .fn ?_; intro a ha; simp at ha; subst ha; exact .ptr (by decide))
           | (refine congrArg (fun z => AV.sc (Value.int IntKind.i64 z)) ?_; first | rfl | omega | assumption | (simp; done) | (simp; omega))
           | (refine congrArg (fun z => AV.sc (Value.bool z)) ?_; first | rfl | assumption | (simp; done))
           | (refine congrArg (fun z => AV.ref _ 0 z) ?_; first | rfl | omega | (simp; done) | (simp; omega))
           | (show AV.ref _ 0 _ = AV.ref _ 0 _; congr 1; (simp; done))
           | refine And.intro ?_ ?_)
       (by
         repeat' first
           | exact trivial
           | rfl
           | decide
           | exact ⟨_, rfl, rfl, rfl⟩
           | exact ok_flat flat1
           | (refine ok_flat ?_; repeat' first | exact flatSc | exact allNil | exact flatR _ | exact flatE _ | exact flat1R _ | exact flat1E _ | refine allCons ?_ ?_ | refine allApp ?_ ?_)
           | (refine ⟨_, rfl, rfl, Eq.trans ?_ (ren_still ?_ _)⟩; (first | rfl | (simp; done) | (simp; rfl) | (simp only [List.map_append, List.map_cons, List.map_nil, List.cons_append]; rfl)); (repeat' first | exact stillSc | exact allNil | exact stillR _ | exact stillE _ | exact still1R _ | exact still1E _ | refine allCons ?_ ?_ | refine allApp ?_ ?_))
           | refine And.intro ?_ ?_)
    refine SemK.glue ?_
    refine run_to tm 100 [] rfl (by
       repeat' first
         | exact trivial
         | refine And.intro ?_ ?_
         | exact fun h => h
         | rfl
         | assumption
         | (intro a; rw [a]; done)
         | (intro a; rw [a]; rfl)
         | (intro a b; rw [a, b]; done)
         | (intro a b; rw [a, b]; rfl)
         | exact wrap_i64 (by omega) (by omega)
         | (intros; exact wrap_i64 (by omega) (by omega))
         | (exact decide_eq_true (by omega))
         | (exact decide_eq_false (by omega))
         | exact ix_map (List.getElem?_eq_getElem (by omega))
         | (simp only [List.length_map]; omega)
         | (intros; omega)
         | (refine Nat.le_trans (Nat.mul_le_mul_right _ (show _ ≤ 5000 by simp; omega)) (by decide))
         | (refine Nat.le_trans (Nat.mul_le_mul_right _ (show _ ≤ 5000 by simp)) (by decide))
         | (unfold maxLen; simp; omega)
         | (unfold maxLen; simp; done)
         | (intro e he; rw [List.mem_singleton.1 he]; rfl)
         | (simp; done)
         | (intros; simp_all; done)) ?_
    refine SemK.inline tyTab_ok fn37 rfl rfl rfl rfl rfl trivial trivial rfl rfl ?_
    refine run_to tm 200 [.br false] rfl (by
       repeat' first
         | exact trivial
         | refine And.intro ?_ ?_
         | exact fun h => h
         | rfl
         | assumption
         | (intro a; rw [a]; done)
         | (intro a; rw [a]; rfl)
         | (intro a b; rw [a, b]; done)
         | (intro a b; rw [a, b]; rfl)
         | exact wrap_i64 (by omega) (by omega)
         | (intros; exact wrap_i64 (by omega) (by omega))
         | (exact decide_eq_true (by omega))
         | (exact decide_eq_false (by omega))
         | exact ix_map (List.getElem?_eq_getElem (by omega))
         | (simp only [List.length_map]; omega)
         | (intros; omega)
         | (refine Nat.le_trans (Nat.mul_le_mul_right _ (show _ ≤ 5000 by simp; omega)) (by decide))
         | (refine Nat.le_trans (Nat.mul_le_mul_right _ (show _ ≤ 5000 by simp)) (by decide))
         | (unfold maxLen; simp; omega)
         | (unfold maxLen; simp; done)
         | (intro e he; rw [List.mem_singleton.1 he]; rfl)
         | (simp; done)
         | (intros; simp_all; done)) ?_
    refine SemK.back (by intro id h; cases h) rfl ?_
    refine run_to tm 200 [] rfl (by
       repeat' first
         | exact trivial
         | refine And.intro ?_ ?_
         | exact fun h => h
         | rfl
         | assumption
         | (intro a; rw [a]; done)
         | (intro a; rw [a]; rfl)
         | (intro a b; rw [a, b]; done)
         | (intro a b; rw [a, b]; rfl)
         | exact wrap_i64 (by omega) (by omega)
         | (intros; exact wrap_i64 (by omega) (by omega))
         | (exact decide_eq_true (by omega))
         | (exact decide_eq_false (by omega))
         | exact ix_map (List.getElem?_eq_getElem (by omega))
         | (simp only [List.length_map]; omega)
         | (intros; omega)
         | (refine Nat.le_trans (Nat.mul_le_mul_right _ (show _ ≤ 5000 by simp; omega)) (by decide))
         | (refine Nat.le_trans (Nat.mul_le_mul_right _ (show _ ≤ 5000 by simp)) (by decide))
         | (unfold maxLen; simp; omega)
         | (unfold maxLen; simp; done)
         | (intro e he; rw [List.mem_singleton.1 he]; rfl)
         | (simp; done)
         | (intros; simp_all; done)) ?_
    refine fin_ret rfl ?_
    rw [show markS l = (markF lowest l, 0) by simp [markS, h]]
    exact cv_tup2 .sc .sc
  · refine run_to tm 100 [.pure [encEs false l] (i64 (chk l)), .br true] rfl (by
     repeat' first
       | exact trivial
       | refine And.intro ?_ ?_
       | exact fun h => h
       | rfl
       | assumption
       | exact (PureCall.none (check_pure _) (Cvs.cons cvEs .nil))
       | (intros; exact (PureCall.none (check_pure _) (Cvs.cons cvEs .nil)))
       | (simp [h]; done)
       | (intros; simp [h]; done)
       | (intro a; rw [a]; done)
       | (intro a; rw [a]; rfl)
       | (intro a b; rw [a, b]; done)
       | (intro a b; rw [a, b]; rfl)
       | exact wrap_i64 (by omega) (by omega)
       | (intros; exact wrap_i64 (by omega) (by omega))
       | (exact decide_eq_true (by omega))
       | (exact decide_eq_false (by omega))
       | exact ix_map (List.getElem?_eq_getElem (by omega))
       | (simp only [List.length_map]; omega)
       | (intros; omega)
       | (refine Nat.le_trans (Nat.mul_le_mul_right _ (show _ ≤ 5000 by simp; omega)) (by decide))
       | (refine Nat.le_trans (Nat.mul_le_mul_right _ (show _ ≤ 5000 by simp)) (by decide))
       | (unfold maxLen; simp; omega)
       | (unfold maxLen; simp; done)
       | (intro e he; rw [List.mem_singleton.1 he]; rfl)
       | (simp; done)
       | (intros; simp_all; done)) ?_
    refine fin_ret rfl ?_
    rw [show markS l = (0, chk l) by simp [markS, h]]
    exact cv_tup2 .sc .sc
theorem fn16 : FnOk Try.prog 16 Try.f16 (bodyOf Try.f16) := ⟨Try.func16, by kernel_rfl, rfl⟩
theorem rmark_pure (l : List Ev) (hl : l.length ≤ maxLen) : Pure Try.prog 16 [encEs false l] (.tup [i64 (markS l).1, i64 (markS l).2]) := by
  refine Pure.sym tyTab_ok fn16 (nt := 12) rfl rfl ?_ (by intro a ha; simp at ha; subst ha; exact .list)
  by_cases h : chk l = 0
  · refine run_to tm 100 [.pure [encEs false l] (i64 (chk l)), .br false, .pure [encEs false l] (i64 (markF lowest l))] rfl (by
     repeat' first
       | exact trivial
       | refine And.intro ?_ ?_
       | exact fun h => h
       | rfl
       | assumption
       | exact (PureCall.none (rcheck_pure _) (Cvs.cons cvEs .nil))
       | (intros; exact (PureCall.none (rcheck_pure _) (Cvs.cons cvEs .nil)))
       | (rw [h]; rfl; done)
       | (intros; rw [h]; rfl; done)
       | exact (PureCall.none (of_pure _ hl) (Cvs.cons cvEs .nil))
       | (intros; exact (PureCall.none (of_pure _ hl) (Cvs.cons cvEs .nil)))
       | (intro a; rw [a]; done)
       | (intro a; rw [a]; rfl)
       | (intro a b; rw [a, b]; done)
       | (intro a b; rw [a, b]; rfl)
       | exact wrap_i64 (by omega) (by omega)
       | (intros; exact wrap_i64 (by omega) (by omega))
       | (exact decide_eq_true (by omega))
       | (exact decide_eq_false (by omega))
       | exact ix_map (List.getElem?_eq_getElem (by omega))
       | (simp only [List.length_map]; omega)
       | (intros; omega)
       | (refine Nat.le_trans (Nat.mul_le_mul_right _ (show _ ≤ 5000 by simp; omega)) (by decide))
       | (refine Nat.le_trans (Nat.mul_le_mul_right _ (show _ ≤ 5000 by simp)) (by decide))
       | (unfold maxLen; simp; omega)
       | (unfold maxLen; simp; done)
       | (intro e he; rw [List.mem_singleton.1 he]; rfl)
       | (simp; done)
       | (intros; simp_all; done)) ?_
    refine fin_ret rfl ?_
    rw [show markS l = (markF lowest l, 0) by simp [markS, h]]
    exact cv_tup2 .sc .sc
  · refine run_to tm 100 [.pure [encEs false l] (i64 (chk l)), .br true] rfl (by
     repeat' first
       | exact trivial
       | refine And.intro ?_ ?_
       | exact fun h => h
       | rfl
       | assumption
       | exact (PureCall.none (rcheck_pure _) (Cvs.cons cvEs .nil))
       | (intros; exact (PureCall.none (rcheck_pure _) (Cvs.cons cvEs .nil)))
       | (simp [h]; done)
       | (intros; simp [h]; done)
       | (intro a; rw [a]; done)
       | (intro a; rw [a]; rfl)
       | (intro a b; rw [a, b]; done)
       | (intro a b; rw [a, b]; rfl)
       | exact wrap_i64 (by omega) (by omega)
       | (intros; exact wrap_i64 (by omega) (by omega))
       | (exact decide_eq_true (by omega))
       | (exact decide_eq_false (by omega))
       | exact ix_map (List.getElem?_eq_getElem (by omega))
       | (simp only [List.length_map]; omega)
       | (intros; omega)
       | (refine Nat.le_trans (Nat.mul_le_mul_right _ (show _ ≤ 5000 by simp; omega)) (by decide))
       | (refine Nat.le_trans (Nat.mul_le_mul_right _ (show _ ≤ 5000 by simp)) (by decide))
       | (unfold maxLen; simp; omega)
       | (unfold maxLen; simp; done)
       | (intro e he; rw [List.mem_singleton.1 he]; rfl)
       | (simp; done)
       | (intros; simp_all; done)) ?_
    refine fin_ret rfl ?_
    rw [show markS l = (0, chk l) by simp [markS, h]]
    exact cv_tup2 .sc .sc

theorem fn19 : FnOk Try.prog 19 Try.f19 (bodyOf Try.f19) := ⟨Try.func19, by kernel_rfl, rfl⟩
theorem same_loop {Q : AExit → St → Mu → Prop} {μ : Mu} (a b : List R3) (hl : a.length ≤ maxLen) (hab : a.length = b.length) : ∀ (j k : Nat), k + j = a.length →
    (a.drop k = b.drop k → SemK Try.prog 26 0 Q (.exit (.exit 0)) [] ⟨fr [], hp [], 0⟩ μ) →
    (a.drop k ≠ b.drop k → SemK Try.prog 26 0 Q (.exit .ret) [] ⟨fr [(4, bo false)], hp [], 0⟩ μ) →
    SemK Try.prog 26 0 Q (.loop (loopB 0 (bodyOf Try.f19))) [] ⟨fr [(0, encRs false a), (1, encRs false b), (5, i64 k)], hp [], 0⟩ μ := by
  unfold maxLen at hl
  intro j
  induction j with
  | zero =>
    intro k hk h1 h2
    refine SemK.round ?_
    refine run_to tm 200 [.br false] rfl (by
       repeat' first
         | exact trivial
         | refine And.intro ?_ ?_
         | exact fun h => h
         | rfl
         | assumption
         | exact (decide_eq_false (by simp; omega))
         | (intros; exact (decide_eq_false (by simp; omega)))
         | (intro a; rw [a]; done)
         | (intro a; rw [a]; rfl)
         | (intro a b; rw [a, b]; done)
         | (intro a b; rw [a, b]; rfl)
         | exact wrap_i64 (by omega) (by omega)
         | (intros; exact wrap_i64 (by omega) (by omega))
         | (exact decide_eq_true (by omega))
         | (exact decide_eq_false (by omega))
         | exact ix_map (List.getElem?_eq_getElem (by omega))
         | (simp only [List.length_map]; omega)
         | (intros; omega)
         | (refine Nat.le_trans (Nat.mul_le_mul_right _ (show _ ≤ 5000 by simp; omega)) (by decide))
         | (refine Nat.le_trans (Nat.mul_le_mul_right _ (show _ ≤ 5000 by simp)) (by decide))
         | (unfold maxLen; simp; omega)
         | (unfold maxLen; simp; done)
         | (intro e he; rw [List.mem_singleton.1 he]; rfl)
         | (simp; done)
         | (intros; simp_all; done)) ?_
    refine SemK.weakTo [] (h1 (by rw [List.drop_of_length_le (by omega), List.drop_of_length_le (by omega)])) rfl
       (by
         repeat' first
           | exact trivial
           | rfl
           | exact .sc
           | exact .list
           | exact .nils
           | exact .ref (by decide)
           | exact .ptr (by decide)
           | assumption
           | (refine .fn ?_; intro a ha; simp at ha; subst ha; exact .ptr (by decide))
           | (refine congrArg (fun z => AV.sc (Value.int IntKind.i64 z)) ?_; first | rfl | omega | assumption | (simp; done) | (simp; omega))
           | (refine congrArg (fun z => AV.sc (Value.bool z)) ?_; first | rfl | assumption | (simp; done))
           | (refine congrArg (fun z => AV.ref _ 0 z) ?_; first | rfl | omega | (simp; done) | (simp; omega))
           | (show AV.ref _ 0 _ = AV.ref _ 0 _; congr 1; (simp; done))
           | refine And.intro ?_ ?_)
       (by
         repeat' first
           | exact trivial
           | rfl
           | decide
           | exact ⟨_, rfl, rfl, rfl⟩
           | exact ok_flat flat1
           | (refine ok_flat ?_; repeat' first | exact flatSc | exact allNil | exact flatR _ | exact flatE _ | exact flat1R _ | exact flat1E _ | refine allCons ?_ ?_ | refine allApp ?_ ?_)
           | (refine ⟨_, rfl, rfl, Eq.trans ?_ (ren_still ?_ _)⟩; (first | rfl | (simp; done) | (simp; rfl) | (simp only [List.map_append, List.map_cons, List.map_nil, List.cons_append]; rfl)); (repeat' first | exact stillSc | exact allNil | exact stillR _ | exact stillE _ | exact still1R _ | exact still1E _ | refine allCons ?_ ?_ | refine allApp ?_ ?_))
           | refine And.intro ?_ ?_)
  | succ j ih =>
    intro k hk h1 h2
    have hk' : k < a.length := by omega
    have hkb : k < b.length := by omega
    have hd : a.drop k = a[k] :: a.drop (k + 1) := List.drop_eq_getElem_cons hk'
    have hd' : b.drop k = b[k] :: b.drop (k + 1) := List.drop_eq_getElem_cons hkb
    rw [hd, hd'] at h1 h2
    refine SemK.round ?_
    refine run_to tm 200 [.br true, .el (encR a[k]), .el (encR b[k])] rfl (by
       repeat' first
         | exact trivial
         | refine And.intro ?_ ?_
         | exact fun h => h
         | rfl
         | assumption
         | exact (getR a k hk')
         | (intros; exact (getR a k hk'))
         | exact (getR b k hkb)
         | (intros; exact (getR b k hkb))
         | exact (decide_eq_true (by simp; omega))
         | (intros; exact (decide_eq_true (by simp; omega)))
         | (intro a; rw [a]; done)
         | (intro a; rw [a]; rfl)
         | (intro a b; rw [a, b]; done)
         | (intro a b; rw [a, b]; rfl)
         | exact wrap_i64 (by omega) (by omega)
         | (intros; exact wrap_i64 (by omega) (by omega))
         | (exact decide_eq_true (by omega))
         | (exact decide_eq_false (by omega))
         | exact ix_map (List.getElem?_eq_getElem (by omega))
         | (simp only [List.length_map]; omega)
         | (intros; omega)
         | (refine Nat.le_trans (Nat.mul_le_mul_right _ (show _ ≤ 5000 by simp; omega)) (by decide))
         | (refine Nat.le_trans (Nat.mul_le_mul_right _ (show _ ≤ 5000 by simp)) (by decide))
         | (unfold maxLen; simp; omega)
         | (unfold maxLen; simp; done)
         | (intro e he; rw [List.mem_singleton.1 he]; rfl)
         | (simp; done)
         | (intros; simp_all; done)) ?_
    generalize a[k] = x at *
    generalize b[k] = y at *
    by_cases hxy : x = y
    · subst hxy
      refine run_to tm 200 [.br false] rfl (by
         repeat' first
           | exact trivial
           | refine And.intro ?_ ?_
           | exact fun h => h
           | rfl
           | assumption
           | (simp; done)
           | (intros; simp; done)
           | (intro a; rw [a]; done)
           | (intro a; rw [a]; rfl)
           | (intro a b; rw [a, b]; done)
           | (intro a b; rw [a, b]; rfl)
           | exact wrap_i64 (by omega) (by omega)
           | (intros; exact wrap_i64 (by omega) (by omega))
           | (exact decide_eq_true (by omega))
           | (exact decide_eq_false (by omega))
           | exact ix_map (List.getElem?_eq_getElem (by omega))
           | (simp only [List.length_map]; omega)
           | (intros; omega)
           | (refine Nat.le_trans (Nat.mul_le_mul_right _ (show _ ≤ 5000 by simp; omega)) (by decide))
           | (refine Nat.le_trans (Nat.mul_le_mul_right _ (show _ ≤ 5000 by simp)) (by decide))
           | (unfold maxLen; simp; omega)
           | (unfold maxLen; simp; done)
           | (intro e he; rw [List.mem_singleton.1 he]; rfl)
           | (simp; done)
           | (intros; simp_all; done)) ?_
      refine SemK.weakTo [] (ih (k + 1) (by omega) (fun h => h1 (by rw [h])) (fun h => h2 (by simpa using h))) rfl
         (by
           repeat' first
             | exact trivial
             | rfl
             | exact .sc
             | exact .list
             | exact .nils
             | exact .ref (by decide)
             | exact .ptr (by decide)
             | assumption
             | (refine .fn ?_; intro a ha; simp at ha; subst ha; exact .ptr (by decide))
             | (refine congrArg (fun z => AV.sc (Value.int IntKind.i64 z)) ?_; first | rfl | omega | assumption | (simp; done) | (simp; omega))
             | (refine congrArg (fun z => AV.sc (Value.bool z)) ?_; first | rfl | assumption | (simp; done))
             | (refine congrArg (fun z => AV.ref _ 0 z) ?_; first | rfl | omega | (simp; done) | (simp; omega))
             | (show AV.ref _ 0 _ = AV.ref _ 0 _; congr 1; (simp; done))
             | refine And.intro ?_ ?_)
         (by
           repeat' first
             | exact trivial
             | rfl
             | decide
             | exact ⟨_, rfl, rfl, rfl⟩
             | exact ok_flat flat1
             | (refine ok_flat ?_; repeat' first | exact flatSc | exact allNil | exact flatR _ | exact flatE _ | exact flat1R _ | exact flat1E _ | refine allCons ?_ ?_ | refine allApp ?_ ?_)
             | (refine ⟨_, rfl, rfl, Eq.trans ?_ (ren_still ?_ _)⟩; (first | rfl | (simp; done) | (simp; rfl) | (simp only [List.map_append, List.map_cons, List.map_nil, List.cons_append]; rfl)); (repeat' first | exact stillSc | exact allNil | exact stillR _ | exact stillE _ | exact still1R _ | exact still1E _ | refine allCons ?_ ?_ | refine allApp ?_ ?_))
             | refine And.intro ?_ ?_)
    · refine run_to tm 200 [.br true] rfl (by
       repeat' first
         | exact trivial
         | refine And.intro ?_ ?_
         | exact fun h => h
         | rfl
         | assumption
         | exact (neR hxy)
         | (intros; exact (neR hxy))
         | (intro a; rw [a]; done)
         | (intro a; rw [a]; rfl)
         | (intro a b; rw [a, b]; done)
         | (intro a b; rw [a, b]; rfl)
         | exact wrap_i64 (by omega) (by omega)
         | (intros; exact wrap_i64 (by omega) (by omega))
         | (exact decide_eq_true (by omega))
         | (exact decide_eq_false (by omega))
         | exact ix_map (List.getElem?_eq_getElem (by omega))
         | (simp only [List.length_map]; omega)
         | (intros; omega)
         | (refine Nat.le_trans (Nat.mul_le_mul_right _ (show _ ≤ 5000 by simp; omega)) (by decide))
         | (refine Nat.le_trans (Nat.mul_le_mul_right _ (show _ ≤ 5000 by simp)) (by decide))
         | (unfold maxLen; simp; omega)
         | (unfold maxLen; simp; done)
         | (intro e he; rw [List.mem_singleton.1 he]; rfl)
         | (simp; done)
         | (intros; simp_all; done)) ?_
      refine SemK.weakTo [] (h2 (by intro h; exact hxy (List.cons.inj h).1)) rfl
         (by
           repeat' first
             | exact trivial
             | rfl
             | exact .sc
             | exact .list
             | exact .nils
             | exact .ref (by decide)
             | exact .ptr (by decide)
             | assumption
             | (refine .fn ?_; intro a ha; simp at ha; subst ha; exact .ptr (by decide))
             | (refine congrArg (fun z => AV.sc (Value.int IntKind.i64 z)) ?_; first | rfl | omega | assumption | (simp; done) | (simp; omega))
             | (refine congrArg (fun z => AV.sc (Value.bool z)) ?_; first | rfl | assumption | (simp; done))
             | (refine congrArg (fun z => AV.ref _ 0 z) ?_; first | rfl | omega | (simp; done) | (simp; omega))
             | (show AV.ref _ 0 _ = AV.ref _ 0 _; congr 1; (simp; done))
             | refine And.intro ?_ ?_)
         (by
           repeat' first
             | exact trivial
             | rfl
             | decide
             | exact ⟨_, rfl, rfl, rfl⟩
             | exact ok_flat flat1
             | (refine ok_flat ?_; repeat' first | exact flatSc | exact allNil | exact flatR _ | exact flatE _ | exact flat1R _ | exact flat1E _ | refine allCons ?_ ?_ | refine allApp ?_ ?_)
             | (refine ⟨_, rfl, rfl, Eq.trans ?_ (ren_still ?_ _)⟩; (first | rfl | (simp; done) | (simp; rfl) | (simp only [List.map_append, List.map_cons, List.map_nil, List.cons_append]; rfl)); (repeat' first | exact stillSc | exact allNil | exact stillR _ | exact stillE _ | exact still1R _ | exact still1E _ | refine allCons ?_ ?_ | refine allApp ?_ ?_))
             | refine And.intro ?_ ?_)

theorem same_pure (a b : List R3) (hl : a.length ≤ maxLen) : Pure Try.prog 19 [encRs false a, encRs false b] (bo (decide (a = b))) := by
  refine Pure.sym tyTab_ok fn19 (nt := 26) rfl rfl ?_ (by intro x hx; simp at hx; rcases hx with rfl | rfl <;> exact .list)
  by_cases h : a.length = b.length
  · refine run_to tm 100 [.br false] rfl (by
     repeat' first
       | exact trivial
       | refine And.intro ?_ ?_
       | exact fun h => h
       | rfl
       | assumption
       | (simp [h]; done)
       | (intros; simp [h]; done)
       | (intro a; rw [a]; done)
       | (intro a; rw [a]; rfl)
       | (intro a b; rw [a, b]; done)
       | (intro a b; rw [a, b]; rfl)
       | exact wrap_i64 (by omega) (by omega)
       | (intros; exact wrap_i64 (by omega) (by omega))
       | (exact decide_eq_true (by omega))
       | (exact decide_eq_false (by omega))
       | exact ix_map (List.getElem?_eq_getElem (by omega))
       | (simp only [List.length_map]; omega)
       | (intros; omega)
       | (refine Nat.le_trans (Nat.mul_le_mul_right _ (show _ ≤ 5000 by simp; omega)) (by decide))
       | (refine Nat.le_trans (Nat.mul_le_mul_right _ (show _ ≤ 5000 by simp)) (by decide))
       | (unfold maxLen; simp; omega)
       | (unfold maxLen; simp; done)
       | (intro e he; rw [List.mem_singleton.1 he]; rfl)
       | (simp; done)
       | (intros; simp_all; done)) ?_
    refine SemK.weakTo [] (SemK.cut (same_loop a b hl h a.length 0 (by omega) ?_ ?_)) rfl
       (by
         repeat' first
           | exact trivial
           | rfl
           | exact .sc
           | exact .list
           | exact .nils
           | exact .ref (by decide)
           | exact .ptr (by decide)
           | assumption
           | (refine .fn ?_; intro a ha; simp at ha; subst ha; exact .ptr (by decide))
           | (refine congrArg (fun z => AV.sc (Value.int IntKind.i64 z)) ?_; first | rfl | omega | assumption | (simp; done) | (simp; omega))
           | (refine congrArg (fun z => AV.sc (Value.bool z)) ?_; first | rfl | assumption | (simp; done))
           | (refine congrArg (fun z => AV.ref _ 0 z) ?_; first | rfl | omega | (simp; done) | (simp; omega))
           | (show AV.ref _ 0 _ = AV.ref _ 0 _; congr 1; (simp; done))
           | refine And.intro ?_ ?_)
       (by
         repeat' first
           | exact trivial
           | rfl
           | decide
           | exact ⟨_, rfl, rfl, rfl⟩
           | exact ok_flat flat1
           | (refine ok_flat ?_; repeat' first | exact flatSc | exact allNil | exact flatR _ | exact flatE _ | exact flat1R _ | exact flat1E _ | refine allCons ?_ ?_ | refine allApp ?_ ?_)
           | (refine ⟨_, rfl, rfl, Eq.trans ?_ (ren_still ?_ _)⟩; (first | rfl | (simp; done) | (simp; rfl) | (simp only [List.map_append, List.map_cons, List.map_nil, List.cons_append]; rfl)); (repeat' first | exact stillSc | exact allNil | exact stillR _ | exact stillE _ | exact still1R _ | exact still1E _ | refine allCons ?_ ?_ | refine allApp ?_ ?_))
           | refine And.intro ?_ ?_)
    · intro hv
      refine SemK.glue ?_
      refine run_to tm 100 [] rfl (by
         repeat' first
           | exact trivial
           | refine And.intro ?_ ?_
           | exact fun h => h
           | rfl
           | assumption
           | (intro a; rw [a]; done)
           | (intro a; rw [a]; rfl)
           | (intro a b; rw [a, b]; done)
           | (intro a b; rw [a, b]; rfl)
           | exact wrap_i64 (by omega) (by omega)
           | (intros; exact wrap_i64 (by omega) (by omega))
           | (exact decide_eq_true (by omega))
           | (exact decide_eq_false (by omega))
           | exact ix_map (List.getElem?_eq_getElem (by omega))
           | (simp only [List.length_map]; omega)
           | (intros; omega)
           | (refine Nat.le_trans (Nat.mul_le_mul_right _ (show _ ≤ 5000 by simp; omega)) (by decide))
           | (refine Nat.le_trans (Nat.mul_le_mul_right _ (show _ ≤ 5000 by simp)) (by decide))
           | (unfold maxLen; simp; omega)
           | (unfold maxLen; simp; done)
           | (intro e he; rw [List.mem_singleton.1 he]; rfl)
           | (simp; done)
           | (intros; simp_all; done)) ?_
      refine fin_ret rfl (cv_bo ?_)
      simp only [List.drop_zero] at hv; simp [hv]
    · intro hv
      refine SemK.glue ?_
      refine run_to tm 100 [] rfl (by
         repeat' first
           | exact trivial
           | refine And.intro ?_ ?_
           | exact fun h => h
           | rfl
           | assumption
           | (intro a; rw [a]; done)
           | (intro a; rw [a]; rfl)
           | (intro a b; rw [a, b]; done)
           | (intro a b; rw [a, b]; rfl)
           | exact wrap_i64 (by omega) (by omega)
           | (intros; exact wrap_i64 (by omega) (by omega))
           | (exact decide_eq_true (by omega))
           | (exact decide_eq_false (by omega))
           | exact ix_map (List.getElem?_eq_getElem (by omega))
           | (simp only [List.length_map]; omega)
           | (intros; omega)
           | (refine Nat.le_trans (Nat.mul_le_mul_right _ (show _ ≤ 5000 by simp; omega)) (by decide))
           | (refine Nat.le_trans (Nat.mul_le_mul_right _ (show _ ≤ 5000 by simp)) (by decide))
           | (unfold maxLen; simp; omega)
           | (unfold maxLen; simp; done)
           | (intro e he; rw [List.mem_singleton.1 he]; rfl)
           | (simp; done)
           | (intros; simp_all; done)) ?_
      refine fin_ret rfl (cv_bo ?_)
      simp only [List.drop_zero] at hv; simp [hv]
  · refine run_to tm 100 [.br true] rfl (by
     repeat' first
       | exact trivial
       | refine And.intro ?_ ?_
       | exact fun h => h
       | rfl
       | assumption
       | (simp; omega; done)
       | (intros; simp; omega; done)
       | (intro a; rw [a]; done)
       | (intro a; rw [a]; rfl)
       | (intro a b; rw [a, b]; done)
       | (intro a b; rw [a, b]; rfl)
       | exact wrap_i64 (by omega) (by omega)
       | (intros; exact wrap_i64 (by omega) (by omega))
       | (exact decide_eq_true (by omega))
       | (exact decide_eq_false (by omega))
       | exact ix_map (List.getElem?_eq_getElem (by omega))
       | (simp only [List.length_map]; omega)
       | (intros; omega)
       | (refine Nat.le_trans (Nat.mul_le_mul_right _ (show _ ≤ 5000 by simp; omega)) (by decide))
       | (refine Nat.le_trans (Nat.mul_le_mul_right _ (show _ ≤ 5000 by simp)) (by decide))
       | (unfold maxLen; simp; omega)
       | (unfold maxLen; simp; done)
       | (intro e he; rw [List.mem_singleton.1 he]; rfl)
       | (simp; done)
       | (intros; simp_all; done)) ?_
    refine fin_ret rfl (cv_bo ?_)
    have : a ≠ b := fun e => h (by rw [e])
    simp [this]

theorem fn34 : FnOk Try.prog 34 Try.f34 (bodyOf Try.f34) := ⟨Try.func34, by kernel_rfl, rfl⟩
theorem recs_off {late : Bool} {m : Int} {x : Ev} {l : List Ev} (hx : x.mark = false) (h : (decide (x.r.time < m) == late) = false) : recs late m (x :: l) = recs late (mstep m x) l := by
  show (if _ then _ else _) = _
  rw [hx, h]; rfl
theorem recs_on {late : Bool} {m : Int} {x : Ev} {l : List Ev} (hx : x.mark = false) (h : (decide (x.r.time < m) == late) = true) : recs late m (x :: l) = x.r :: recs late (mstep m x) l := by
  show (if _ then _ else _) = _
  rw [hx, h]; rfl
theorem sz5 (l : List Ev) : ∀ e ∈ l.map encE, e.cells.length = 5 := by
  intro e he
  obtain ⟨x, _, rfl⟩ := List.mem_map.1 he
  rfl

theorem cvTake {H : Heap} {l : List Ev} {k : Nat} : Cv false H (.list false (((l.map encE).drop ((0 : Nat) : Int).toNat).take (((k : Nat) : Int).toNat - ((0 : Nat) : Int).toNat))) (encEs false (l.take k)) := by
  have : ((l.map encE).drop ((0 : Nat) : Int).toNat).take (((k : Nat) : Int).toNat - ((0 : Nat) : Int).toNat) = (l.take k).map encE := by simp
  rw [this]; exact cvEs

theorem records_loop {Q : AExit → St → Mu → Prop} {μ : Mu} (l : List Ev) (hl : l.length ≤ 100) (late : Bool) : ∀ (j k : Nat) (acc : List R3), k + j = l.length → acc.length ≤ k →
    (SemK Try.prog 43 0 Q (.exit (.exit 0)) [] ⟨fr [(5, slA 0 ((acc ++ recs late (markF lowest (l.take k)) (l.drop k)).map encR))], hp (optG 0 3 ((acc ++ recs late (markF lowest (l.take k)) (l.drop k)).map encR)), 1⟩ μ) →
    SemK Try.prog 43 0 Q (.loop (loopB 0 (bodyOf Try.f34))) [] ⟨fr [(0, encEs false l), (1, bo late), (5, slA 0 (acc.map encR)), (6, i64 k)], hp (optG 0 3 (acc.map encR)), 1⟩ μ := by
  intro j
  induction j with
  | zero =>
    intro k acc hk ha h1
    rw [List.drop_of_length_le (by omega)] at h1
    simp only [recs, List.append_nil] at h1
    rcases acc with _ | ⟨r0, acc⟩
    all_goals
      refine SemK.round ?_
      refine run_to tm 200 [.br false] rfl (by
         repeat' first
           | exact trivial
           | refine And.intro ?_ ?_
           | exact fun h => h
           | rfl
           | assumption
           | exact (decide_eq_false (by simp; omega))
           | (intros; exact (decide_eq_false (by simp; omega)))
           | (intro a; rw [a]; done)
           | (intro a; rw [a]; rfl)
           | (intro a b; rw [a, b]; done)
           | (intro a b; rw [a, b]; rfl)
           | exact wrap_i64 (by omega) (by omega)
           | (intros; exact wrap_i64 (by omega) (by omega))
           | (exact decide_eq_true (by omega))
           | (exact decide_eq_false (by omega))
           | exact ix_map (List.getElem?_eq_getElem (by omega))
           | (simp only [List.length_map]; omega)
           | (intros; omega)
           | (refine Nat.le_trans (Nat.mul_le_mul_right _ (show _ ≤ 5000 by simp; omega)) (by decide))
           | (refine Nat.le_trans (Nat.mul_le_mul_right _ (show _ ≤ 5000 by simp)) (by decide))
           | (unfold maxLen; simp; omega)
           | (unfold maxLen; simp; done)
           | (intro e he; rw [List.mem_singleton.1 he]; rfl)
           | (simp; done)
           | (intros; simp_all; done)) ?_
      refine SemK.weakTo [] (h1) rfl
         (by
           repeat' first
             | exact trivial
             | rfl
             | exact .sc
             | exact .list
             | exact .nils
             | exact .ref (by decide)
             | exact .ptr (by decide)
             | assumption
             | (refine .fn ?_; intro a ha; simp at ha; subst ha; exact .ptr (by decide))
             | (refine congrArg (fun z => AV.sc (Value.int IntKind.i64 z)) ?_; first | rfl | omega | assumption | (simp; done) | (simp; omega))
             | (refine congrArg (fun z => AV.sc (Value.bool z)) ?_; first | rfl | assumption | (simp; done))
             | (refine congrArg (fun z => AV.ref _ 0 z) ?_; first | rfl | omega | (simp; done) | (simp; omega))
             | (show AV.ref _ 0 _ = AV.ref _ 0 _; congr 1; (simp; done))
             | refine And.intro ?_ ?_)
         (by
           repeat' first
             | exact trivial
             | rfl
             | decide
             | exact ⟨_, rfl, rfl, rfl⟩
             | exact ok_flat flat1
             | (refine ok_flat ?_; repeat' first | exact flatSc | exact allNil | exact flatR _ | exact flatE _ | exact flat1R _ | exact flat1E _ | refine allCons ?_ ?_ | refine allApp ?_ ?_)
             | (refine ⟨_, rfl, rfl, Eq.trans ?_ (ren_still ?_ _)⟩; (first | rfl | (simp; done) | (simp; rfl) | (simp only [List.map_append, List.map_cons, List.map_nil, List.cons_append]; rfl)); (repeat' first | exact stillSc | exact allNil | exact stillR _ | exact stillE _ | exact still1R _ | exact still1E _ | refine allCons ?_ ?_ | refine allApp ?_ ?_))
             | refine And.intro ?_ ?_)
  | succ j ih =>
    intro k acc hk ha h1
    have hk' : k < l.length := by omega
    have hd : l.drop k = l[k] :: l.drop (k + 1) := List.drop_eq_getElem_cons hk'
    have ht : markF lowest (l.take (k + 1)) = mstep (markF lowest (l.take k)) l[k] := by rw [List.take_succ_eq_append_getElem hk']; simp only [markF, List.foldl_append, List.foldl_cons, List.foldl_nil]
    rw [hd] at h1
    have hof := of_pure (l.take k) (by unfold maxLen; simp; omega)
    have hg := getE l k hk'
    generalize hm : markF lowest (l.take k) = m at *
    have hih := ih (k + 1)
    rw [ht] at hih
    generalize l[k] = x at *
    cases hx : x.mark with
    | true =>
      have hr : recs late m (x :: l.drop (k + 1)) = recs late (mstep m x) (l.drop (k + 1)) := by simp [recs, hx]
      rw [hr] at h1
      rcases acc with _ | ⟨r0, acc⟩
      all_goals
        simp only [List.length_cons, List.length_nil] at ha
        refine SemK.round ?_
        refine run_to tm 200 [.br true, .el (encE x), .go false, .go false, .go false, .go false, .go false, .go false, .go false, .go false, .go false, .go false, .go false, .go false, .go false, .go false, .br false] rfl (by
           repeat' first
             | exact trivial
             | refine And.intro ?_ ?_
             | exact fun h => h
             | rfl
             | assumption
             | exact (hg)
             | (intros; exact (hg))
             | (rw [hx]; rfl; done)
             | (intros; rw [hx]; rfl; done)
             | exact (decide_eq_true (by simp; omega))
             | (intros; exact (decide_eq_true (by simp; omega)))
             | (intro a; rw [a]; done)
             | (intro a; rw [a]; rfl)
             | (intro a b; rw [a, b]; done)
             | (intro a b; rw [a, b]; rfl)
             | exact wrap_i64 (by omega) (by omega)
             | (intros; exact wrap_i64 (by omega) (by omega))
             | (exact decide_eq_true (by omega))
             | (exact decide_eq_false (by omega))
             | exact ix_map (List.getElem?_eq_getElem (by omega))
             | (simp only [List.length_map]; omega)
             | (intros; omega)
             | (refine Nat.le_trans (Nat.mul_le_mul_right _ (show _ ≤ 5000 by simp; omega)) (by decide))
             | (refine Nat.le_trans (Nat.mul_le_mul_right _ (show _ ≤ 5000 by simp)) (by decide))
             | (unfold maxLen; simp; omega)
             | (unfold maxLen; simp; done)
             | (intro e he; rw [List.mem_singleton.1 he]; rfl)
             | (simp; done)
             | (intros; simp_all; done)) ?_
        refine SemK.weakTo [] (hih _ (by omega) (by first | (simp; done) | (simp; omega)) h1) rfl
           (by
             repeat' first
               | exact trivial
               | rfl
               | exact .sc
               | exact .list
               | exact .nils
               | exact .ref (by decide)
               | exact .ptr (by decide)
               | assumption
               | (refine .fn ?_; intro a ha; simp at ha; subst ha; exact .ptr (by decide))
               | (refine congrArg (fun z => AV.sc (Value.int IntKind.i64 z)) ?_; first | rfl | omega | assumption | (simp; done) | (simp; omega))
               | (refine congrArg (fun z => AV.sc (Value.bool z)) ?_; first | rfl | assumption | (simp; done))
               | (refine congrArg (fun z => AV.ref _ 0 z) ?_; first | rfl | omega | (simp; done) | (simp; omega))
               | (show AV.ref _ 0 _ = AV.ref _ 0 _; congr 1; (simp; done))
               | refine And.intro ?_ ?_)
           (by
             repeat' first
               | exact trivial
               | rfl
               | decide
               | exact ⟨_, rfl, rfl, rfl⟩
               | exact ok_flat flat1
               | (refine ok_flat ?_; repeat' first | exact flatSc | exact allNil | exact flatR _ | exact flatE _ | exact flat1R _ | exact flat1E _ | refine allCons ?_ ?_ | refine allApp ?_ ?_)
               | (refine ⟨_, rfl, rfl, Eq.trans ?_ (ren_still ?_ _)⟩; (first | rfl | (simp; done) | (simp; rfl) | (simp only [List.map_append, List.map_cons, List.map_nil, List.cons_append]; rfl)); (repeat' first | exact stillSc | exact allNil | exact stillR _ | exact stillE _ | exact still1R _ | exact still1E _ | refine allCons ?_ ?_ | refine allApp ?_ ?_))
               | refine And.intro ?_ ?_)
    | false =>
      cases hlt : decide (x.r.time < m) == late with
      | false =>
        have hr : recs late m (x :: l.drop (k + 1)) = recs late (mstep m x) (l.drop (k + 1)) := recs_off hx hlt
        rw [hr] at h1
        rcases acc with _ | ⟨r0, acc⟩
        all_goals
          simp only [List.length_cons, List.length_nil] at ha
          refine SemK.round ?_
          refine run_to tm 200 [.br true, .el (encE x), .go true, .go true, .go true, .el (encE x), .go true, .go true, .go true, .go true, .go true, .go true, .go true, .pure [encEs false (l.take k)] (i64 m), .go true, .go true, .go true, .br false] rfl (by
             repeat' first
               | exact trivial
               | refine And.intro ?_ ?_
               | exact fun h => h
               | rfl
               | assumption
               | exact (hg)
               | (intros; exact (hg))
               | (rw [hx]; rfl; done)
               | (intros; rw [hx]; rfl; done)
               | exact (decide_eq_true (by simp; omega))
               | (intros; exact (decide_eq_true (by simp; omega)))
               | exact (PureCall.none hof (Cvs.cons cvTake .nil))
               | (intros; exact (PureCall.none hof (Cvs.cons cvTake .nil)))
               | exact (sz5 l)
               | (intros; exact (sz5 l))
               | (rw [hx]; exact hlt; done)
               | (intros; rw [hx]; exact hlt; done)
               | (intro a; rw [a]; done)
               | (intro a; rw [a]; rfl)
               | (intro a b; rw [a, b]; done)
               | (intro a b; rw [a, b]; rfl)
               | exact wrap_i64 (by omega) (by omega)
               | (intros; exact wrap_i64 (by omega) (by omega))
               | (exact decide_eq_true (by omega))
               | (exact decide_eq_false (by omega))
               | exact ix_map (List.getElem?_eq_getElem (by omega))
               | (simp only [List.length_map]; omega)
               | (intros; omega)
               | (refine Nat.le_trans (Nat.mul_le_mul_right _ (show _ ≤ 5000 by simp; omega)) (by decide))
               | (refine Nat.le_trans (Nat.mul_le_mul_right _ (show _ ≤ 5000 by simp)) (by decide))
               | (unfold maxLen; simp; omega)
               | (unfold maxLen; simp; done)
               | (intro e he; rw [List.mem_singleton.1 he]; rfl)
               | (simp; done)
               | (intros; simp_all; done)) ?_
          refine SemK.weakTo [] (hih _ (by omega) (by first | (simp; done) | (simp; omega)) h1) rfl
             (by
               repeat' first
                 | exact trivial
                 | rfl
                 | exact .sc
                 | exact .list
                 | exact .nils
                 | exact .ref (by decide)
                 | exact .ptr (by decide)
                 | assumption
                 | (refine .fn ?_; intro a ha; simp at ha; subst ha; exact .ptr (by decide))
                 | (refine congrArg (fun z => AV.sc (Value.int IntKind.i64 z)) ?_; first | rfl | omega | assumption | (simp; done) | (simp; omega))
                 | (refine congrArg (fun z => AV.sc (Value.bool z)) ?_; first | rfl | assumption | (simp; done))
                 | (refine congrArg (fun z => AV.ref _ 0 z) ?_; first | rfl | omega | (simp; done) | (simp; omega))
                 | (show AV.ref _ 0 _ = AV.ref _ 0 _; congr 1; (simp; done))
                 | refine And.intro ?_ ?_)
             (by
               repeat' first
                 | exact trivial
                 | rfl
                 | decide
                 | exact ⟨_, rfl, rfl, rfl⟩
                 | exact ok_flat flat1
                 | (refine ok_flat ?_; repeat' first | exact flatSc | exact allNil | exact flatR _ | exact flatE _ | exact flat1R _ | exact flat1E _ | refine allCons ?_ ?_ | refine allApp ?_ ?_)
                 | (refine ⟨_, rfl, rfl, Eq.trans ?_ (ren_still ?_ _)⟩; (first | rfl | (simp; done) | (simp; rfl) | (simp only [List.map_append, List.map_cons, List.map_nil, List.cons_append]; rfl)); (repeat' first | exact stillSc | exact allNil | exact stillR _ | exact stillE _ | exact still1R _ | exact still1E _ | refine allCons ?_ ?_ | refine allApp ?_ ?_))
                 | refine And.intro ?_ ?_)
      | true =>
        have hr : recs late m (x :: l.drop (k + 1)) = x.r :: recs late (mstep m x) (l.drop (k + 1)) := recs_on hx hlt
        rw [hr, List.append_cons] at h1
        rcases acc with _ | ⟨r0, acc⟩
        all_goals
          simp only [List.length_cons, List.length_nil] at ha
          refine SemK.round ?_
          refine run_to tm 200 [.br true, .el (encE x), .go true, .go true, .go true, .el (encE x), .go true, .go true, .go true, .go true, .go true, .go true, .go true, .pure [encEs false (l.take k)] (i64 m), .go true, .go true, .go true, .br true, .el (encE x)] rfl (by
             repeat' first
               | exact trivial
               | refine And.intro ?_ ?_
               | exact fun h => h
               | rfl
               | assumption
               | exact (hg)
               | (intros; exact (hg))
               | (rw [hx]; rfl; done)
               | (intros; rw [hx]; rfl; done)
               | exact (decide_eq_true (by simp; omega))
               | (intros; exact (decide_eq_true (by simp; omega)))
               | exact (PureCall.none hof (Cvs.cons cvTake .nil))
               | (intros; exact (PureCall.none hof (Cvs.cons cvTake .nil)))
               | exact (sz5 l)
               | (intros; exact (sz5 l))
               | (rw [hx]; exact hlt; done)
               | (intros; rw [hx]; exact hlt; done)
               | (intro a; rw [a]; done)
               | (intro a; rw [a]; rfl)
               | (intro a b; rw [a, b]; done)
               | (intro a b; rw [a, b]; rfl)
               | exact wrap_i64 (by omega) (by omega)
               | (intros; exact wrap_i64 (by omega) (by omega))
               | (exact decide_eq_true (by omega))
               | (exact decide_eq_false (by omega))
               | exact ix_map (List.getElem?_eq_getElem (by omega))
               | (simp only [List.length_map]; omega)
               | (intros; omega)
               | (refine Nat.le_trans (Nat.mul_le_mul_right _ (show _ ≤ 5000 by simp; omega)) (by decide))
               | (refine Nat.le_trans (Nat.mul_le_mul_right _ (show _ ≤ 5000 by simp)) (by decide))
               | (unfold maxLen; simp; omega)
               | (unfold maxLen; simp; done)
               | (intro e he; rw [List.mem_singleton.1 he]; rfl)
               | (simp; done)
               | (intros; simp_all; done)) ?_
          refine SemK.weakTo [(0, 23)] (hih _ (by omega) (by first | (simp; done) | (simp; omega)) h1) rfl
             (by
               repeat' first
                 | exact trivial
                 | rfl
                 | exact .sc
                 | exact .list
                 | exact .nils
                 | exact .ref (by decide)
                 | exact .ptr (by decide)
                 | assumption
                 | (refine .fn ?_; intro a ha; simp at ha; subst ha; exact .ptr (by decide))
                 | (refine congrArg (fun z => AV.sc (Value.int IntKind.i64 z)) ?_; first | rfl | omega | assumption | (simp; done) | (simp; omega))
                 | (refine congrArg (fun z => AV.sc (Value.bool z)) ?_; first | rfl | assumption | (simp; done))
                 | (refine congrArg (fun z => AV.ref _ 0 z) ?_; first | rfl | omega | (simp; done) | (simp; omega))
                 | (show AV.ref _ 0 _ = AV.ref _ 0 _; congr 1; (simp; done))
                 | refine And.intro ?_ ?_)
             (by
               repeat' first
                 | exact trivial
                 | rfl
                 | decide
                 | exact ⟨_, rfl, rfl, rfl⟩
                 | exact ok_flat flat1
                 | (refine ok_flat ?_; repeat' first | exact flatSc | exact allNil | exact flatR _ | exact flatE _ | exact flat1R _ | exact flat1E _ | refine allCons ?_ ?_ | refine allApp ?_ ?_)
                 | (refine ⟨_, rfl, rfl, Eq.trans ?_ (ren_still ?_ _)⟩; (first | rfl | (simp; done) | (simp; rfl) | (simp only [List.map_append, List.map_cons, List.map_nil, List.cons_append]; rfl)); (repeat' first | exact stillSc | exact allNil | exact stillR _ | exact stillE _ | exact still1R _ | exact still1E _ | refine allCons ?_ ?_ | refine allApp ?_ ?_))
                 | refine And.intro ?_ ?_)
theorem cvSl {H : Heap} (l : List R3) (hH : H = hp (optG 0 3 (l.map encR))) : Cv true H (slA 0 (l.map encR)) (encRs true l) := by
  subst hH
  cases l with
  | nil => exact .nils
  | cons r l => exact cv_ref (x := { es := encR r :: l.map encR, esz := 3 }) rfl rfl rfl (flatR (r :: l))

theorem records_pure (l : List Ev) (hl : l.length ≤ 100) (late : Bool) : Pure Try.prog 34 [encEs false l, bo late] (encRs true (recs late lowest l)) := by
  refine Pure.sym tyTab_ok fn34 (nt := 43) rfl rfl ?_ (by intro a ha; simp at ha; rcases ha with rfl | rfl; exact .list; exact .sc)
  refine run_to tm 100 [] rfl (by
     repeat' first
       | exact trivial
       | refine And.intro ?_ ?_
       | exact fun h => h
       | rfl
       | assumption
       | (intro a; rw [a]; done)
       | (intro a; rw [a]; rfl)
       | (intro a b; rw [a, b]; done)
       | (intro a b; rw [a, b]; rfl)
       | exact wrap_i64 (by omega) (by omega)
       | (intros; exact wrap_i64 (by omega) (by omega))
       | (exact decide_eq_true (by omega))
       | (exact decide_eq_false (by omega))
       | exact ix_map (List.getElem?_eq_getElem (by omega))
       | (simp only [List.length_map]; omega)
       | (intros; omega)
       | (refine Nat.le_trans (Nat.mul_le_mul_right _ (show _ ≤ 5000 by simp; omega)) (by decide))
       | (refine Nat.le_trans (Nat.mul_le_mul_right _ (show _ ≤ 5000 by simp)) (by decide))
       | (unfold maxLen; simp; omega)
       | (unfold maxLen; simp; done)
       | (intro e he; rw [List.mem_singleton.1 he]; rfl)
       | (simp; done)
       | (intros; simp_all; done)) ?_
  refine SemK.weakTo [] (SemK.cut (records_loop l hl late l.length 0 [] (by omega) (by simp) ?_)) rfl
     (by
       repeat' first
         | exact trivial
         | rfl
         | exact .sc
         | exact .list
         | exact .nils
         | exact .ref (by decide)
         | exact .ptr (by decide)
         | assumption
         | (refine .fn ?_; intro a ha; simp at ha; subst ha; exact .ptr (by decide))
         | (refine congrArg (fun z => AV.sc (Value.int IntKind.i64 z)) ?_; first | rfl | omega | assumption | (simp; done) | (simp; omega))
         | (refine congrArg (fun z => AV.sc (Value.bool z)) ?_; first | rfl | assumption | (simp; done))
         | (refine congrArg (fun z => AV.ref _ 0 z) ?_; first | rfl | omega | (simp; done) | (simp; omega))
         | (show AV.ref _ 0 _ = AV.ref _ 0 _; congr 1; (simp; done))
         | refine And.intro ?_ ?_)
     (by
       repeat' first
         | exact trivial
         | rfl
         | decide
         | exact ⟨_, rfl, rfl, rfl⟩
         | exact ok_flat flat1
         | (refine ok_flat ?_; repeat' first | exact flatSc | exact allNil | exact flatR _ | exact flatE _ | exact flat1R _ | exact flat1E _ | refine allCons ?_ ?_ | refine allApp ?_ ?_)
         | (refine ⟨_, rfl, rfl, Eq.trans ?_ (ren_still ?_ _)⟩; (first | rfl | (simp; done) | (simp; rfl) | (simp only [List.map_append, List.map_cons, List.map_nil, List.cons_append]; rfl)); (repeat' first | exact stillSc | exact allNil | exact stillR _ | exact stillE _ | exact still1R _ | exact still1E _ | refine allCons ?_ ?_ | refine allApp ?_ ?_))
         | refine And.intro ?_ ?_)
  refine SemK.glue ?_
  simp only [List.nil_append, List.take_zero, List.drop_zero]
  have hm : markF lowest [] = lowest := rfl
  rw [hm]
  have hc := @cvSl _ (recs late lowest l) rfl
  generalize recs late lowest l = rs at *
  rcases rs with _ | ⟨r0, rs⟩
  all_goals
    refine run_to tm 100 [] rfl (by
       repeat' first
         | exact trivial
         | refine And.intro ?_ ?_
         | exact fun h => h
         | rfl
         | assumption
         | (intro a; rw [a]; done)
         | (intro a; rw [a]; rfl)
         | (intro a b; rw [a, b]; done)
         | (intro a b; rw [a, b]; rfl)
         | exact wrap_i64 (by omega) (by omega)
         | (intros; exact wrap_i64 (by omega) (by omega))
         | (exact decide_eq_true (by omega))
         | (exact decide_eq_false (by omega))
         | exact ix_map (List.getElem?_eq_getElem (by omega))
         | (simp only [List.length_map]; omega)
         | (intros; omega)
         | (refine Nat.le_trans (Nat.mul_le_mul_right _ (show _ ≤ 5000 by simp; omega)) (by decide))
         | (refine Nat.le_trans (Nat.mul_le_mul_right _ (show _ ≤ 5000 by simp)) (by decide))
         | (unfold maxLen; simp; omega)
         | (unfold maxLen; simp; done)
         | (intro e he; rw [List.mem_singleton.1 he]; rfl)
         | (simp; done)
         | (intros; simp_all; done)) ?_
    exact fin_ret rfl hc

theorem fn18 : FnOk Try.prog 18 Try.f18 (bodyOf Try.f18) := ⟨Try.func18, by kernel_rfl, rfl⟩
theorem rsplit_pure (l : List Ev) (hl : l.length ≤ 100) : Pure Try.prog 18 [encEs false l] (.tup [encRs true (rightS l), encRs true (lateS l), i64 (chk l)]) := by
  refine Pure.sym tyTab_ok fn18 (nt := 15) rfl rfl ?_ (by intro a ha; simp at ha; subst ha; exact .list)
  by_cases h : chk l = 0
  · refine run_to tm 100 [.pure [encEs false l] (i64 (chk l)), .br false, .pure [encEs false l, bo false] (encRs true (recs false lowest l)), .pure [encEs false l, bo true] (encRs true (recs true lowest l))] rfl
      (by
         repeat' first
           | exact trivial
           | refine And.intro ?_ ?_
           | exact fun h => h
           | rfl
           | assumption
           | exact (PureCall.none (rcheck_pure _) (Cvs.cons cvEs .nil))
           | (intros; exact (PureCall.none (rcheck_pure _) (Cvs.cons cvEs .nil)))
           | (rw [h]; rfl; done)
           | (intros; rw [h]; rfl; done)
           | exact (PureCall.none (records_pure _ hl _) (Cvs.cons cvEs (.cons .sc .nil)))
           | (intros; exact (PureCall.none (records_pure _ hl _) (Cvs.cons cvEs (.cons .sc .nil))))
           | (intro a; rw [a]; done)
           | (intro a; rw [a]; rfl)
           | (intro a b; rw [a, b]; done)
           | (intro a b; rw [a, b]; rfl)
           | exact wrap_i64 (by omega) (by omega)
           | (intros; exact wrap_i64 (by omega) (by omega))
           | (exact decide_eq_true (by omega))
           | (exact decide_eq_false (by omega))
           | exact ix_map (List.getElem?_eq_getElem (by omega))
           | (simp only [List.length_map]; omega)
           | (intros; omega)
           | (refine Nat.le_trans (Nat.mul_le_mul_right _ (show _ ≤ 5000 by simp; omega)) (by decide))
           | (refine Nat.le_trans (Nat.mul_le_mul_right _ (show _ ≤ 5000 by simp)) (by decide))
           | (unfold maxLen; simp; omega)
           | (unfold maxLen; simp; done)
           | (intro e he; rw [List.mem_singleton.1 he]; rfl)
           | (simp; done)
           | (intros; simp_all; done)) ?_
    refine fin_ret rfl ?_
    rw [show rightS l = recs false lowest l by simp [rightS, h], show lateS l = recs true lowest l by simp [lateS, h], h]
    exact cv_tup3 cv_own cv_own .sc
  · refine run_to tm 100 [.pure [encEs false l] (i64 (chk l)), .br true] rfl (by
     repeat' first
       | exact trivial
       | refine And.intro ?_ ?_
       | exact fun h => h
       | rfl
       | assumption
       | exact (PureCall.none (rcheck_pure _) (Cvs.cons cvEs .nil))
       | (intros; exact (PureCall.none (rcheck_pure _) (Cvs.cons cvEs .nil)))
       | (simp [h]; done)
       | (intros; simp [h]; done)
       | (intro a; rw [a]; done)
       | (intro a; rw [a]; rfl)
       | (intro a b; rw [a, b]; done)
       | (intro a b; rw [a, b]; rfl)
       | exact wrap_i64 (by omega) (by omega)
       | (intros; exact wrap_i64 (by omega) (by omega))
       | (exact decide_eq_true (by omega))
       | (exact decide_eq_false (by omega))
       | exact ix_map (List.getElem?_eq_getElem (by omega))
       | (simp only [List.length_map]; omega)
       | (intros; omega)
       | (refine Nat.le_trans (Nat.mul_le_mul_right _ (show _ ≤ 5000 by simp; omega)) (by decide))
       | (refine Nat.le_trans (Nat.mul_le_mul_right _ (show _ ≤ 5000 by simp)) (by decide))
       | (unfold maxLen; simp; omega)
       | (unfold maxLen; simp; done)
       | (intro e he; rw [List.mem_singleton.1 he]; rfl)
       | (simp; done)
       | (intros; simp_all; done)) ?_
    refine fin_ret rfl ?_
    rw [show rightS l = [] by simp [rightS, h], show lateS l = [] by simp [lateS, h]]
    exact cv_tup3 .nils .nils .sc

theorem fn17 : FnOk Try.prog 17 Try.f17 (bodyOf Try.f17) := ⟨Try.func17, by kernel_rfl, rfl⟩
/-- The objects of a loop over events: the mark, and two lists. -/
def spG (m : Int) (r b : List R3) : List (Nat × Obj) := (0, { es := [i64 m], esz := 1 }) :: (optG 1 3 (r.map encR) ++ optG 2 3 (b.map encR))

theorem split_loop {Q : AExit → St → Mu → Prop} {μ : Mu} (l : List Ev) (hl : l.length ≤ 60) : ∀ (j k : Nat) (m : Int) (r b : List R3), k + j = l.length → r.length ≤ k → b.length ≤ k →
    (∀ m', SemK Try.prog 47 0 Q (.exit (.exit 0)) [] ⟨fr [(2, slA 1 ((r ++ recs false m (l.drop k)).map encR)), (3, slA 2 ((b ++ recs true m (l.drop k)).map encR))], hp (spG m' (r ++ recs false m (l.drop k)) (b ++ recs true m (l.drop k))), 3⟩ μ) →
    SemK Try.prog 47 0 Q (.loop (loopB 0 (bodyOf Try.f17))) [] ⟨fr [(2, slA 1 (r.map encR)), (3, slA 2 (b.map encR)), (6, .fn 37 [.ptr 0 0 0]), (16, encEs false l), (17, i64 l.length), (18, i64 k)], hp (spG m r b), 3⟩ μ := by
  intro j
  induction j with
  | zero =>
    intro k m r b hk hr hb h1
    have h1 := h1 m
    rw [List.drop_of_length_le (by omega)] at h1
    simp only [recs, List.append_nil] at h1
    rcases r with _ | ⟨r0, r⟩ <;> rcases b with _ | ⟨b0, b⟩
    all_goals
      refine SemK.round ?_
      refine run_to tm 200 [.br false] rfl (by
         repeat' first
           | exact trivial
           | refine And.intro ?_ ?_
           | exact fun h => h
           | rfl
           | assumption
           | exact (decide_eq_false (by simp; omega))
           | (intros; exact (decide_eq_false (by simp; omega)))
           | (intro a; rw [a]; done)
           | (intro a; rw [a]; rfl)
           | (intro a b; rw [a, b]; done)
           | (intro a b; rw [a, b]; rfl)
           | exact wrap_i64 (by omega) (by omega)
           | (intros; exact wrap_i64 (by omega) (by omega))
           | (exact decide_eq_true (by omega))
           | (exact decide_eq_false (by omega))
           | exact ix_map (List.getElem?_eq_getElem (by omega))
           | (simp only [List.length_map]; omega)
           | (intros; omega)
           | (refine Nat.le_trans (Nat.mul_le_mul_right _ (show _ ≤ 5000 by simp; omega)) (by decide))
           | (refine Nat.le_trans (Nat.mul_le_mul_right _ (show _ ≤ 5000 by simp)) (by decide))
           | (unfold maxLen; simp; omega)
           | (unfold maxLen; simp; done)
           | (intro e he; rw [List.mem_singleton.1 he]; rfl)
           | (simp; done)
           | (intros; simp_all; done)) ?_
      refine SemK.weakTo [] (h1) rfl
         (by
           repeat' first
             | exact trivial
             | rfl
             | exact .sc
             | exact .list
             | exact .nils
             | exact .ref (by decide)
             | exact .ptr (by decide)
             | assumption
             | (refine .fn ?_; intro a ha; simp at ha; subst ha; exact .ptr (by decide))
             | (refine congrArg (fun z => AV.sc (Value.int IntKind.i64 z)) ?_; first | rfl | omega | assumption | (simp; done) | (simp; omega))
             | (refine congrArg (fun z => AV.sc (Value.bool z)) ?_; first | rfl | assumption | (simp; done))
             | (refine congrArg (fun z => AV.ref _ 0 z) ?_; first | rfl | omega | (simp; done) | (simp; omega))
             | (show AV.ref _ 0 _ = AV.ref _ 0 _; congr 1; (simp; done))
             | refine And.intro ?_ ?_)
         (by
           repeat' first
             | exact trivial
             | rfl
             | decide
             | exact ⟨_, rfl, rfl, rfl⟩
             | exact ok_flat flat1
             | (refine ok_flat ?_; repeat' first | exact flatSc | exact allNil | exact flatR _ | exact flatE _ | exact flat1R _ | exact flat1E _ | refine allCons ?_ ?_ | refine allApp ?_ ?_)
             | (refine ⟨_, rfl, rfl, Eq.trans ?_ (ren_still ?_ _)⟩; (first | rfl | (simp; done) | (simp; rfl) | (simp only [List.map_append, List.map_cons, List.map_nil, List.cons_append]; rfl)); (repeat' first | exact stillSc | exact allNil | exact stillR _ | exact stillE _ | exact still1R _ | exact still1E _ | refine allCons ?_ ?_ | refine allApp ?_ ?_))
             | refine And.intro ?_ ?_)
  | succ j ih =>
    intro k m r b hk hr hb h1
    have hk' : k < l.length := by omega
    have hd : l.drop k = l[k] :: l.drop (k + 1) := List.drop_eq_getElem_cons hk'
    rw [hd] at h1
    have hg := getE l k hk'
    have ih := ih (k + 1)
    generalize l[k] = x at *
    cases hx : x.mark with
    | true =>
      have e1 : ∀ q, recs q m (x :: l.drop (k + 1)) = recs q (mstep m x) (l.drop (k + 1)) := fun q => by simp [recs, hx]
      simp only [e1] at h1
      rw [← mstep_max m x hx] at h1
      rcases r with _ | ⟨r0, r⟩ <;> rcases b with _ | ⟨b0, b⟩
      all_goals
        simp only [List.length_cons, List.length_nil] at hr hb
        refine SemK.round ?_
        refine run_to tm 200 [.br true, .el (encE x)] rfl (by
           repeat' first
             | exact trivial
             | refine And.intro ?_ ?_
             | exact fun h => h
             | rfl
             | assumption
             | exact (hg)
             | (intros; exact (hg))
             | exact (decide_eq_true (by simp; omega))
             | (intros; exact (decide_eq_true (by simp; omega)))
             | (intro a; rw [a]; done)
             | (intro a; rw [a]; rfl)
             | (intro a b; rw [a, b]; done)
             | (intro a b; rw [a, b]; rfl)
             | exact wrap_i64 (by omega) (by omega)
             | (intros; exact wrap_i64 (by omega) (by omega))
             | (exact decide_eq_true (by omega))
             | (exact decide_eq_false (by omega))
             | exact ix_map (List.getElem?_eq_getElem (by omega))
             | (simp only [List.length_map]; omega)
             | (intros; omega)
             | (refine Nat.le_trans (Nat.mul_le_mul_right _ (show _ ≤ 5000 by simp; omega)) (by decide))
             | (refine Nat.le_trans (Nat.mul_le_mul_right _ (show _ ≤ 5000 by simp)) (by decide))
             | (unfold maxLen; simp; omega)
             | (unfold maxLen; simp; done)
             | (intro e he; rw [List.mem_singleton.1 he]; rfl)
             | (simp; done)
             | (intros; simp_all; done)) ?_
        refine SemK.inline tyTab_ok fn37 rfl rfl rfl rfl rfl trivial trivial rfl rfl ?_
        refine run_to tm 200 [.br true] rfl (by
           repeat' first
             | exact trivial
             | refine And.intro ?_ ?_
             | exact fun h => h
             | rfl
             | assumption
             | exact (hx)
             | (intros; exact (hx))
             | (intro a; rw [a]; done)
             | (intro a; rw [a]; rfl)
             | (intro a b; rw [a, b]; done)
             | (intro a b; rw [a, b]; rfl)
             | exact wrap_i64 (by omega) (by omega)
             | (intros; exact wrap_i64 (by omega) (by omega))
             | (exact decide_eq_true (by omega))
             | (exact decide_eq_false (by omega))
             | exact ix_map (List.getElem?_eq_getElem (by omega))
             | (simp only [List.length_map]; omega)
             | (intros; omega)
             | (refine Nat.le_trans (Nat.mul_le_mul_right _ (show _ ≤ 5000 by simp; omega)) (by decide))
             | (refine Nat.le_trans (Nat.mul_le_mul_right _ (show _ ≤ 5000 by simp)) (by decide))
             | (unfold maxLen; simp; omega)
             | (unfold maxLen; simp; done)
             | (intro e he; rw [List.mem_singleton.1 he]; rfl)
             | (simp; done)
             | (intros; simp_all; done)) ?_
        refine SemK.back (by intro id h; cases h) rfl ?_
        refine run_to tm 200 [.br true] rfl (by
           repeat' first
             | exact trivial
             | refine And.intro ?_ ?_
             | exact fun h => h
             | rfl
             | assumption
             | exact (hx)
             | (intros; exact (hx))
             | (intro a; rw [a]; done)
             | (intro a; rw [a]; rfl)
             | (intro a b; rw [a, b]; done)
             | (intro a b; rw [a, b]; rfl)
             | exact wrap_i64 (by omega) (by omega)
             | (intros; exact wrap_i64 (by omega) (by omega))
             | (exact decide_eq_true (by omega))
             | (exact decide_eq_false (by omega))
             | exact ix_map (List.getElem?_eq_getElem (by omega))
             | (simp only [List.length_map]; omega)
             | (intros; omega)
             | (refine Nat.le_trans (Nat.mul_le_mul_right _ (show _ ≤ 5000 by simp; omega)) (by decide))
             | (refine Nat.le_trans (Nat.mul_le_mul_right _ (show _ ≤ 5000 by simp)) (by decide))
             | (unfold maxLen; simp; omega)
             | (unfold maxLen; simp; done)
             | (intro e he; rw [List.mem_singleton.1 he]; rfl)
             | (simp; done)
             | (intros; simp_all; done)) ?_
        refine SemK.weakTo [] (ih _ _ _ (by omega) (by first | (simp; done) | (simp; omega)) (by first | (simp; done) | (simp; omega)) h1) rfl
           (by
             repeat' first
               | exact trivial
               | rfl
               | exact .sc
               | exact .list
               | exact .nils
               | exact .ref (by decide)
               | exact .ptr (by decide)
               | assumption
               | (refine .fn ?_; intro a ha; simp at ha; subst ha; exact .ptr (by decide))
               | (refine congrArg (fun z => AV.sc (Value.int IntKind.i64 z)) ?_; first | rfl | omega | assumption | (simp; done) | (simp; omega))
               | (refine congrArg (fun z => AV.sc (Value.bool z)) ?_; first | rfl | assumption | (simp; done))
               | (refine congrArg (fun z => AV.ref _ 0 z) ?_; first | rfl | omega | (simp; done) | (simp; omega))
               | (show AV.ref _ 0 _ = AV.ref _ 0 _; congr 1; (simp; done))
               | refine And.intro ?_ ?_)
           (by
             repeat' first
               | exact trivial
               | rfl
               | decide
               | exact ⟨_, rfl, rfl, rfl⟩
               | exact ok_flat flat1
               | (refine ok_flat ?_; repeat' first | exact flatSc | exact allNil | exact flatR _ | exact flatE _ | exact flat1R _ | exact flat1E _ | refine allCons ?_ ?_ | refine allApp ?_ ?_)
               | (refine ⟨_, rfl, rfl, Eq.trans ?_ (ren_still ?_ _)⟩; (first | rfl | (simp; done) | (simp; rfl) | (simp only [List.map_append, List.map_cons, List.map_nil, List.cons_append]; rfl)); (repeat' first | exact stillSc | exact allNil | exact stillR _ | exact stillE _ | exact still1R _ | exact still1E _ | refine allCons ?_ ?_ | refine allApp ?_ ?_))
               | refine And.intro ?_ ?_)
    | false =>
      have e0 : mstep m x = m := by unfold mstep; rw [hx]; rfl
      cases hlt : decide (x.r.time < m) with
      | true =>
        have e1 : recs false m (x :: l.drop (k + 1)) = recs false m (l.drop (k + 1)) := by rw [recs_off hx (by rw [hlt]; rfl), e0]
        have e2 : recs true m (x :: l.drop (k + 1)) = x.r :: recs true m (l.drop (k + 1)) := by rw [recs_on hx (by rw [hlt]; rfl), e0]
        rw [e1, e2, List.append_cons b] at h1
        rcases r with _ | ⟨r0, r⟩ <;> rcases b with _ | ⟨b0, b⟩
        all_goals
          simp only [List.length_cons, List.length_nil] at hr hb
          refine SemK.round ?_
          refine run_to tm 200 [.br true, .el (encE x)] rfl (by
             repeat' first
               | exact trivial
               | refine And.intro ?_ ?_
               | exact fun h => h
               | rfl
               | assumption
               | exact (hg)
               | (intros; exact (hg))
               | exact (decide_eq_true (by simp; omega))
               | (intros; exact (decide_eq_true (by simp; omega)))
               | (intro a; rw [a]; done)
               | (intro a; rw [a]; rfl)
               | (intro a b; rw [a, b]; done)
               | (intro a b; rw [a, b]; rfl)
               | exact wrap_i64 (by omega) (by omega)
               | (intros; exact wrap_i64 (by omega) (by omega))
               | (exact decide_eq_true (by omega))
               | (exact decide_eq_false (by omega))
               | exact ix_map (List.getElem?_eq_getElem (by omega))
               | (simp only [List.length_map]; omega)
               | (intros; omega)
               | (refine Nat.le_trans (Nat.mul_le_mul_right _ (show _ ≤ 5000 by simp; omega)) (by decide))
               | (refine Nat.le_trans (Nat.mul_le_mul_right _ (show _ ≤ 5000 by simp)) (by decide))
               | (unfold maxLen; simp; omega)
               | (unfold maxLen; simp; done)
               | (intro e he; rw [List.mem_singleton.1 he]; rfl)
               | (simp; done)
               | (intros; simp_all; done)) ?_
          refine SemK.inline tyTab_ok fn37 rfl rfl rfl rfl rfl trivial trivial rfl rfl ?_
          refine run_to tm 200 [.br false] rfl (by
             repeat' first
               | exact trivial
               | refine And.intro ?_ ?_
               | exact fun h => h
               | rfl
               | assumption
               | exact (hx)
               | (intros; exact (hx))
               | (intro a; rw [a]; done)
               | (intro a; rw [a]; rfl)
               | (intro a b; rw [a, b]; done)
               | (intro a b; rw [a, b]; rfl)
               | exact wrap_i64 (by omega) (by omega)
               | (intros; exact wrap_i64 (by omega) (by omega))
               | (exact decide_eq_true (by omega))
               | (exact decide_eq_false (by omega))
               | exact ix_map (List.getElem?_eq_getElem (by omega))
               | (simp only [List.length_map]; omega)
               | (intros; omega)
               | (refine Nat.le_trans (Nat.mul_le_mul_right _ (show _ ≤ 5000 by simp; omega)) (by decide))
               | (refine Nat.le_trans (Nat.mul_le_mul_right _ (show _ ≤ 5000 by simp)) (by decide))
               | (unfold maxLen; simp; omega)
               | (unfold maxLen; simp; done)
               | (intro e he; rw [List.mem_singleton.1 he]; rfl)
               | (simp; done)
               | (intros; simp_all; done)) ?_
          refine SemK.back (by intro id h; cases h) rfl ?_
          refine run_to tm 200 [.br false, .br true] rfl (by
             repeat' first
               | exact trivial
               | refine And.intro ?_ ?_
               | exact fun h => h
               | rfl
               | assumption
               | exact (hx)
               | (intros; exact (hx))
               | exact (hlt)
               | (intros; exact (hlt))
               | (intro a; rw [a]; done)
               | (intro a; rw [a]; rfl)
               | (intro a b; rw [a, b]; done)
               | (intro a b; rw [a, b]; rfl)
               | exact wrap_i64 (by omega) (by omega)
               | (intros; exact wrap_i64 (by omega) (by omega))
               | (exact decide_eq_true (by omega))
               | (exact decide_eq_false (by omega))
               | exact ix_map (List.getElem?_eq_getElem (by omega))
               | (simp only [List.length_map]; omega)
               | (intros; omega)
               | (refine Nat.le_trans (Nat.mul_le_mul_right _ (show _ ≤ 5000 by simp; omega)) (by decide))
               | (refine Nat.le_trans (Nat.mul_le_mul_right _ (show _ ≤ 5000 by simp)) (by decide))
               | (unfold maxLen; simp; omega)
               | (unfold maxLen; simp; done)
               | (intro e he; rw [List.mem_singleton.1 he]; rfl)
               | (simp; done)
               | (intros; simp_all; done)) ?_
          refine SemK.weakTo [(2, 6)] (ih _ _ _ (by omega) (by first | (simp; done) | (simp; omega)) (by first | (simp; done) | (simp; omega)) h1) rfl
             (by
               repeat' first
                 | exact trivial
                 | rfl
                 | exact .sc
                 | exact .list
                 | exact .nils
                 | exact .ref (by decide)
                 | exact .ptr (by decide)
                 | assumption
                 | (refine .fn ?_; intro a ha; simp at ha; subst ha; exact .ptr (by decide))
                 | (refine congrArg (fun z => AV.sc (Value.int IntKind.i64 z)) ?_; first | rfl | omega | assumption | (simp; done) | (simp; omega))
                 | (refine congrArg (fun z => AV.sc (Value.bool z)) ?_; first | rfl | assumption | (simp; done))
                 | (refine congrArg (fun z => AV.ref _ 0 z) ?_; first | rfl | omega | (simp; done) | (simp; omega))
                 | (show AV.ref _ 0 _ = AV.ref _ 0 _; congr 1; (simp; done))
                 | refine And.intro ?_ ?_)
             (by
               repeat' first
                 | exact trivial
                 | rfl
                 | decide
                 | exact ⟨_, rfl, rfl, rfl⟩
                 | exact ok_flat flat1
                 | (refine ok_flat ?_; repeat' first | exact flatSc | exact allNil | exact flatR _ | exact flatE _ | exact flat1R _ | exact flat1E _ | refine allCons ?_ ?_ | refine allApp ?_ ?_)
                 | (refine ⟨_, rfl, rfl, Eq.trans ?_ (ren_still ?_ _)⟩; (first | rfl | (simp; done) | (simp; rfl) | (simp only [List.map_append, List.map_cons, List.map_nil, List.cons_append]; rfl)); (repeat' first | exact stillSc | exact allNil | exact stillR _ | exact stillE _ | exact still1R _ | exact still1E _ | refine allCons ?_ ?_ | refine allApp ?_ ?_))
                 | refine And.intro ?_ ?_)
      | false =>
        have e1 : recs false m (x :: l.drop (k + 1)) = x.r :: recs false m (l.drop (k + 1)) := by rw [recs_on hx (by rw [hlt]; rfl), e0]
        have e2 : recs true m (x :: l.drop (k + 1)) = recs true m (l.drop (k + 1)) := by rw [recs_off hx (by rw [hlt]; rfl), e0]
        rw [e1, e2, List.append_cons r] at h1
        rcases r with _ | ⟨r0, r⟩ <;> rcases b with _ | ⟨b0, b⟩
        all_goals
          simp only [List.length_cons, List.length_nil] at hr hb
          refine SemK.round ?_
          refine run_to tm 200 [.br true, .el (encE x)] rfl (by
             repeat' first
               | exact trivial
               | refine And.intro ?_ ?_
               | exact fun h => h
               | rfl
               | assumption
               | exact (hg)
               | (intros; exact (hg))
               | exact (decide_eq_true (by simp; omega))
               | (intros; exact (decide_eq_true (by simp; omega)))
               | (intro a; rw [a]; done)
               | (intro a; rw [a]; rfl)
               | (intro a b; rw [a, b]; done)
               | (intro a b; rw [a, b]; rfl)
               | exact wrap_i64 (by omega) (by omega)
               | (intros; exact wrap_i64 (by omega) (by omega))
               | (exact decide_eq_true (by omega))
               | (exact decide_eq_false (by omega))
               | exact ix_map (List.getElem?_eq_getElem (by omega))
               | (simp only [List.length_map]; omega)
               | (intros; omega)
               | (refine Nat.le_trans (Nat.mul_le_mul_right _ (show _ ≤ 5000 by simp; omega)) (by decide))
               | (refine Nat.le_trans (Nat.mul_le_mul_right _ (show _ ≤ 5000 by simp)) (by decide))
               | (unfold maxLen; simp; omega)
               | (unfold maxLen; simp; done)
               | (intro e he; rw [List.mem_singleton.1 he]; rfl)
               | (simp; done)
               | (intros; simp_all; done)) ?_
          refine SemK.inline tyTab_ok fn37 rfl rfl rfl rfl rfl trivial trivial rfl rfl ?_
          refine run_to tm 200 [.br false] rfl (by
             repeat' first
               | exact trivial
               | refine And.intro ?_ ?_
               | exact fun h => h
               | rfl
               | assumption
               | exact (hx)
               | (intros; exact (hx))
               | (intro a; rw [a]; done)
               | (intro a; rw [a]; rfl)
               | (intro a b; rw [a, b]; done)
               | (intro a b; rw [a, b]; rfl)
               | exact wrap_i64 (by omega) (by omega)
               | (intros; exact wrap_i64 (by omega) (by omega))
               | (exact decide_eq_true (by omega))
               | (exact decide_eq_false (by omega))
               | exact ix_map (List.getElem?_eq_getElem (by omega))
               | (simp only [List.length_map]; omega)
               | (intros; omega)
               | (refine Nat.le_trans (Nat.mul_le_mul_right _ (show _ ≤ 5000 by simp; omega)) (by decide))
               | (refine Nat.le_trans (Nat.mul_le_mul_right _ (show _ ≤ 5000 by simp)) (by decide))
               | (unfold maxLen; simp; omega)
               | (unfold maxLen; simp; done)
               | (intro e he; rw [List.mem_singleton.1 he]; rfl)
               | (simp; done)
               | (intros; simp_all; done)) ?_
          refine SemK.back (by intro id h; cases h) rfl ?_
          refine run_to tm 200 [.br false, .br false] rfl (by
             repeat' first
               | exact trivial
               | refine And.intro ?_ ?_
               | exact fun h => h
               | rfl
               | assumption
               | exact (hx)
               | (intros; exact (hx))
               | exact (hlt)
               | (intros; exact (hlt))
               | (intro a; rw [a]; done)
               | (intro a; rw [a]; rfl)
               | (intro a b; rw [a, b]; done)
               | (intro a b; rw [a, b]; rfl)
               | exact wrap_i64 (by omega) (by omega)
               | (intros; exact wrap_i64 (by omega) (by omega))
               | (exact decide_eq_true (by omega))
               | (exact decide_eq_false (by omega))
               | exact ix_map (List.getElem?_eq_getElem (by omega))
               | (simp only [List.length_map]; omega)
               | (intros; omega)
               | (refine Nat.le_trans (Nat.mul_le_mul_right _ (show _ ≤ 5000 by simp; omega)) (by decide))
               | (refine Nat.le_trans (Nat.mul_le_mul_right _ (show _ ≤ 5000 by simp)) (by decide))
               | (unfold maxLen; simp; omega)
               | (unfold maxLen; simp; done)
               | (intro e he; rw [List.mem_singleton.1 he]; rfl)
               | (simp; done)
               | (intros; simp_all; done)) ?_
          refine SemK.weakTo [(1, 6)] (ih _ _ _ (by omega) (by first | (simp; done) | (simp; omega)) (by first | (simp; done) | (simp; omega)) h1) rfl
             (by
               repeat' first
                 | exact trivial
                 | rfl
                 | exact .sc
                 | exact .list
                 | exact .nils
                 | exact .ref (by decide)
                 | exact .ptr (by decide)
                 | assumption
                 | (refine .fn ?_; intro a ha; simp at ha; subst ha; exact .ptr (by decide))
                 | (refine congrArg (fun z => AV.sc (Value.int IntKind.i64 z)) ?_; first | rfl | omega | assumption | (simp; done) | (simp; omega))
                 | (refine congrArg (fun z => AV.sc (Value.bool z)) ?_; first | rfl | assumption | (simp; done))
                 | (refine congrArg (fun z => AV.ref _ 0 z) ?_; first | rfl | omega | (simp; done) | (simp; omega))
                 | (show AV.ref _ 0 _ = AV.ref _ 0 _; congr 1; (simp; done))
                 | refine And.intro ?_ ?_)
             (by
               repeat' first
                 | exact trivial
                 | rfl
                 | decide
                 | exact ⟨_, rfl, rfl, rfl⟩
                 | exact ok_flat flat1
                 | (refine ok_flat ?_; repeat' first | exact flatSc | exact allNil | exact flatR _ | exact flatE _ | exact flat1R _ | exact flat1E _ | refine allCons ?_ ?_ | refine allApp ?_ ?_)
                 | (refine ⟨_, rfl, rfl, Eq.trans ?_ (ren_still ?_ _)⟩; (first | rfl | (simp; done) | (simp; rfl) | (simp only [List.map_append, List.map_cons, List.map_nil, List.cons_append]; rfl)); (repeat' first | exact stillSc | exact allNil | exact stillR _ | exact stillE _ | exact still1R _ | exact still1E _ | refine allCons ?_ ?_ | refine allApp ?_ ?_))
                 | refine And.intro ?_ ?_)
theorem cvSp1 (m : Int) (r b : List R3) : Cv true (hp (spG m r b)) (slA 1 (r.map encR)) (encRs true r) := by
  cases r with
  | nil => exact .nils
  | cons r0 r => exact cv_ref (x := { es := encR r0 :: r.map encR, esz := 3 }) rfl rfl rfl (flatR (r0 :: r))
theorem cvSp2 (m : Int) (r b : List R3) : Cv true (hp (spG m r b)) (slA 2 (b.map encR)) (encRs true b) := by
  cases b with
  | nil => exact .nils
  | cons b0 b => cases r <;> exact cv_ref (x := { es := encR b0 :: b.map encR, esz := 3 }) rfl rfl rfl (flatR (b0 :: b))

theorem len_chk {l : List Ev} (h : chk l = 0) : l.length ≤ 60 := by
  unfold chk at h
  by_cases h1 : 60 < l.length
  · rw [if_pos h1] at h; cases h
  · omega

theorem split_pure (l : List Ev) : Pure Try.prog 17 [encEs false l] (.tup [encRs true (rightS l), encRs true (lateS l), i64 (chk l)]) := by
  refine Pure.sym tyTab_ok fn17 (nt := 47) rfl rfl ?_ (by intro a ha; simp at ha; subst ha; exact .list)
  by_cases h : chk l = 0
  · refine run_to tm 100 [.pure [encEs false l] (i64 (chk l)), .br false, .call (.fn 37 [.ptr 0 0 0]) [(0, { es := [i64 lowest], esz := 1 })] 1] rfl (by
     repeat' first
       | exact trivial
       | refine And.intro ?_ ?_
       | exact fun h => h
       | rfl
       | assumption
       | exact (PureCall.none (check_pure _) (Cvs.cons cvEs .nil))
       | (intros; exact (PureCall.none (check_pure _) (Cvs.cons cvEs .nil)))
       | (rw [h]; rfl; done)
       | (intros; rw [h]; rfl; done)
       | exact (marker_hc)
       | (intros; exact (marker_hc))
       | (intro a; rw [a]; done)
       | (intro a; rw [a]; rfl)
       | (intro a b; rw [a, b]; done)
       | (intro a b; rw [a, b]; rfl)
       | exact wrap_i64 (by omega) (by omega)
       | (intros; exact wrap_i64 (by omega) (by omega))
       | (exact decide_eq_true (by omega))
       | (exact decide_eq_false (by omega))
       | exact ix_map (List.getElem?_eq_getElem (by omega))
       | (simp only [List.length_map]; omega)
       | (intros; omega)
       | (refine Nat.le_trans (Nat.mul_le_mul_right _ (show _ ≤ 5000 by simp; omega)) (by decide))
       | (refine Nat.le_trans (Nat.mul_le_mul_right _ (show _ ≤ 5000 by simp)) (by decide))
       | (unfold maxLen; simp; omega)
       | (unfold maxLen; simp; done)
       | (intro e he; rw [List.mem_singleton.1 he]; rfl)
       | (simp; done)
       | (intros; simp_all; done)) ?_
    refine SemK.weakTo [] (SemK.cut (split_loop l (len_chk h) l.length 0 lowest [] [] (by omega) (by simp) (by simp) ?_)) rfl
       (by
         repeat' first
           | exact trivial
           | rfl
           | exact .sc
           | exact .list
           | exact .nils
           | exact .ref (by decide)
           | exact .ptr (by decide)
           | assumption
           | (refine .fn ?_; intro a ha; simp at ha; subst ha; exact .ptr (by decide))
           | (refine congrArg (fun z => AV.sc (Value.int IntKind.i64 z)) ?_; first | rfl | omega | assumption | (simp; done) | (simp; omega))
           | (refine congrArg (fun z => AV.sc (Value.bool z)) ?_; first | rfl | assumption | (simp; done))
           | (refine congrArg (fun z => AV.ref _ 0 z) ?_; first | rfl | omega | (simp; done) | (simp; omega))
           | (show AV.ref _ 0 _ = AV.ref _ 0 _; congr 1; (simp; done))
           | refine And.intro ?_ ?_)
       (by
         repeat' first
           | exact trivial
           | rfl
           | decide
           | exact ⟨_, rfl, rfl, rfl⟩
           | exact ok_flat flat1
           | (refine ok_flat ?_; repeat' first | exact flatSc | exact allNil | exact flatR _ | exact flatE _ | exact flat1R _ | exact flat1E _ | refine allCons ?_ ?_ | refine allApp ?_ ?_)
           | (refine ⟨_, rfl, rfl, Eq.trans ?_ (ren_still ?_ _)⟩; (first | rfl | (simp; done) | (simp; rfl) | (simp only [List.map_append, List.map_cons, List.map_nil, List.cons_append]; rfl)); (repeat' first | exact stillSc | exact allNil | exact stillR _ | exact stillE _ | exact still1R _ | exact still1E _ | refine allCons ?_ ?_ | refine allApp ?_ ?_))
           | refine And.intro ?_ ?_)
    intro m'
    refine SemK.glue ?_
    simp only [List.nil_append, List.drop_zero]
    rw [show rightS l = recs false lowest l by simp [rightS, h], show lateS l = recs true lowest l by simp [lateS, h], h]
    have c1 := cvSp1 m' (recs false lowest l) (recs true lowest l)
    have c2 := cvSp2 m' (recs false lowest l) (recs true lowest l)
    generalize recs false lowest l = r at *
    generalize recs true lowest l = b at *
    rcases r with _ | ⟨r0, r⟩ <;> rcases b with _ | ⟨b0, b⟩
    all_goals
      refine run_to tm 100 [] rfl (by
         repeat' first
           | exact trivial
           | refine And.intro ?_ ?_
           | exact fun h => h
           | rfl
           | assumption
           | (intro a; rw [a]; done)
           | (intro a; rw [a]; rfl)
           | (intro a b; rw [a, b]; done)
           | (intro a b; rw [a, b]; rfl)
           | exact wrap_i64 (by omega) (by omega)
           | (intros; exact wrap_i64 (by omega) (by omega))
           | (exact decide_eq_true (by omega))
           | (exact decide_eq_false (by omega))
           | exact ix_map (List.getElem?_eq_getElem (by omega))
           | (simp only [List.length_map]; omega)
           | (intros; omega)
           | (refine Nat.le_trans (Nat.mul_le_mul_right _ (show _ ≤ 5000 by simp; omega)) (by decide))
           | (refine Nat.le_trans (Nat.mul_le_mul_right _ (show _ ≤ 5000 by simp)) (by decide))
           | (unfold maxLen; simp; omega)
           | (unfold maxLen; simp; done)
           | (intro e he; rw [List.mem_singleton.1 he]; rfl)
           | (simp; done)
           | (intros; simp_all; done)) ?_
      exact fin_ret rfl (cv_tup3 c1 c2 .sc)
  · refine run_to tm 100 [.pure [encEs false l] (i64 (chk l)), .br true] rfl (by
     repeat' first
       | exact trivial
       | refine And.intro ?_ ?_
       | exact fun h => h
       | rfl
       | assumption
       | exact (PureCall.none (check_pure _) (Cvs.cons cvEs .nil))
       | (intros; exact (PureCall.none (check_pure _) (Cvs.cons cvEs .nil)))
       | (simp [h]; done)
       | (intros; simp [h]; done)
       | (intro a; rw [a]; done)
       | (intro a; rw [a]; rfl)
       | (intro a b; rw [a, b]; done)
       | (intro a b; rw [a, b]; rfl)
       | exact wrap_i64 (by omega) (by omega)
       | (intros; exact wrap_i64 (by omega) (by omega))
       | (exact decide_eq_true (by omega))
       | (exact decide_eq_false (by omega))
       | exact ix_map (List.getElem?_eq_getElem (by omega))
       | (simp only [List.length_map]; omega)
       | (intros; omega)
       | (refine Nat.le_trans (Nat.mul_le_mul_right _ (show _ ≤ 5000 by simp; omega)) (by decide))
       | (refine Nat.le_trans (Nat.mul_le_mul_right _ (show _ ≤ 5000 by simp)) (by decide))
       | (unfold maxLen; simp; omega)
       | (unfold maxLen; simp; done)
       | (intro e he; rw [List.mem_singleton.1 he]; rfl)
       | (simp; done)
       | (intros; simp_all; done)) ?_
    refine fin_ret rfl ?_
    rw [show rightS l = [] by simp [rightS, h], show lateS l = [] by simp [lateS, h]]
    exact cv_tup3 .nils .nils .sc

theorem same_call {H : Heap} (a : List R3) (hl : a.length ≤ maxLen) : PureCall Try.prog 19 H [.list true (a.map encR), .list true (a.map encR)] [encRs false a, encRs false a] (bo true) := by
  have h := same_pure a a hl
  rw [show decide (a = a) = true by simp] at h
  exact PureCall.none h (Cvs.cons cvRs (.cons cvRs .nil))

theorem fn4 : FnOk Try.prog 4 Try.f4 (bodyOf Try.f4) := ⟨Try.func4, by kernel_rfl, rfl⟩
theorem tells_pure (l : List Ev) : Pure Try.prog 4 [encEs false l] (bo true) := by
  refine Pure.sym tyTab_ok fn4 (nt := 68) rfl rfl ?_ (by intro a ha; simp at ha; subst ha; exact .list)
  by_cases h : 100 < l.length
  · refine run_to tm 100 [.br true] rfl (by
     repeat' first
       | exact trivial
       | refine And.intro ?_ ?_
       | exact fun h => h
       | rfl
       | assumption
       | exact (decide_eq_true (by simp; omega))
       | (intros; exact (decide_eq_true (by simp; omega)))
       | (intro a; rw [a]; done)
       | (intro a; rw [a]; rfl)
       | (intro a b; rw [a, b]; done)
       | (intro a b; rw [a, b]; rfl)
       | exact wrap_i64 (by omega) (by omega)
       | (intros; exact wrap_i64 (by omega) (by omega))
       | (exact decide_eq_true (by omega))
       | (exact decide_eq_false (by omega))
       | exact ix_map (List.getElem?_eq_getElem (by omega))
       | (simp only [List.length_map]; omega)
       | (intros; omega)
       | (refine Nat.le_trans (Nat.mul_le_mul_right _ (show _ ≤ 5000 by simp; omega)) (by decide))
       | (refine Nat.le_trans (Nat.mul_le_mul_right _ (show _ ≤ 5000 by simp)) (by decide))
       | (unfold maxLen; simp; omega)
       | (unfold maxLen; simp; done)
       | (intro e he; rw [List.mem_singleton.1 he]; rfl)
       | (simp; done)
       | (intros; simp_all; done)) ?_
    exact fin_ret rfl .sc
  · have hl : l.length ≤ 100 := by omega
    have hlr : (rightS l).length ≤ maxLen := by have := rights_len l; unfold maxLen; omega
    have hll : (lateS l).length ≤ maxLen := by have := lates_len l; unfold maxLen; omega
    refine run_to tm 200 [.br false, .pure [encEs false l] (.tup [i64 (markS l).1, i64 (markS l).2]), .pure [encEs false l] (.tup [i64 (markS l).1, i64 (markS l).2]),
      .pure [encEs false l] (.tup [encRs true (rightS l), encRs true (lateS l), i64 (chk l)]), .pure [encEs false l] (.tup [encRs true (rightS l), encRs true (lateS l), i64 (chk l)]),
      .pure [encRs false (rightS l), encRs false (rightS l)] (bo true), .pure [encRs false (lateS l), encRs false (lateS l)] (bo true),
      .pure [encEs false l] (i64 (chk l)), .pure [encEs false l] (i64 (chk l))] rfl
      (by
         repeat' first
           | exact trivial
           | refine And.intro ?_ ?_
           | exact fun h => h
           | rfl
           | assumption
           | exact (PureCall.none (mark_pure _) (Cvs.cons cvEs .nil))
           | (intros; exact (PureCall.none (mark_pure _) (Cvs.cons cvEs .nil)))
           | exact (PureCall.none (rmark_pure _ (by unfold maxLen; omega)) (Cvs.cons cvEs .nil))
           | (intros; exact (PureCall.none (rmark_pure _ (by unfold maxLen; omega)) (Cvs.cons cvEs .nil)))
           | exact (PureCall.none (split_pure _) (Cvs.cons cvEs .nil))
           | (intros; exact (PureCall.none (split_pure _) (Cvs.cons cvEs .nil)))
           | exact (PureCall.none (rsplit_pure _ hl) (Cvs.cons cvEs .nil))
           | (intros; exact (PureCall.none (rsplit_pure _ hl) (Cvs.cons cvEs .nil)))
           | exact (same_call _ hlr)
           | (intros; exact (same_call _ hlr))
           | exact (same_call _ hll)
           | (intros; exact (same_call _ hll))
           | exact (PureCall.none (check_pure _) (Cvs.cons cvEs .nil))
           | (intros; exact (PureCall.none (check_pure _) (Cvs.cons cvEs .nil)))
           | exact (PureCall.none (rcheck_pure _) (Cvs.cons cvEs .nil))
           | (intros; exact (PureCall.none (rcheck_pure _) (Cvs.cons cvEs .nil)))
           | exact (decide_eq_false (by simp; omega))
           | (intros; exact (decide_eq_false (by simp; omega)))
           | (intro a; rw [a]; done)
           | (intro a; rw [a]; rfl)
           | (intro a b; rw [a, b]; done)
           | (intro a b; rw [a, b]; rfl)
           | exact wrap_i64 (by omega) (by omega)
           | (intros; exact wrap_i64 (by omega) (by omega))
           | (exact decide_eq_true (by omega))
           | (exact decide_eq_false (by omega))
           | exact ix_map (List.getElem?_eq_getElem (by omega))
           | (simp only [List.length_map]; omega)
           | (intros; omega)
           | (refine Nat.le_trans (Nat.mul_le_mul_right _ (show _ ≤ 5000 by simp; omega)) (by decide))
           | (refine Nat.le_trans (Nat.mul_le_mul_right _ (show _ ≤ 5000 by simp)) (by decide))
           | (unfold maxLen; simp; omega)
           | (unfold maxLen; simp; done)
           | (intro e he; rw [List.mem_singleton.1 he]; rfl)
           | (simp; done)
           | (intros; simp_all; done)) ?_
    refine fin_ret rfl (cv_bo ?_)
    simp

theorem ev_shape {n : Nat} {x : AV} (h : Shape Try.prog (n + 3) 49 x) : ∃ e : Ev, x = encE e := by
  unfold Shape at h
  rw [Try.underlying49] at h
  obtain ⟨l, rfl, hr⟩ := h
  cases hr with
  | cons h1 hr => cases hr with
    | cons h2 hr => cases hr with
      | cons h3 hr =>
        cases hr
        unfold Shape at h1 h2 h3
        simp only [Try.underlying4, Try.underlying2, Try.underlying47] at h1 h2 h3
        obtain ⟨b, rfl⟩ := h1
        obtain ⟨z, rfl, _⟩ := h2
        obtain ⟨l3, rfl, hr3⟩ := h3
        cases hr3 with
        | cons k1 hr => cases hr with
          | cons k2 hr => cases hr with
            | cons k3 hr =>
              cases hr
              unfold Shape at k1 k2 k3
              simp only [Try.underlying2] at k1 k2 k3
              obtain ⟨a1, rfl, _⟩ := k1
              obtain ⟨a2, rfl, _⟩ := k2
              obtain ⟨a3, rfl, _⟩ := k3
              exact ⟨⟨b, z, ⟨a1, a2, a3⟩⟩, rfl⟩

theorem evs_shape {n : Nat} {a : AV} (h : Shape Try.prog (n + 4) 33 a) : ∃ l : List Ev, a = encEs false l ∧ l.length ≤ maxLen := by
  unfold Shape at h
  rw [Try.underlying33] at h
  obtain ⟨es, rfl, hl, hs⟩ := h
  obtain ⟨l, rfl⟩ := evs_of fun x hx => ev_shape (hs x hx)
  exact ⟨l, rfl, by simpa using hl⟩

theorem tells (xs : List AV) (h : Rels (fun t a => Shape Try.prog 4 t a) [33] xs) : Pure Try.prog 4 xs (.sc (.bool true)) := by
  cases h with
  | cons h hr =>
    cases hr
    obtain ⟨l, rfl, _⟩ := evs_shape (n := 0) h
    exact tells_pure l
end Go.Av.Try
