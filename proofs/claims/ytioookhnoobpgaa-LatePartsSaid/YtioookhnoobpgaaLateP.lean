/- Late: the law LateParts. -/
import Derived.Test.YtioookhnoobpgaaLateE
namespace Go.Av.Try
open Go.Proofs Go.Av.Lt
set_option maxRecDepth 10000

theorem fn9 : FnOk Try.prog 9 Try.f9 (bodyOf Try.f9) := ⟨Try.func9, by kernel_rfl, rfl⟩

theorem parts_skip (l : List Ev) (c : Int) (h : chk l ≠ 0 ∨ 60 ≤ l.length ∨ c < 0 ∨ l.length < c) : Pure Try.prog 9 [encEs false l, i64 c] (bo true) := by
  refine Pure.sym tyTab_ok fn9 (nt := 143) rfl rfl ?_ (by intro a ha; simp at ha; rcases ha with rfl | rfl; exact .list; exact .sc)
  refine run_to tm 100 [.pure [] (bo true), .pure [encEs false l] (i64 (chk l)), .br true] rfl (by
     repeat' first
       | exact trivial
       | refine And.intro ?_ ?_
       | exact fun h => h
       | rfl
       | assumption
       | exact (PureCall.none alive_pure .nil)
       | (intros; exact (PureCall.none alive_pure .nil))
       | exact (PureCall.none (rcheck_pure _) (Cvs.cons cvEs .nil))
       | (intros; exact (PureCall.none (rcheck_pure _) (Cvs.cons cvEs .nil)))
       | (simp; omega; done)
       | (intros; simp; omega; done)
       | (intro a; rw [a]; done)
       | (intro a; rw [a]; rfl)
       | (intro a b; rw [a, b]; done)
       | (intro a b; rw [a, b]; rfl)
       | exact wrap_i64 (by omega) (by omega)
       | (intros; exact wrap_i64 (by omega) (by omega))
       | (exact decide_eq_true (by omega))
       | (exact decide_eq_false (by omega))
       | exact ix_map (List.getElem?_eq_getElem (by omega))
       | (simp only [List.length_map]; omega)
       | (intros; omega)
       | (refine Nat.le_trans (Nat.mul_le_mul_right _ (show _ ≤ 5000 by simp; omega)) (by decide))
       | (refine Nat.le_trans (Nat.mul_le_mul_right _ (show _ ≤ 5000 by simp)) (by decide))
       | (unfold maxLen; simp; omega)
       | (unfold maxLen; simp; done)
       | (intro e he; rw [List.mem_singleton.1 he]; rfl)
       | (simp; done)
       | (intros; simp_all; done)) ?_
  exact fin_ret rfl .sc

theorem cvTk {H : Heap} {l : List Ev} {k : Nat} : Cv false H (.list false (((l.map encE).drop 0).take (((k : Nat) : Int).toNat - 0))) (encEs false (l.take k)) := by
  have : ((l.map encE).drop 0).take (((k : Nat) : Int).toNat - 0) = (l.take k).map encE := by simp
  rw [this]; exact cvEs
theorem ownTup2 {a b : AV} (h : OwnO a) (k : OwnO b) : OwnO (.tup [a, b]) := .tup fun x hx => by
  simp only [List.mem_cons, List.not_mem_nil, or_false] at hx
  rcases hx with rfl | rfl
  · exact h
  · exact k

theorem szDT (l : List Ev) (c : Nat) : ∀ e ∈ ((l.map encE).drop ((c : Nat) : Int).toNat).take ((l.map encE).length - ((c : Nat) : Int).toNat), e.cells.length = 5 := fun e he => sz5 l e (List.mem_of_mem_drop (List.mem_of_mem_take he))
theorem dropEq (l : List Ev) (c : Nat) : ((l.map encE).drop ((c : Nat) : Int).toNat).take ((l.map encE).length - ((c : Nat) : Int).toNat) = (l.drop c).map encE := by
  rw [Int.toNat_natCast, List.take_of_length_le (by simp), List.map_drop]

theorem szR (l : List R3) : ∀ e ∈ l.map encR, e.cells.length = 3 := by
  intro e he
  obtain ⟨x, _, rfl⟩ := List.mem_map.1 he
  rfl
theorem same_lent {H : Heap} (a : List R3) (hl : a.length ≤ maxLen) {v : AV} (hv : Cv false H v (encRs false a)) : PureCall Try.prog 19 H [v, .list true (a.map encR)] [encRs false a, encRs false a] (bo true) := by
  have h := same_pure a a hl
  rw [show decide (a = a) = true by simp] at h
  exact PureCall.lent h (Cvs.cons hv (.cons cvRs .nil)) .sc

set_option maxHeartbeats 8000000 in
theorem parts_pure (l : List Ev) (c : Nat) (h : chk l = 0) (hl : l.length < 60) (hc : c ≤ l.length) : Pure Try.prog 9 [encEs false l, i64 c] (bo true) := by
  refine Pure.sym tyTab_ok fn9 (nt := 143) rfl rfl ?_ (by intro a ha; simp at ha; rcases ha with rfl | rfl; exact .list; exact .sc)
  obtain ⟨k1, k2, k3, k4, k5, k6, k7⟩ := parts (c := c) h hl
  have hlen := rights_len l
  have hlen2 := lates_len l
  rw [← k3] at hlen
  rw [← k4] at hlen2
  by_cases hm : markF lowest (l.take c) = lowest
  · by_cases hd : l.drop c = []
    · have hxs : ((l.map encE).drop ((c : Nat) : Int).toNat).take ((l.map encE).length - ((c : Nat) : Int).toNat) = [] := by rw [dropEq]; rw [hd]; rfl
      have hm' : ((markS (l.take c)).1 != lowest) = false := by rw [k5, hm]; rfl
      have hs : second l c = [] := by unfold second; rw [if_pos hm, hd]
      have hcvn : ∀ {H : Heap}, Cv false H .nils (encEs false (second l c)) := by rw [hs]; exact .nils
      refine run_to tm 400 [.pure [] (bo true), .pure [encEs false l] (i64 (chk l)), .br false, .pure [encEs false (l.take c)] (.tup [i64 (markS (l.take c)).1, i64 (markS (l.take c)).2]), .ne false, .br false, .pure [encEs false (l.take c)] (.tup [encRs true (rightS (l.take c)), encRs true (lateS (l.take c)), i64 (chk (l.take c))]),
        .pure [encEs false (second l c)] (.tup [encRs true (rightS (second l c)), encRs true (lateS (second l c)), i64 (chk (second l c))]),
        .pure [encEs false l] (.tup [encRs true (rightS l), encRs true (lateS l), i64 (chk l)]),
        .pure [encEs false (second l c)] (.tup [i64 (markS (second l c)).1, i64 (markS (second l c)).2]), .pure [encEs false l] (.tup [i64 (markS l).1, i64 (markS l).2])] rfl
        (by
           repeat' first
             | exact trivial
             | refine And.intro ?_ ?_
             | exact fun h => h
             | rfl
             | assumption
             | exact (PureCall.none alive_pure .nil)
             | (intros; exact (PureCall.none alive_pure .nil))
             | exact (PureCall.none (rcheck_pure _) (Cvs.cons cvEs .nil))
             | (intros; exact (PureCall.none (rcheck_pure _) (Cvs.cons cvEs .nil)))
             | (rw [h]; simp; omega; done)
             | (intros; rw [h]; simp; omega; done)
             | exact (PureCall.none (mark_pure _) (Cvs.cons cvTk .nil))
             | (intros; exact (PureCall.none (mark_pure _) (Cvs.cons cvTk .nil)))
             | exact (sz5 l)
             | (intros; exact (sz5 l))
             | exact (szDT l c)
             | (intros; exact (szDT l c))
             | exact (PureCall.none (split_pure _) (Cvs.cons cvTk .nil))
             | (intros; exact (PureCall.none (split_pure _) (Cvs.cons cvTk .nil)))
             | exact (PureCall.none (split_pure _) (Cvs.cons cvEs .nil))
             | (intros; exact (PureCall.none (split_pure _) (Cvs.cons cvEs .nil)))
             | exact (PureCall.none (mark_pure _) (Cvs.cons cvEs .nil))
             | (intros; exact (PureCall.none (mark_pure _) (Cvs.cons cvEs .nil)))
             | exact (PureCall.none (markE_pure _) (Cvs.cons .sc .nil))
             | (intros; exact (PureCall.none (markE_pure _) (Cvs.cons .sc .nil)))
             | exact (PureCall.lent (split_pure _) (Cvs.cons hcvn .nil) (ownTup3 (ownRs _) (ownRs _) .sc))
             | (intros; exact (PureCall.lent (split_pure _) (Cvs.cons hcvn .nil) (ownTup3 (ownRs _) (ownRs _) .sc)))
             | exact (PureCall.lent (mark_pure _) (Cvs.cons hcvn .nil) (ownTup2 .sc .sc))
             | (intros; exact (PureCall.lent (mark_pure _) (Cvs.cons hcvn .nil) (ownTup2 .sc .sc)))
             | exact (hxs)
             | (intros; exact (hxs))
             | exact (hm')
             | (intros; exact (hm'))
             | (intro a; rw [a]; done)
             | (intro a; rw [a]; rfl)
             | (intro a b; rw [a, b]; done)
             | (intro a b; rw [a, b]; rfl)
             | exact wrap_i64 (by omega) (by omega)
             | (intros; exact wrap_i64 (by omega) (by omega))
             | (exact decide_eq_true (by omega))
             | (exact decide_eq_false (by omega))
             | exact ix_map (List.getElem?_eq_getElem (by omega))
             | (simp only [List.length_map]; omega)
             | (intros; omega)
             | (refine Nat.le_trans (Nat.mul_le_mul_right _ (show _ ≤ 5000 by simp; omega)) (by decide))
             | (refine Nat.le_trans (Nat.mul_le_mul_right _ (show _ ≤ 5000 by simp)) (by decide))
             | (unfold maxLen; simp; omega)
             | (unfold maxLen; simp; done)
             | (intro e he; rw [List.mem_singleton.1 he]; rfl)
             | (simp; done)
             | (intros; simp_all; done)) ?_
      rw [k1, k2, h, k5, k6, k7]
      generalize rightS l = x at *
      generalize lateS l = y at *
      generalize rightS (l.take c) = ra at *
      generalize rightS (second l c) = rc at *
      generalize lateS (l.take c) = la at *
      generalize lateS (second l c) = lc at *
      subst k3 k4
      have hA : (ra ++ rc).length ≤ maxLen := by unfold maxLen; omega
      have hB : (la ++ lc).length ≤ maxLen := by unfold maxLen; omega
      rcases ra with _ | ⟨ra0, ra⟩ <;> rcases rc with _ | ⟨rc0, rc⟩ <;> rcases la with _ | ⟨la0, la⟩ <;> rcases lc with _ | ⟨lc0, lc⟩
      · simp only [List.length_append, List.length_cons, List.length_nil] at hlen hlen2
        refine run_to tm 400 [.go true, .go true, .go true, .go true, .go true, .go true, .go true, .pure [encRs false ([] ++ []), encRs false ([] ++ [])] (bo true), .go true, .go true, .go true, .go true, .go true, .go true, .go true, .pure [encRs false ([] ++ []), encRs false ([] ++ [])] (bo true)] rfl
          (by
             repeat' first
               | exact trivial
               | refine And.intro ?_ ?_
               | exact fun h => h
               | rfl
               | assumption
               | (simp; done)
               | (intros; simp; done)
               | exact (szR _)
               | (intros; exact (szR _))
               | exact (szR (_ :: _))
               | (intros; exact (szR (_ :: _)))
               | exact (same_lent ([] ++ []) hA .nils)
               | (intros; exact (same_lent ([] ++ []) hA .nils))
               | exact (same_lent ([] ++ []) hB .nils)
               | (intros; exact (same_lent ([] ++ []) hB .nils))
               | (intro a; rw [a]; done)
               | (intro a; rw [a]; rfl)
               | (intro a b; rw [a, b]; done)
               | (intro a b; rw [a, b]; rfl)
               | exact wrap_i64 (by omega) (by omega)
               | (intros; exact wrap_i64 (by omega) (by omega))
               | (exact decide_eq_true (by omega))
               | (exact decide_eq_false (by omega))
               | exact ix_map (List.getElem?_eq_getElem (by omega))
               | (simp only [List.length_map]; omega)
               | (intros; omega)
               | (refine Nat.le_trans (Nat.mul_le_mul_right _ (show _ ≤ 5000 by simp; omega)) (by decide))
               | (refine Nat.le_trans (Nat.mul_le_mul_right _ (show _ ≤ 5000 by simp)) (by decide))
               | (unfold maxLen; simp; omega)
               | (unfold maxLen; simp; done)
               | (intro e he; rw [List.mem_singleton.1 he]; rfl)
               | (simp; done)
               | (intros; simp_all; done)) ?_
        refine fin_ret rfl (cv_bo ?_)
        simp
      · simp only [List.length_append, List.length_cons, List.length_nil] at hlen hlen2
        refine run_to tm 400 [.go true, .go true, .go true, .go true, .go true, .go true, .go true, .pure [encRs false ([] ++ []), encRs false ([] ++ [])] (bo true), .go true, .go true, .go true, .go true, .go true, .ne true, .go true, .go true, .pure [encRs false ([] ++ (lc0 :: lc)), encRs false ([] ++ (lc0 :: lc))] (bo true)] rfl
          (by
             repeat' first
               | exact trivial
               | refine And.intro ?_ ?_
               | exact fun h => h
               | rfl
               | assumption
               | (simp; done)
               | (intros; simp; done)
               | exact (szR _)
               | (intros; exact (szR _))
               | exact (szR (_ :: _))
               | (intros; exact (szR (_ :: _)))
               | exact (same_lent ([] ++ []) hA .nils)
               | (intros; exact (same_lent ([] ++ []) hA .nils))
               | exact (same_lent ([] ++ (lc0 :: lc)) hB (cv_ref (es := ([] ++ (lc0 :: lc)).map encR) rfl (by simp) (by simp <;> omega) (flatR _)))
               | (intros; exact (same_lent ([] ++ (lc0 :: lc)) hB (cv_ref (es := ([] ++ (lc0 :: lc)).map encR) rfl (by simp) (by simp <;> omega) (flatR _))))
               | (intro a; rw [a]; done)
               | (intro a; rw [a]; rfl)
               | (intro a b; rw [a, b]; done)
               | (intro a b; rw [a, b]; rfl)
               | exact wrap_i64 (by omega) (by omega)
               | (intros; exact wrap_i64 (by omega) (by omega))
               | (exact decide_eq_true (by omega))
               | (exact decide_eq_false (by omega))
               | exact ix_map (List.getElem?_eq_getElem (by omega))
               | (simp only [List.length_map]; omega)
               | (intros; omega)
               | (refine Nat.le_trans (Nat.mul_le_mul_right _ (show _ ≤ 5000 by simp; omega)) (by decide))
               | (refine Nat.le_trans (Nat.mul_le_mul_right _ (show _ ≤ 5000 by simp)) (by decide))
               | (unfold maxLen; simp; omega)
               | (unfold maxLen; simp; done)
               | (intro e he; rw [List.mem_singleton.1 he]; rfl)
               | (simp; done)
               | (intros; simp_all; done)) ?_
        refine fin_ret rfl (cv_bo ?_)
        simp
      · simp only [List.length_append, List.length_cons, List.length_nil] at hlen hlen2
        refine run_to tm 400 [.go true, .go true, .go true, .go true, .go true, .go true, .go true, .pure [encRs false ([] ++ []), encRs false ([] ++ [])] (bo true), .go true, .go true, .go true, .ne true, .go true, .go true, .go true, .go true, .pure [encRs false ((la0 :: la) ++ []), encRs false ((la0 :: la) ++ [])] (bo true)] rfl
          (by
             repeat' first
               | exact trivial
               | refine And.intro ?_ ?_
               | exact fun h => h
               | rfl
               | assumption
               | (simp; done)
               | (intros; simp; done)
               | exact (szR _)
               | (intros; exact (szR _))
               | exact (szR (_ :: _))
               | (intros; exact (szR (_ :: _)))
               | exact (same_lent ([] ++ []) hA .nils)
               | (intros; exact (same_lent ([] ++ []) hA .nils))
               | exact (same_lent ((la0 :: la) ++ []) hB (cv_ref (es := ((la0 :: la) ++ []).map encR) rfl (by simp) (by simp <;> omega) (flatR _)))
               | (intros; exact (same_lent ((la0 :: la) ++ []) hB (cv_ref (es := ((la0 :: la) ++ []).map encR) rfl (by simp) (by simp <;> omega) (flatR _))))
               | (intro a; rw [a]; done)
               | (intro a; rw [a]; rfl)
               | (intro a b; rw [a, b]; done)
               | (intro a b; rw [a, b]; rfl)
               | exact wrap_i64 (by omega) (by omega)
               | (intros; exact wrap_i64 (by omega) (by omega))
               | (exact decide_eq_true (by omega))
               | (exact decide_eq_false (by omega))
               | exact ix_map (List.getElem?_eq_getElem (by omega))
               | (simp only [List.length_map]; omega)
               | (intros; omega)
               | (refine Nat.le_trans (Nat.mul_le_mul_right _ (show _ ≤ 5000 by simp; omega)) (by decide))
               | (refine Nat.le_trans (Nat.mul_le_mul_right _ (show _ ≤ 5000 by simp)) (by decide))
               | (unfold maxLen; simp; omega)
               | (unfold maxLen; simp; done)
               | (intro e he; rw [List.mem_singleton.1 he]; rfl)
               | (simp; done)
               | (intros; simp_all; done)) ?_
        refine fin_ret rfl (cv_bo ?_)
        simp
      · simp only [List.length_append, List.length_cons, List.length_nil] at hlen hlen2
        refine run_to tm 400 [.go true, .go true, .go true, .go true, .go true, .go true, .go true, .pure [encRs false ([] ++ []), encRs false ([] ++ [])] (bo true), .go true, .go true, .go true, .ne true, .go true, .go true, .ne true, .go true, .go true, .pure [encRs false ((la0 :: la) ++ (lc0 :: lc)), encRs false ((la0 :: la) ++ (lc0 :: lc))] (bo true)] rfl
          (by
             repeat' first
               | exact trivial
               | refine And.intro ?_ ?_
               | exact fun h => h
               | rfl
               | assumption
               | (simp; done)
               | (intros; simp; done)
               | exact (szR _)
               | (intros; exact (szR _))
               | exact (szR (_ :: _))
               | (intros; exact (szR (_ :: _)))
               | exact (same_lent ([] ++ []) hA .nils)
               | (intros; exact (same_lent ([] ++ []) hA .nils))
               | exact (same_lent ((la0 :: la) ++ (lc0 :: lc)) hB (cv_ref (es := ((la0 :: la) ++ (lc0 :: lc)).map encR) rfl (by simp) (by simp <;> omega) (flatR _)))
               | (intros; exact (same_lent ((la0 :: la) ++ (lc0 :: lc)) hB (cv_ref (es := ((la0 :: la) ++ (lc0 :: lc)).map encR) rfl (by simp) (by simp <;> omega) (flatR _))))
               | (intro a; rw [a]; done)
               | (intro a; rw [a]; rfl)
               | (intro a b; rw [a, b]; done)
               | (intro a b; rw [a, b]; rfl)
               | exact wrap_i64 (by omega) (by omega)
               | (intros; exact wrap_i64 (by omega) (by omega))
               | (exact decide_eq_true (by omega))
               | (exact decide_eq_false (by omega))
               | exact ix_map (List.getElem?_eq_getElem (by omega))
               | (simp only [List.length_map]; omega)
               | (intros; omega)
               | (refine Nat.le_trans (Nat.mul_le_mul_right _ (show _ ≤ 5000 by simp; omega)) (by decide))
               | (refine Nat.le_trans (Nat.mul_le_mul_right _ (show _ ≤ 5000 by simp)) (by decide))
               | (unfold maxLen; simp; omega)
               | (unfold maxLen; simp; done)
               | (intro e he; rw [List.mem_singleton.1 he]; rfl)
               | (simp; done)
               | (intros; simp_all; done)) ?_
        refine fin_ret rfl (cv_bo ?_)
        simp
      · simp only [List.length_append, List.length_cons, List.length_nil] at hlen hlen2
        refine run_to tm 400 [.go true, .go true, .go true, .go true, .go true, .ne true, .go true, .go true, .pure [encRs false ([] ++ (rc0 :: rc)), encRs false ([] ++ (rc0 :: rc))] (bo true), .go true, .go true, .go true, .go true, .go true, .go true, .go true, .pure [encRs false ([] ++ []), encRs false ([] ++ [])] (bo true)] rfl
          (by
             repeat' first
               | exact trivial
               | refine And.intro ?_ ?_
               | exact fun h => h
               | rfl
               | assumption
               | (simp; done)
               | (intros; simp; done)
               | exact (szR _)
               | (intros; exact (szR _))
               | exact (szR (_ :: _))
               | (intros; exact (szR (_ :: _)))
               | exact (same_lent ([] ++ (rc0 :: rc)) hA (cv_ref (es := ([] ++ (rc0 :: rc)).map encR) rfl (by simp) (by simp <;> omega) (flatR _)))
               | (intros; exact (same_lent ([] ++ (rc0 :: rc)) hA (cv_ref (es := ([] ++ (rc0 :: rc)).map encR) rfl (by simp) (by simp <;> omega) (flatR _))))
               | exact (same_lent ([] ++ []) hB .nils)
               | (intros; exact (same_lent ([] ++ []) hB .nils))
               | (intro a; rw [a]; done)
               | (intro a; rw [a]; rfl)
               | (intro a b; rw [a, b]; done)
               | (intro a b; rw [a, b]; rfl)
               | exact wrap_i64 (by omega) (by omega)
               | (intros; exact wrap_i64 (by omega) (by omega))
               | (exact decide_eq_true (by omega))
               | (exact decide_eq_false (by omega))
               | exact ix_map (List.getElem?_eq_getElem (by omega))
               | (simp only [List.length_map]; omega)
               | (intros; omega)
               | (refine Nat.le_trans (Nat.mul_le_mul_right _ (show _ ≤ 5000 by simp; omega)) (by decide))
               | (refine Nat.le_trans (Nat.mul_le_mul_right _ (show _ ≤ 5000 by simp)) (by decide))
               | (unfold maxLen; simp; omega)
               | (unfold maxLen; simp; done)
               | (intro e he; rw [List.mem_singleton.1 he]; rfl)
               | (simp; done)
               | (intros; simp_all; done)) ?_
        refine fin_ret rfl (cv_bo ?_)
        simp
      · simp only [List.length_append, List.length_cons, List.length_nil] at hlen hlen2
        refine run_to tm 400 [.go true, .go true, .go true, .go true, .go true, .ne true, .go true, .go true, .pure [encRs false ([] ++ (rc0 :: rc)), encRs false ([] ++ (rc0 :: rc))] (bo true), .go true, .go true, .go true, .go true, .go true, .ne true, .go true, .go true, .pure [encRs false ([] ++ (lc0 :: lc)), encRs false ([] ++ (lc0 :: lc))] (bo true)] rfl
          (by
             repeat' first
               | exact trivial
               | refine And.intro ?_ ?_
               | exact fun h => h
               | rfl
               | assumption
               | (simp; done)
               | (intros; simp; done)
               | exact (szR _)
               | (intros; exact (szR _))
               | exact (szR (_ :: _))
               | (intros; exact (szR (_ :: _)))
               | exact (same_lent ([] ++ (rc0 :: rc)) hA (cv_ref (es := ([] ++ (rc0 :: rc)).map encR) rfl (by simp) (by simp <;> omega) (flatR _)))
               | (intros; exact (same_lent ([] ++ (rc0 :: rc)) hA (cv_ref (es := ([] ++ (rc0 :: rc)).map encR) rfl (by simp) (by simp <;> omega) (flatR _))))
               | exact (same_lent ([] ++ (lc0 :: lc)) hB (cv_ref (es := ([] ++ (lc0 :: lc)).map encR) rfl (by simp) (by simp <;> omega) (flatR _)))
               | (intros; exact (same_lent ([] ++ (lc0 :: lc)) hB (cv_ref (es := ([] ++ (lc0 :: lc)).map encR) rfl (by simp) (by simp <;> omega) (flatR _))))
               | (intro a; rw [a]; done)
               | (intro a; rw [a]; rfl)
               | (intro a b; rw [a, b]; done)
               | (intro a b; rw [a, b]; rfl)
               | exact wrap_i64 (by omega) (by omega)
               | (intros; exact wrap_i64 (by omega) (by omega))
               | (exact decide_eq_true (by omega))
               | (exact decide_eq_false (by omega))
               | exact ix_map (List.getElem?_eq_getElem (by omega))
               | (simp only [List.length_map]; omega)
               | (intros; omega)
               | (refine Nat.le_trans (Nat.mul_le_mul_right _ (show _ ≤ 5000 by simp; omega)) (by decide))
               | (refine Nat.le_trans (Nat.mul_le_mul_right _ (show _ ≤ 5000 by simp)) (by decide))
               | (unfold maxLen; simp; omega)
               | (unfold maxLen; simp; done)
               | (intro e he; rw [List.mem_singleton.1 he]; rfl)
               | (simp; done)
               | (intros; simp_all; done)) ?_
        refine fin_ret rfl (cv_bo ?_)
        simp
      · simp only [List.length_append, List.length_cons, List.length_nil] at hlen hlen2
        refine run_to tm 400 [.go true, .go true, .go true, .go true, .go true, .ne true, .go true, .go true, .pure [encRs false ([] ++ (rc0 :: rc)), encRs false ([] ++ (rc0 :: rc))] (bo true), .go true, .go true, .go true, .ne true, .go true, .go true, .go true, .go true, .pure [encRs false ((la0 :: la) ++ []), encRs false ((la0 :: la) ++ [])] (bo true)] rfl
          (by
             repeat' first
               | exact trivial
               | refine And.intro ?_ ?_
               | exact fun h => h
               | rfl
               | assumption
               | (simp; done)
               | (intros; simp; done)
               | exact (szR _)
               | (intros; exact (szR _))
               | exact (szR (_ :: _))
               | (intros; exact (szR (_ :: _)))
               | exact (same_lent ([] ++ (rc0 :: rc)) hA (cv_ref (es := ([] ++ (rc0 :: rc)).map encR) rfl (by simp) (by simp <;> omega) (flatR _)))
               | (intros; exact (same_lent ([] ++ (rc0 :: rc)) hA (cv_ref (es := ([] ++ (rc0 :: rc)).map encR) rfl (by simp) (by simp <;> omega) (flatR _))))
               | exact (same_lent ((la0 :: la) ++ []) hB (cv_ref (es := ((la0 :: la) ++ []).map encR) rfl (by simp) (by simp <;> omega) (flatR _)))
               | (intros; exact (same_lent ((la0 :: la) ++ []) hB (cv_ref (es := ((la0 :: la) ++ []).map encR) rfl (by simp) (by simp <;> omega) (flatR _))))
               | (intro a; rw [a]; done)
               | (intro a; rw [a]; rfl)
               | (intro a b; rw [a, b]; done)
               | (intro a b; rw [a, b]; rfl)
               | exact wrap_i64 (by omega) (by omega)
               | (intros; exact wrap_i64 (by omega) (by omega))
               | (exact decide_eq_true (by omega))
               | (exact decide_eq_false (by omega))
               | exact ix_map (List.getElem?_eq_getElem (by omega))
               | (simp only [List.length_map]; omega)
               | (intros; omega)
               | (refine Nat.le_trans (Nat.mul_le_mul_right _ (show _ ≤ 5000 by simp; omega)) (by decide))
               | (refine Nat.le_trans (Nat.mul_le_mul_right _ (show _ ≤ 5000 by simp)) (by decide))
               | (unfold maxLen; simp; omega)
               | (unfold maxLen; simp; done)
               | (intro e he; rw [List.mem_singleton.1 he]; rfl)
               | (simp; done)
               | (intros; simp_all; done)) ?_
        refine fin_ret rfl (cv_bo ?_)
        simp
      · simp only [List.length_append, List.length_cons, List.length_nil] at hlen hlen2
        refine run_to tm 400 [.go true, .go true, .go true, .go true, .go true, .ne true, .go true, .go true, .pure [encRs false ([] ++ (rc0 :: rc)), encRs false ([] ++ (rc0 :: rc))] (bo true), .go true, .go true, .go true, .ne true, .go true, .go true, .ne true, .go true, .go true, .pure [encRs false ((la0 :: la) ++ (lc0 :: lc)), encRs false ((la0 :: la) ++ (lc0 :: lc))] (bo true)] rfl
          (by
             repeat' first
               | exact trivial
               | refine And.intro ?_ ?_
               | exact fun h => h
               | rfl
               | assumption
               | (simp; done)
               | (intros; simp; done)
               | exact (szR _)
               | (intros; exact (szR _))
               | exact (szR (_ :: _))
               | (intros; exact (szR (_ :: _)))
               | exact (same_lent ([] ++ (rc0 :: rc)) hA (cv_ref (es := ([] ++ (rc0 :: rc)).map encR) rfl (by simp) (by simp <;> omega) (flatR _)))
               | (intros; exact (same_lent ([] ++ (rc0 :: rc)) hA (cv_ref (es := ([] ++ (rc0 :: rc)).map encR) rfl (by simp) (by simp <;> omega) (flatR _))))
               | exact (same_lent ((la0 :: la) ++ (lc0 :: lc)) hB (cv_ref (es := ((la0 :: la) ++ (lc0 :: lc)).map encR) rfl (by simp) (by simp <;> omega) (flatR _)))
               | (intros; exact (same_lent ((la0 :: la) ++ (lc0 :: lc)) hB (cv_ref (es := ((la0 :: la) ++ (lc0 :: lc)).map encR) rfl (by simp) (by simp <;> omega) (flatR _))))
               | (intro a; rw [a]; done)
               | (intro a; rw [a]; rfl)
               | (intro a b; rw [a, b]; done)
               | (intro a b; rw [a, b]; rfl)
               | exact wrap_i64 (by omega) (by omega)
               | (intros; exact wrap_i64 (by omega) (by omega))
               | (exact decide_eq_true (by omega))
               | (exact decide_eq_false (by omega))
               | exact ix_map (List.getElem?_eq_getElem (by omega))
               | (simp only [List.length_map]; omega)
               | (intros; omega)
               | (refine Nat.le_trans (Nat.mul_le_mul_right _ (show _ ≤ 5000 by simp; omega)) (by decide))
               | (refine Nat.le_trans (Nat.mul_le_mul_right _ (show _ ≤ 5000 by simp)) (by decide))
               | (unfold maxLen; simp; omega)
               | (unfold maxLen; simp; done)
               | (intro e he; rw [List.mem_singleton.1 he]; rfl)
               | (simp; done)
               | (intros; simp_all; done)) ?_
        refine fin_ret rfl (cv_bo ?_)
        simp
      · simp only [List.length_append, List.length_cons, List.length_nil] at hlen hlen2
        refine run_to tm 400 [.go true, .go true, .go true, .ne true, .go true, .go true, .go true, .go true, .pure [encRs false ((ra0 :: ra) ++ []), encRs false ((ra0 :: ra) ++ [])] (bo true), .go true, .go true, .go true, .go true, .go true, .go true, .go true, .pure [encRs false ([] ++ []), encRs false ([] ++ [])] (bo true)] rfl
          (by
             repeat' first
               | exact trivial
               | refine And.intro ?_ ?_
               | exact fun h => h
               | rfl
               | assumption
               | (simp; done)
               | (intros; simp; done)
               | exact (szR _)
               | (intros; exact (szR _))
               | exact (szR (_ :: _))
               | (intros; exact (szR (_ :: _)))
               | exact (same_lent ((ra0 :: ra) ++ []) hA (cv_ref (es := ((ra0 :: ra) ++ []).map encR) rfl (by simp) (by simp <;> omega) (flatR _)))
               | (intros; exact (same_lent ((ra0 :: ra) ++ []) hA (cv_ref (es := ((ra0 :: ra) ++ []).map encR) rfl (by simp) (by simp <;> omega) (flatR _))))
               | exact (same_lent ([] ++ []) hB .nils)
               | (intros; exact (same_lent ([] ++ []) hB .nils))
               | (intro a; rw [a]; done)
               | (intro a; rw [a]; rfl)
               | (intro a b; rw [a, b]; done)
               | (intro a b; rw [a, b]; rfl)
               | exact wrap_i64 (by omega) (by omega)
               | (intros; exact wrap_i64 (by omega) (by omega))
               | (exact decide_eq_true (by omega))
               | (exact decide_eq_false (by omega))
               | exact ix_map (List.getElem?_eq_getElem (by omega))
               | (simp only [List.length_map]; omega)
               | (intros; omega)
               | (refine Nat.le_trans (Nat.mul_le_mul_right _ (show _ ≤ 5000 by simp; omega)) (by decide))
               | (refine Nat.le_trans (Nat.mul_le_mul_right _ (show _ ≤ 5000 by simp)) (by decide))
               | (unfold maxLen; simp; omega)
               | (unfold maxLen; simp; done)
               | (intro e he; rw [List.mem_singleton.1 he]; rfl)
               | (simp; done)
               | (intros; simp_all; done)) ?_
        refine fin_ret rfl (cv_bo ?_)
        simp
      · simp only [List.length_append, List.length_cons, List.length_nil] at hlen hlen2
        refine run_to tm 400 [.go true, .go true, .go true, .ne true, .go true, .go true, .go true, .go true, .pure [encRs false ((ra0 :: ra) ++ []), encRs false ((ra0 :: ra) ++ [])] (bo true), .go true, .go true, .go true, .go true, .go true, .ne true, .go true, .go true, .pure [encRs false ([] ++ (lc0 :: lc)), encRs false ([] ++ (lc0 :: lc))] (bo true)] rfl
          (by
             repeat' first
               | exact trivial
               | refine And.intro ?_ ?_
               | exact fun h => h
               | rfl
               | assumption
               | (simp; done)
               | (intros; simp; done)
               | exact (szR _)
               | (intros; exact (szR _))
               | exact (szR (_ :: _))
               | (intros; exact (szR (_ :: _)))
               | exact (same_lent ((ra0 :: ra) ++ []) hA (cv_ref (es := ((ra0 :: ra) ++ []).map encR) rfl (by simp) (by simp <;> omega) (flatR _)))
               | (intros; exact (same_lent ((ra0 :: ra) ++ []) hA (cv_ref (es := ((ra0 :: ra) ++ []).map encR) rfl (by simp) (by simp <;> omega) (flatR _))))
               | exact (same_lent ([] ++ (lc0 :: lc)) hB (cv_ref (es := ([] ++ (lc0 :: lc)).map encR) rfl (by simp) (by simp <;> omega) (flatR _)))
               | (intros; exact (same_lent ([] ++ (lc0 :: lc)) hB (cv_ref (es := ([] ++ (lc0 :: lc)).map encR) rfl (by simp) (by simp <;> omega) (flatR _))))
               | (intro a; rw [a]; done)
               | (intro a; rw [a]; rfl)
               | (intro a b; rw [a, b]; done)
               | (intro a b; rw [a, b]; rfl)
               | exact wrap_i64 (by omega) (by omega)
               | (intros; exact wrap_i64 (by omega) (by omega))
               | (exact decide_eq_true (by omega))
               | (exact decide_eq_false (by omega))
               | exact ix_map (List.getElem?_eq_getElem (by omega))
               | (simp only [List.length_map]; omega)
               | (intros; omega)
               | (refine Nat.le_trans (Nat.mul_le_mul_right _ (show _ ≤ 5000 by simp; omega)) (by decide))
               | (refine Nat.le_trans (Nat.mul_le_mul_right _ (show _ ≤ 5000 by simp)) (by decide))
               | (unfold maxLen; simp; omega)
               | (unfold maxLen; simp; done)
               | (intro e he; rw [List.mem_singleton.1 he]; rfl)
               | (simp; done)
               | (intros; simp_all; done)) ?_
        refine fin_ret rfl (cv_bo ?_)
        simp
      · simp only [List.length_append, List.length_cons, List.length_nil] at hlen hlen2
        refine run_to tm 400 [.go true, .go true, .go true, .ne true, .go true, .go true, .go true, .go true, .pure [encRs false ((ra0 :: ra) ++ []), encRs false ((ra0 :: ra) ++ [])] (bo true), .go true, .go true, .go true, .ne true, .go true, .go true, .go true, .go true, .pure [encRs false ((la0 :: la) ++ []), encRs false ((la0 :: la) ++ [])] (bo true)] rfl
          (by
             repeat' first
               | exact trivial
               | refine And.intro ?_ ?_
               | exact fun h => h
               | rfl
               | assumption
               | (simp; done)
               | (intros; simp; done)
               | exact (szR _)
               | (intros; exact (szR _))
               | exact (szR (_ :: _))
               | (intros; exact (szR (_ :: _)))
               | exact (same_lent ((ra0 :: ra) ++ []) hA (cv_ref (es := ((ra0 :: ra) ++ []).map encR) rfl (by simp) (by simp <;> omega) (flatR _)))
               | (intros; exact (same_lent ((ra0 :: ra) ++ []) hA (cv_ref (es := ((ra0 :: ra) ++ []).map encR) rfl (by simp) (by simp <;> omega) (flatR _))))
               | exact (same_lent ((la0 :: la) ++ []) hB (cv_ref (es := ((la0 :: la) ++ []).map encR) rfl (by simp) (by simp <;> omega) (flatR _)))
               | (intros; exact (same_lent ((la0 :: la) ++ []) hB (cv_ref (es := ((la0 :: la) ++ []).map encR) rfl (by simp) (by simp <;> omega) (flatR _))))
               | (intro a; rw [a]; done)
               | (intro a; rw [a]; rfl)
               | (intro a b; rw [a, b]; done)
               | (intro a b; rw [a, b]; rfl)
               | exact wrap_i64 (by omega) (by omega)
               | (intros; exact wrap_i64 (by omega) (by omega))
               | (exact decide_eq_true (by omega))
               | (exact decide_eq_false (by omega))
               | exact ix_map (List.getElem?_eq_getElem (by omega))
               | (simp only [List.length_map]; omega)
               | (intros; omega)
               | (refine Nat.le_trans (Nat.mul_le_mul_right _ (show _ ≤ 5000 by simp; omega)) (by decide))
               | (refine Nat.le_trans (Nat.mul_le_mul_right _ (show _ ≤ 5000 by simp)) (by decide))
               | (unfold maxLen; simp; omega)
               | (unfold maxLen; simp; done)
               | (intro e he; rw [List.mem_singleton.1 he]; rfl)
               | (simp; done)
               | (intros; simp_all; done)) ?_
        refine fin_ret rfl (cv_bo ?_)
        simp
      · simp only [List.length_append, List.length_cons, List.length_nil] at hlen hlen2
        refine run_to tm 400 [.go true, .go true, .go true, .ne true, .go true, .go true, .go true, .go true, .pure [encRs false ((ra0 :: ra) ++ []), encRs false ((ra0 :: ra) ++ [])] (bo true), .go true, .go true, .go true, .ne true, .go true, .go true, .ne true, .go true, .go true, .pure [encRs false ((la0 :: la) ++ (lc0 :: lc)), encRs false ((la0 :: la) ++ (lc0 :: lc))] (bo true)] rfl
          (by
             repeat' first
               | exact trivial
               | refine And.intro ?_ ?_
               | exact fun h => h
               | rfl
               | assumption
               | (simp; done)
               | (intros; simp; done)
               | exact (szR _)
               | (intros; exact (szR _))
               | exact (szR (_ :: _))
               | (intros; exact (szR (_ :: _)))
               | exact (same_lent ((ra0 :: ra) ++ []) hA (cv_ref (es := ((ra0 :: ra) ++ []).map encR) rfl (by simp) (by simp <;> omega) (flatR _)))
               | (intros; exact (same_lent ((ra0 :: ra) ++ []) hA (cv_ref (es := ((ra0 :: ra) ++ []).map encR) rfl (by simp) (by simp <;> omega) (flatR _))))
               | exact (same_lent ((la0 :: la) ++ (lc0 :: lc)) hB (cv_ref (es := ((la0 :: la) ++ (lc0 :: lc)).map encR) rfl (by simp) (by simp <;> omega) (flatR _)))
               | (intros; exact (same_lent ((la0 :: la) ++ (lc0 :: lc)) hB (cv_ref (es := ((la0 :: la) ++ (lc0 :: lc)).map encR) rfl (by simp) (by simp <;> omega) (flatR _))))
               | (intro a; rw [a]; done)
               | (intro a; rw [a]; rfl)
               | (intro a b; rw [a, b]; done)
               | (intro a b; rw [a, b]; rfl)
               | exact wrap_i64 (by omega) (by omega)
               | (intros; exact wrap_i64 (by omega) (by omega))
               | (exact decide_eq_true (by omega))
               | (exact decide_eq_false (by omega))
               | exact ix_map (List.getElem?_eq_getElem (by omega))
               | (simp only [List.length_map]; omega)
               | (intros; omega)
               | (refine Nat.le_trans (Nat.mul_le_mul_right _ (show _ ≤ 5000 by simp; omega)) (by decide))
               | (refine Nat.le_trans (Nat.mul_le_mul_right _ (show _ ≤ 5000 by simp)) (by decide))
               | (unfold maxLen; simp; omega)
               | (unfold maxLen; simp; done)
               | (intro e he; rw [List.mem_singleton.1 he]; rfl)
               | (simp; done)
               | (intros; simp_all; done)) ?_
        refine fin_ret rfl (cv_bo ?_)
        simp
      · simp only [List.length_append, List.length_cons, List.length_nil] at hlen hlen2
        refine run_to tm 400 [.go true, .go true, .go true, .ne true, .go true, .go true, .ne true, .go true, .go true, .pure [encRs false ((ra0 :: ra) ++ (rc0 :: rc)), encRs false ((ra0 :: ra) ++ (rc0 :: rc))] (bo true), .go true, .go true, .go true, .go true, .go true, .go true, .go true, .pure [encRs false ([] ++ []), encRs false ([] ++ [])] (bo true)] rfl
          (by
             repeat' first
               | exact trivial
               | refine And.intro ?_ ?_
               | exact fun h => h
               | rfl
               | assumption
               | (simp; done)
               | (intros; simp; done)
               | exact (szR _)
               | (intros; exact (szR _))
               | exact (szR (_ :: _))
               | (intros; exact (szR (_ :: _)))
               | exact (same_lent ((ra0 :: ra) ++ (rc0 :: rc)) hA (cv_ref (es := ((ra0 :: ra) ++ (rc0 :: rc)).map encR) rfl (by simp) (by simp <;> omega) (flatR _)))
               | (intros; exact (same_lent ((ra0 :: ra) ++ (rc0 :: rc)) hA (cv_ref (es := ((ra0 :: ra) ++ (rc0 :: rc)).map encR) rfl (by simp) (by simp <;> omega) (flatR _))))
               | exact (same_lent ([] ++ []) hB .nils)
               | (intros; exact (same_lent ([] ++ []) hB .nils))
               | (intro a; rw [a]; done)
               | (intro a; rw [a]; rfl)
               | (intro a b; rw [a, b]; done)
               | (intro a b; rw [a, b]; rfl)
               | exact wrap_i64 (by omega) (by omega)
               | (intros; exact wrap_i64 (by omega) (by omega))
               | (exact decide_eq_true (by omega))
               | (exact decide_eq_false (by omega))
               | exact ix_map (List.getElem?_eq_getElem (by omega))
               | (simp only [List.length_map]; omega)
               | (intros; omega)
               | (refine Nat.le_trans (Nat.mul_le_mul_right _ (show _ ≤ 5000 by simp; omega)) (by decide))
               | (refine Nat.le_trans (Nat.mul_le_mul_right _ (show _ ≤ 5000 by simp)) (by decide))
               | (unfold maxLen; simp; omega)
               | (unfold maxLen; simp; done)
               | (intro e he; rw [List.mem_singleton.1 he]; rfl)
               | (simp; done)
               | (intros; simp_all; done)) ?_
        refine fin_ret rfl (cv_bo ?_)
        simp
      · simp only [List.length_append, List.length_cons, List.length_nil] at hlen hlen2
        refine run_to tm 400 [.go true, .go true, .go true, .ne true, .go true, .go true, .ne true, .go true, .go true, .pure [encRs false ((ra0 :: ra) ++ (rc0 :: rc)), encRs false ((ra0 :: ra) ++ (rc0 :: rc))] (bo true), .go true, .go true, .go true, .go true, .go true, .ne true, .go true, .go true, .pure [encRs false ([] ++ (lc0 :: lc)), encRs false ([] ++ (lc0 :: lc))] (bo true)] rfl
          (by
             repeat' first
               | exact trivial
               | refine And.intro ?_ ?_
               | exact fun h => h
               | rfl
               | assumption
               | (simp; done)
               | (intros; simp; done)
               | exact (szR _)
               | (intros; exact (szR _))
               | exact (szR (_ :: _))
               | (intros; exact (szR (_ :: _)))
               | exact (same_lent ((ra0 :: ra) ++ (rc0 :: rc)) hA (cv_ref (es := ((ra0 :: ra) ++ (rc0 :: rc)).map encR) rfl (by simp) (by simp <;> omega) (flatR _)))
               | (intros; exact (same_lent ((ra0 :: ra) ++ (rc0 :: rc)) hA (cv_ref (es := ((ra0 :: ra) ++ (rc0 :: rc)).map encR) rfl (by simp) (by simp <;> omega) (flatR _))))
               | exact (same_lent ([] ++ (lc0 :: lc)) hB (cv_ref (es := ([] ++ (lc0 :: lc)).map encR) rfl (by simp) (by simp <;> omega) (flatR _)))
               | (intros; exact (same_lent ([] ++ (lc0 :: lc)) hB (cv_ref (es := ([] ++ (lc0 :: lc)).map encR) rfl (by simp) (by simp <;> omega) (flatR _))))
               | (intro a; rw [a]; done)
               | (intro a; rw [a]; rfl)
               | (intro a b; rw [a, b]; done)
               | (intro a b; rw [a, b]; rfl)
               | exact wrap_i64 (by omega) (by omega)
               | (intros; exact wrap_i64 (by omega) (by omega))
               | (exact decide_eq_true (by omega))
               | (exact decide_eq_false (by omega))
               | exact ix_map (List.getElem?_eq_getElem (by omega))
               | (simp only [List.length_map]; omega)
               | (intros; omega)
               | (refine Nat.le_trans (Nat.mul_le_mul_right _ (show _ ≤ 5000 by simp; omega)) (by decide))
               | (refine Nat.le_trans (Nat.mul_le_mul_right _ (show _ ≤ 5000 by simp)) (by decide))
               | (unfold maxLen; simp; omega)
               | (unfold maxLen; simp; done)
               | (intro e he; rw [List.mem_singleton.1 he]; rfl)
               | (simp; done)
               | (intros; simp_all; done)) ?_
        refine fin_ret rfl (cv_bo ?_)
        simp
      · simp only [List.length_append, List.length_cons, List.length_nil] at hlen hlen2
        refine run_to tm 400 [.go true, .go true, .go true, .ne true, .go true, .go true, .ne true, .go true, .go true, .pure [encRs false ((ra0 :: ra) ++ (rc0 :: rc)), encRs false ((ra0 :: ra) ++ (rc0 :: rc))] (bo true), .go true, .go true, .go true, .ne true, .go true, .go true, .go true, .go true, .pure [encRs false ((la0 :: la) ++ []), encRs false ((la0 :: la) ++ [])] (bo true)] rfl
          (by
             repeat' first
               | exact trivial
               | refine And.intro ?_ ?_
               | exact fun h => h
               | rfl
               | assumption
               | (simp; done)
               | (intros; simp; done)
               | exact (szR _)
               | (intros; exact (szR _))
               | exact (szR (_ :: _))
               | (intros; exact (szR (_ :: _)))
               | exact (same_lent ((ra0 :: ra) ++ (rc0 :: rc)) hA (cv_ref (es := ((ra0 :: ra) ++ (rc0 :: rc)).map encR) rfl (by simp) (by simp <;> omega) (flatR _)))
               | (intros; exact (same_lent ((ra0 :: ra) ++ (rc0 :: rc)) hA (cv_ref (es := ((ra0 :: ra) ++ (rc0 :: rc)).map encR) rfl (by simp) (by simp <;> omega) (flatR _))))
               | exact (same_lent ((la0 :: la) ++ []) hB (cv_ref (es := ((la0 :: la) ++ []).map encR) rfl (by simp) (by simp <;> omega) (flatR _)))
               | (intros; exact (same_lent ((la0 :: la) ++ []) hB (cv_ref (es := ((la0 :: la) ++ []).map encR) rfl (by simp) (by simp <;> omega) (flatR _))))
               | (intro a; rw [a]; done)
               | (intro a; rw [a]; rfl)
               | (intro a b; rw [a, b]; done)
               | (intro a b; rw [a, b]; rfl)
               | exact wrap_i64 (by omega) (by omega)
               | (intros; exact wrap_i64 (by omega) (by omega))
               | (exact decide_eq_true (by omega))
               | (exact decide_eq_false (by omega))
               | exact ix_map (List.getElem?_eq_getElem (by omega))
               | (simp only [List.length_map]; omega)
               | (intros; omega)
               | (refine Nat.le_trans (Nat.mul_le_mul_right _ (show _ ≤ 5000 by simp; omega)) (by decide))
               | (refine Nat.le_trans (Nat.mul_le_mul_right _ (show _ ≤ 5000 by simp)) (by decide))
               | (unfold maxLen; simp; omega)
               | (unfold maxLen; simp; done)
               | (intro e he; rw [List.mem_singleton.1 he]; rfl)
               | (simp; done)
               | (intros; simp_all; done)) ?_
        refine fin_ret rfl (cv_bo ?_)
        simp
      · simp only [List.length_append, List.length_cons, List.length_nil] at hlen hlen2
        refine run_to tm 400 [.go true, .go true, .go true, .ne true, .go true, .go true, .ne true, .go true, .go true, .pure [encRs false ((ra0 :: ra) ++ (rc0 :: rc)), encRs false ((ra0 :: ra) ++ (rc0 :: rc))] (bo true), .go true, .go true, .go true, .ne true, .go true, .go true, .ne true, .go true, .go true, .pure [encRs false ((la0 :: la) ++ (lc0 :: lc)), encRs false ((la0 :: la) ++ (lc0 :: lc))] (bo true)] rfl
          (by
             repeat' first
               | exact trivial
               | refine And.intro ?_ ?_
               | exact fun h => h
               | rfl
               | assumption
               | (simp; done)
               | (intros; simp; done)
               | exact (szR _)
               | (intros; exact (szR _))
               | exact (szR (_ :: _))
               | (intros; exact (szR (_ :: _)))
               | exact (same_lent ((ra0 :: ra) ++ (rc0 :: rc)) hA (cv_ref (es := ((ra0 :: ra) ++ (rc0 :: rc)).map encR) rfl (by simp) (by simp <;> omega) (flatR _)))
               | (intros; exact (same_lent ((ra0 :: ra) ++ (rc0 :: rc)) hA (cv_ref (es := ((ra0 :: ra) ++ (rc0 :: rc)).map encR) rfl (by simp) (by simp <;> omega) (flatR _))))
               | exact (same_lent ((la0 :: la) ++ (lc0 :: lc)) hB (cv_ref (es := ((la0 :: la) ++ (lc0 :: lc)).map encR) rfl (by simp) (by simp <;> omega) (flatR _)))
               | (intros; exact (same_lent ((la0 :: la) ++ (lc0 :: lc)) hB (cv_ref (es := ((la0 :: la) ++ (lc0 :: lc)).map encR) rfl (by simp) (by simp <;> omega) (flatR _))))
               | (intro a; rw [a]; done)
               | (intro a; rw [a]; rfl)
               | (intro a b; rw [a, b]; done)
               | (intro a b; rw [a, b]; rfl)
               | exact wrap_i64 (by omega) (by omega)
               | (intros; exact wrap_i64 (by omega) (by omega))
               | (exact decide_eq_true (by omega))
               | (exact decide_eq_false (by omega))
               | exact ix_map (List.getElem?_eq_getElem (by omega))
               | (simp only [List.length_map]; omega)
               | (intros; omega)
               | (refine Nat.le_trans (Nat.mul_le_mul_right _ (show _ ≤ 5000 by simp; omega)) (by decide))
               | (refine Nat.le_trans (Nat.mul_le_mul_right _ (show _ ≤ 5000 by simp)) (by decide))
               | (unfold maxLen; simp; omega)
               | (unfold maxLen; simp; done)
               | (intro e he; rw [List.mem_singleton.1 he]; rfl)
               | (simp; done)
               | (intros; simp_all; done)) ?_
        refine fin_ret rfl (cv_bo ?_)
        simp
    · have hxs : ((l.map encE).drop ((c : Nat) : Int).toNat).take ((l.map encE).length - ((c : Nat) : Int).toNat) ≠ [] := by rw [dropEq]; simpa using hd
      have hm' : ((markS (l.take c)).1 != lowest) = false := by rw [k5, hm]; rfl
      have hs : second l c = l.drop c := by unfold second; rw [if_pos hm]
      have he : ((l.map encE).drop ((c : Nat) : Int).toNat).take ((l.map encE).length - ((c : Nat) : Int).toNat) = (second l c).map encE := by rw [dropEq, hs]
      refine run_to tm 400 [.pure [] (bo true), .pure [encEs false l] (i64 (chk l)), .br false, .pure [encEs false (l.take c)] (.tup [i64 (markS (l.take c)).1, i64 (markS (l.take c)).2]), .ne true, .br false, .pure [encEs false (l.take c)] (.tup [encRs true (rightS (l.take c)), encRs true (lateS (l.take c)), i64 (chk (l.take c))]),
        .pure [encEs false (second l c)] (.tup [encRs true (rightS (second l c)), encRs true (lateS (second l c)), i64 (chk (second l c))]),
        .pure [encEs false l] (.tup [encRs true (rightS l), encRs true (lateS l), i64 (chk l)]),
        .pure [encEs false (second l c)] (.tup [i64 (markS (second l c)).1, i64 (markS (second l c)).2]), .pure [encEs false l] (.tup [i64 (markS l).1, i64 (markS l).2])] rfl
        (by
           repeat' first
             | exact trivial
             | refine And.intro ?_ ?_
             | exact fun h => h
             | rfl
             | assumption
             | exact (PureCall.none alive_pure .nil)
             | (intros; exact (PureCall.none alive_pure .nil))
             | exact (PureCall.none (rcheck_pure _) (Cvs.cons cvEs .nil))
             | (intros; exact (PureCall.none (rcheck_pure _) (Cvs.cons cvEs .nil)))
             | (rw [h]; simp; omega; done)
             | (intros; rw [h]; simp; omega; done)
             | exact (PureCall.none (mark_pure _) (Cvs.cons cvTk .nil))
             | (intros; exact (PureCall.none (mark_pure _) (Cvs.cons cvTk .nil)))
             | exact (sz5 l)
             | (intros; exact (sz5 l))
             | exact (szDT l c)
             | (intros; exact (szDT l c))
             | exact (PureCall.none (split_pure _) (Cvs.cons cvTk .nil))
             | (intros; exact (PureCall.none (split_pure _) (Cvs.cons cvTk .nil)))
             | exact (PureCall.none (split_pure _) (Cvs.cons cvEs .nil))
             | (intros; exact (PureCall.none (split_pure _) (Cvs.cons cvEs .nil)))
             | exact (PureCall.none (mark_pure _) (Cvs.cons cvEs .nil))
             | (intros; exact (PureCall.none (mark_pure _) (Cvs.cons cvEs .nil)))
             | exact (PureCall.none (markE_pure _) (Cvs.cons .sc .nil))
             | (intros; exact (PureCall.none (markE_pure _) (Cvs.cons .sc .nil)))
             | exact (PureCall.lent (split_pure _) (Cvs.cons (cv_ref rfl he (congrArg List.length he) (flatE _)) .nil) (ownTup3 (ownRs _) (ownRs _) .sc))
             | (intros; exact (PureCall.lent (split_pure _) (Cvs.cons (cv_ref rfl he (congrArg List.length he) (flatE _)) .nil) (ownTup3 (ownRs _) (ownRs _) .sc)))
             | exact (PureCall.lent (mark_pure _) (Cvs.cons (cv_ref rfl he (congrArg List.length he) (flatE _)) .nil) (ownTup2 .sc .sc))
             | (intros; exact (PureCall.lent (mark_pure _) (Cvs.cons (cv_ref rfl he (congrArg List.length he) (flatE _)) .nil) (ownTup2 .sc .sc)))
             | exact (hxs)
             | (intros; exact (hxs))
             | exact (hm')
             | (intros; exact (hm'))
             | (intro a; rw [a]; done)
             | (intro a; rw [a]; rfl)
             | (intro a b; rw [a, b]; done)
             | (intro a b; rw [a, b]; rfl)
             | exact wrap_i64 (by omega) (by omega)
             | (intros; exact wrap_i64 (by omega) (by omega))
             | (exact decide_eq_true (by omega))
             | (exact decide_eq_false (by omega))
             | exact ix_map (List.getElem?_eq_getElem (by omega))
             | (simp only [List.length_map]; omega)
             | (intros; omega)
             | (refine Nat.le_trans (Nat.mul_le_mul_right _ (show _ ≤ 5000 by simp; omega)) (by decide))
             | (refine Nat.le_trans (Nat.mul_le_mul_right _ (show _ ≤ 5000 by simp)) (by decide))
             | (unfold maxLen; simp; omega)
             | (unfold maxLen; simp; done)
             | (intro e he; rw [List.mem_singleton.1 he]; rfl)
             | (simp; done)
             | (intros; simp_all; done)) ?_
      rw [k1, k2, h, k5, k6, k7]
      generalize rightS l = x at *
      generalize lateS l = y at *
      generalize rightS (l.take c) = ra at *
      generalize rightS (second l c) = rc at *
      generalize lateS (l.take c) = la at *
      generalize lateS (second l c) = lc at *
      subst k3 k4
      have hA : (ra ++ rc).length ≤ maxLen := by unfold maxLen; omega
      have hB : (la ++ lc).length ≤ maxLen := by unfold maxLen; omega
      rcases ra with _ | ⟨ra0, ra⟩ <;> rcases rc with _ | ⟨rc0, rc⟩ <;> rcases la with _ | ⟨la0, la⟩ <;> rcases lc with _ | ⟨lc0, lc⟩
      · simp only [List.length_append, List.length_cons, List.length_nil] at hlen hlen2
        refine run_to tm 400 [.go true, .go true, .go true, .go true, .go true, .go true, .go true, .pure [encRs false ([] ++ []), encRs false ([] ++ [])] (bo true), .go true, .go true, .go true, .go true, .go true, .go true, .go true, .pure [encRs false ([] ++ []), encRs false ([] ++ [])] (bo true)] rfl
          (by
             repeat' first
               | exact trivial
               | refine And.intro ?_ ?_
               | exact fun h => h
               | rfl
               | assumption
               | (simp; done)
               | (intros; simp; done)
               | exact (szR _)
               | (intros; exact (szR _))
               | exact (szR (_ :: _))
               | (intros; exact (szR (_ :: _)))
               | exact (same_lent ([] ++ []) hA .nils)
               | (intros; exact (same_lent ([] ++ []) hA .nils))
               | exact (same_lent ([] ++ []) hB .nils)
               | (intros; exact (same_lent ([] ++ []) hB .nils))
               | (intro a; rw [a]; done)
               | (intro a; rw [a]; rfl)
               | (intro a b; rw [a, b]; done)
               | (intro a b; rw [a, b]; rfl)
               | exact wrap_i64 (by omega) (by omega)
               | (intros; exact wrap_i64 (by omega) (by omega))
               | (exact decide_eq_true (by omega))
               | (exact decide_eq_false (by omega))
               | exact ix_map (List.getElem?_eq_getElem (by omega))
               | (simp only [List.length_map]; omega)
               | (intros; omega)
               | (refine Nat.le_trans (Nat.mul_le_mul_right _ (show _ ≤ 5000 by simp; omega)) (by decide))
               | (refine Nat.le_trans (Nat.mul_le_mul_right _ (show _ ≤ 5000 by simp)) (by decide))
               | (unfold maxLen; simp; omega)
               | (unfold maxLen; simp; done)
               | (intro e he; rw [List.mem_singleton.1 he]; rfl)
               | (simp; done)
               | (intros; simp_all; done)) ?_
        refine fin_ret rfl (cv_bo ?_)
        simp
      · simp only [List.length_append, List.length_cons, List.length_nil] at hlen hlen2
        refine run_to tm 400 [.go true, .go true, .go true, .go true, .go true, .go true, .go true, .pure [encRs false ([] ++ []), encRs false ([] ++ [])] (bo true), .go true, .go true, .go true, .go true, .go true, .ne true, .go true, .go true, .pure [encRs false ([] ++ (lc0 :: lc)), encRs false ([] ++ (lc0 :: lc))] (bo true)] rfl
          (by
             repeat' first
               | exact trivial
               | refine And.intro ?_ ?_
               | exact fun h => h
               | rfl
               | assumption
               | (simp; done)
               | (intros; simp; done)
               | exact (szR _)
               | (intros; exact (szR _))
               | exact (szR (_ :: _))
               | (intros; exact (szR (_ :: _)))
               | exact (same_lent ([] ++ []) hA .nils)
               | (intros; exact (same_lent ([] ++ []) hA .nils))
               | exact (same_lent ([] ++ (lc0 :: lc)) hB (cv_ref (es := ([] ++ (lc0 :: lc)).map encR) rfl (by simp) (by simp <;> omega) (flatR _)))
               | (intros; exact (same_lent ([] ++ (lc0 :: lc)) hB (cv_ref (es := ([] ++ (lc0 :: lc)).map encR) rfl (by simp) (by simp <;> omega) (flatR _))))
               | (intro a; rw [a]; done)
               | (intro a; rw [a]; rfl)
               | (intro a b; rw [a, b]; done)
               | (intro a b; rw [a, b]; rfl)
               | exact wrap_i64 (by omega) (by omega)
               | (intros; exact wrap_i64 (by omega) (by omega))
               | (exact decide_eq_true (by omega))
               | (exact decide_eq_false (by omega))
               | exact ix_map (List.getElem?_eq_getElem (by omega))
               | (simp only [List.length_map]; omega)
               | (intros; omega)
               | (refine Nat.le_trans (Nat.mul_le_mul_right _ (show _ ≤ 5000 by simp; omega)) (by decide))
               | (refine Nat.le_trans (Nat.mul_le_mul_right _ (show _ ≤ 5000 by simp)) (by decide))
               | (unfold maxLen; simp; omega)
               | (unfold maxLen; simp; done)
               | (intro e he; rw [List.mem_singleton.1 he]; rfl)
               | (simp; done)
               | (intros; simp_all; done)) ?_
        refine fin_ret rfl (cv_bo ?_)
        simp
      · simp only [List.length_append, List.length_cons, List.length_nil] at hlen hlen2
        refine run_to tm 400 [.go true, .go true, .go true, .go true, .go true, .go true, .go true, .pure [encRs false ([] ++ []), encRs false ([] ++ [])] (bo true), .go true, .go true, .go true, .ne true, .go true, .go true, .go true, .go true, .pure [encRs false ((la0 :: la) ++ []), encRs false ((la0 :: la) ++ [])] (bo true)] rfl
          (by
             repeat' first
               | exact trivial
               | refine And.intro ?_ ?_
               | exact fun h => h
               | rfl
               | assumption
               | (simp; done)
               | (intros; simp; done)
               | exact (szR _)
               | (intros; exact (szR _))
               | exact (szR (_ :: _))
               | (intros; exact (szR (_ :: _)))
               | exact (same_lent ([] ++ []) hA .nils)
               | (intros; exact (same_lent ([] ++ []) hA .nils))
               | exact (same_lent ((la0 :: la) ++ []) hB (cv_ref (es := ((la0 :: la) ++ []).map encR) rfl (by simp) (by simp <;> omega) (flatR _)))
               | (intros; exact (same_lent ((la0 :: la) ++ []) hB (cv_ref (es := ((la0 :: la) ++ []).map encR) rfl (by simp) (by simp <;> omega) (flatR _))))
               | (intro a; rw [a]; done)
               | (intro a; rw [a]; rfl)
               | (intro a b; rw [a, b]; done)
               | (intro a b; rw [a, b]; rfl)
               | exact wrap_i64 (by omega) (by omega)
               | (intros; exact wrap_i64 (by omega) (by omega))
               | (exact decide_eq_true (by omega))
               | (exact decide_eq_false (by omega))
               | exact ix_map (List.getElem?_eq_getElem (by omega))
               | (simp only [List.length_map]; omega)
               | (intros; omega)
               | (refine Nat.le_trans (Nat.mul_le_mul_right _ (show _ ≤ 5000 by simp; omega)) (by decide))
               | (refine Nat.le_trans (Nat.mul_le_mul_right _ (show _ ≤ 5000 by simp)) (by decide))
               | (unfold maxLen; simp; omega)
               | (unfold maxLen; simp; done)
               | (intro e he; rw [List.mem_singleton.1 he]; rfl)
               | (simp; done)
               | (intros; simp_all; done)) ?_
        refine fin_ret rfl (cv_bo ?_)
        simp
      · simp only [List.length_append, List.length_cons, List.length_nil] at hlen hlen2
        refine run_to tm 400 [.go true, .go true, .go true, .go true, .go true, .go true, .go true, .pure [encRs false ([] ++ []), encRs false ([] ++ [])] (bo true), .go true, .go true, .go true, .ne true, .go true, .go true, .ne true, .go true, .go true, .pure [encRs false ((la0 :: la) ++ (lc0 :: lc)), encRs false ((la0 :: la) ++ (lc0 :: lc))] (bo true)] rfl
          (by
             repeat' first
               | exact trivial
               | refine And.intro ?_ ?_
               | exact fun h => h
               | rfl
               | assumption
               | (simp; done)
               | (intros; simp; done)
               | exact (szR _)
               | (intros; exact (szR _))
               | exact (szR (_ :: _))
               | (intros; exact (szR (_ :: _)))
               | exact (same_lent ([] ++ []) hA .nils)
               | (intros; exact (same_lent ([] ++ []) hA .nils))
               | exact (same_lent ((la0 :: la) ++ (lc0 :: lc)) hB (cv_ref (es := ((la0 :: la) ++ (lc0 :: lc)).map encR) rfl (by simp) (by simp <;> omega) (flatR _)))
               | (intros; exact (same_lent ((la0 :: la) ++ (lc0 :: lc)) hB (cv_ref (es := ((la0 :: la) ++ (lc0 :: lc)).map encR) rfl (by simp) (by simp <;> omega) (flatR _))))
               | (intro a; rw [a]; done)
               | (intro a; rw [a]; rfl)
               | (intro a b; rw [a, b]; done)
               | (intro a b; rw [a, b]; rfl)
               | exact wrap_i64 (by omega) (by omega)
               | (intros; exact wrap_i64 (by omega) (by omega))
               | (exact decide_eq_true (by omega))
               | (exact decide_eq_false (by omega))
               | exact ix_map (List.getElem?_eq_getElem (by omega))
               | (simp only [List.length_map]; omega)
               | (intros; omega)
               | (refine Nat.le_trans (Nat.mul_le_mul_right _ (show _ ≤ 5000 by simp; omega)) (by decide))
               | (refine Nat.le_trans (Nat.mul_le_mul_right _ (show _ ≤ 5000 by simp)) (by decide))
               | (unfold maxLen; simp; omega)
               | (unfold maxLen; simp; done)
               | (intro e he; rw [List.mem_singleton.1 he]; rfl)
               | (simp; done)
               | (intros; simp_all; done)) ?_
        refine fin_ret rfl (cv_bo ?_)
        simp
      · simp only [List.length_append, List.length_cons, List.length_nil] at hlen hlen2
        refine run_to tm 400 [.go true, .go true, .go true, .go true, .go true, .ne true, .go true, .go true, .pure [encRs false ([] ++ (rc0 :: rc)), encRs false ([] ++ (rc0 :: rc))] (bo true), .go true, .go true, .go true, .go true, .go true, .go true, .go true, .pure [encRs false ([] ++ []), encRs false ([] ++ [])] (bo true)] rfl
          (by
             repeat' first
               | exact trivial
               | refine And.intro ?_ ?_
               | exact fun h => h
               | rfl
               | assumption
               | (simp; done)
               | (intros; simp; done)
               | exact (szR _)
               | (intros; exact (szR _))
               | exact (szR (_ :: _))
               | (intros; exact (szR (_ :: _)))
               | exact (same_lent ([] ++ (rc0 :: rc)) hA (cv_ref (es := ([] ++ (rc0 :: rc)).map encR) rfl (by simp) (by simp <;> omega) (flatR _)))
               | (intros; exact (same_lent ([] ++ (rc0 :: rc)) hA (cv_ref (es := ([] ++ (rc0 :: rc)).map encR) rfl (by simp) (by simp <;> omega) (flatR _))))
               | exact (same_lent ([] ++ []) hB .nils)
               | (intros; exact (same_lent ([] ++ []) hB .nils))
               | (intro a; rw [a]; done)
               | (intro a; rw [a]; rfl)
               | (intro a b; rw [a, b]; done)
               | (intro a b; rw [a, b]; rfl)
               | exact wrap_i64 (by omega) (by omega)
               | (intros; exact wrap_i64 (by omega) (by omega))
               | (exact decide_eq_true (by omega))
               | (exact decide_eq_false (by omega))
               | exact ix_map (List.getElem?_eq_getElem (by omega))
               | (simp only [List.length_map]; omega)
               | (intros; omega)
               | (refine Nat.le_trans (Nat.mul_le_mul_right _ (show _ ≤ 5000 by simp; omega)) (by decide))
               | (refine Nat.le_trans (Nat.mul_le_mul_right _ (show _ ≤ 5000 by simp)) (by decide))
               | (unfold maxLen; simp; omega)
               | (unfold maxLen; simp; done)
               | (intro e he; rw [List.mem_singleton.1 he]; rfl)
               | (simp; done)
               | (intros; simp_all; done)) ?_
        refine fin_ret rfl (cv_bo ?_)
        simp
      · simp only [List.length_append, List.length_cons, List.length_nil] at hlen hlen2
        refine run_to tm 400 [.go true, .go true, .go true, .go true, .go true, .ne true, .go true, .go true, .pure [encRs false ([] ++ (rc0 :: rc)), encRs false ([] ++ (rc0 :: rc))] (bo true), .go true, .go true, .go true, .go true, .go true, .ne true, .go true, .go true, .pure [encRs false ([] ++ (lc0 :: lc)), encRs false ([] ++ (lc0 :: lc))] (bo true)] rfl
          (by
             repeat' first
               | exact trivial
               | refine And.intro ?_ ?_
               | exact fun h => h
               | rfl
               | assumption
               | (simp; done)
               | (intros; simp; done)
               | exact (szR _)
               | (intros; exact (szR _))
               | exact (szR (_ :: _))
               | (intros; exact (szR (_ :: _)))
               | exact (same_lent ([] ++ (rc0 :: rc)) hA (cv_ref (es := ([] ++ (rc0 :: rc)).map encR) rfl (by simp) (by simp <;> omega) (flatR _)))
               | (intros; exact (same_lent ([] ++ (rc0 :: rc)) hA (cv_ref (es := ([] ++ (rc0 :: rc)).map encR) rfl (by simp) (by simp <;> omega) (flatR _))))
               | exact (same_lent ([] ++ (lc0 :: lc)) hB (cv_ref (es := ([] ++ (lc0 :: lc)).map encR) rfl (by simp) (by simp <;> omega) (flatR _)))
               | (intros; exact (same_lent ([] ++ (lc0 :: lc)) hB (cv_ref (es := ([] ++ (lc0 :: lc)).map encR) rfl (by simp) (by simp <;> omega) (flatR _))))
               | (intro a; rw [a]; done)
               | (intro a; rw [a]; rfl)
               | (intro a b; rw [a, b]; done)
               | (intro a b; rw [a, b]; rfl)
               | exact wrap_i64 (by omega) (by omega)
               | (intros; exact wrap_i64 (by omega) (by omega))
               | (exact decide_eq_true (by omega))
               | (exact decide_eq_false (by omega))
               | exact ix_map (List.getElem?_eq_getElem (by omega))
               | (simp only [List.length_map]; omega)
               | (intros; omega)
               | (refine Nat.le_trans (Nat.mul_le_mul_right _ (show _ ≤ 5000 by simp; omega)) (by decide))
               | (refine Nat.le_trans (Nat.mul_le_mul_right _ (show _ ≤ 5000 by simp)) (by decide))
               | (unfold maxLen; simp; omega)
               | (unfold maxLen; simp; done)
               | (intro e he; rw [List.mem_singleton.1 he]; rfl)
               | (simp; done)
               | (intros; simp_all; done)) ?_
        refine fin_ret rfl (cv_bo ?_)
        simp
      · simp only [List.length_append, List.length_cons, List.length_nil] at hlen hlen2
        refine run_to tm 400 [.go true, .go true, .go true, .go true, .go true, .ne true, .go true, .go true, .pure [encRs false ([] ++ (rc0 :: rc)), encRs false ([] ++ (rc0 :: rc))] (bo true), .go true, .go true, .go true, .ne true, .go true, .go true, .go true, .go true, .pure [encRs false ((la0 :: la) ++ []), encRs false ((la0 :: la) ++ [])] (bo true)] rfl
          (by
             repeat' first
               | exact trivial
               | refine And.intro ?_ ?_
               | exact fun h => h
               | rfl
               | assumption
               | (simp; done)
               | (intros; simp; done)
               | exact (szR _)
               | (intros; exact (szR _))
               | exact (szR (_ :: _))
               | (intros; exact (szR (_ :: _)))
               | exact (same_lent ([] ++ (rc0 :: rc)) hA (cv_ref (es := ([] ++ (rc0 :: rc)).map encR) rfl (by simp) (by simp <;> omega) (flatR _)))
               | (intros; exact (same_lent ([] ++ (rc0 :: rc)) hA (cv_ref (es := ([] ++ (rc0 :: rc)).map encR) rfl (by simp) (by simp <;> omega) (flatR _))))
               | exact (same_lent ((la0 :: la) ++ []) hB (cv_ref (es := ((la0 :: la) ++ []).map encR) rfl (by simp) (by simp <;> omega) (flatR _)))
               | (intros; exact (same_lent ((la0 :: la) ++ []) hB (cv_ref (es := ((la0 :: la) ++ []).map encR) rfl (by simp) (by simp <;> omega) (flatR _))))
               | (intro a; rw [a]; done)
               | (intro a; rw [a]; rfl)
               | (intro a b; rw [a, b]; done)
               | (intro a b; rw [a, b]; rfl)
               | exact wrap_i64 (by omega) (by omega)
               | (intros; exact wrap_i64 (by omega) (by omega))
               | (exact decide_eq_true (by omega))
               | (exact decide_eq_false (by omega))
               | exact ix_map (List.getElem?_eq_getElem (by omega))
               | (simp only [List.length_map]; omega)
               | (intros; omega)
               | (refine Nat.le_trans (Nat.mul_le_mul_right _ (show _ ≤ 5000 by simp; omega)) (by decide))
               | (refine Nat.le_trans (Nat.mul_le_mul_right _ (show _ ≤ 5000 by simp)) (by decide))
               | (unfold maxLen; simp; omega)
               | (unfold maxLen; simp; done)
               | (intro e he; rw [List.mem_singleton.1 he]; rfl)
               | (simp; done)
               | (intros; simp_all; done)) ?_
        refine fin_ret rfl (cv_bo ?_)
        simp
      · simp only [List.length_append, List.length_cons, List.length_nil] at hlen hlen2
        refine run_to tm 400 [.go true, .go true, .go true, .go true, .go true, .ne true, .go true, .go true, .pure [encRs false ([] ++ (rc0 :: rc)), encRs false ([] ++ (rc0 :: rc))] (bo true), .go true, .go true, .go true, .ne true, .go true, .go true, .ne true, .go true, .go true, .pure [encRs false ((la0 :: la) ++ (lc0 :: lc)), encRs false ((la0 :: la) ++ (lc0 :: lc))] (bo true)] rfl
          (by
             repeat' first
               | exact trivial
               | refine And.intro ?_ ?_
               | exact fun h => h
               | rfl
               | assumption
               | (simp; done)
               | (intros; simp; done)
               | exact (szR _)
               | (intros; exact (szR _))
               | exact (szR (_ :: _))
               | (intros; exact (szR (_ :: _)))
               | exact (same_lent ([] ++ (rc0 :: rc)) hA (cv_ref (es := ([] ++ (rc0 :: rc)).map encR) rfl (by simp) (by simp <;> omega) (flatR _)))
               | (intros; exact (same_lent ([] ++ (rc0 :: rc)) hA (cv_ref (es := ([] ++ (rc0 :: rc)).map encR) rfl (by simp) (by simp <;> omega) (flatR _))))
               | exact (same_lent ((la0 :: la) ++ (lc0 :: lc)) hB (cv_ref (es := ((la0 :: la) ++ (lc0 :: lc)).map encR) rfl (by simp) (by simp <;> omega) (flatR _)))
               | (intros; exact (same_lent ((la0 :: la) ++ (lc0 :: lc)) hB (cv_ref (es := ((la0 :: la) ++ (lc0 :: lc)).map encR) rfl (by simp) (by simp <;> omega) (flatR _))))
               | (intro a; rw [a]; done)
               | (intro a; rw [a]; rfl)
               | (intro a b; rw [a, b]; done)
               | (intro a b; rw [a, b]; rfl)
               | exact wrap_i64 (by omega) (by omega)
               | (intros; exact wrap_i64 (by omega) (by omega))
               | (exact decide_eq_true (by omega))
               | (exact decide_eq_false (by omega))
               | exact ix_map (List.getElem?_eq_getElem (by omega))
               | (simp only [List.length_map]; omega)
               | (intros; omega)
               | (refine Nat.le_trans (Nat.mul_le_mul_right _ (show _ ≤ 5000 by simp; omega)) (by decide))
               | (refine Nat.le_trans (Nat.mul_le_mul_right _ (show _ ≤ 5000 by simp)) (by decide))
               | (unfold maxLen; simp; omega)
               | (unfold maxLen; simp; done)
               | (intro e he; rw [List.mem_singleton.1 he]; rfl)
               | (simp; done)
               | (intros; simp_all; done)) ?_
        refine fin_ret rfl (cv_bo ?_)
        simp
      · simp only [List.length_append, List.length_cons, List.length_nil] at hlen hlen2
        refine run_to tm 400 [.go true, .go true, .go true, .ne true, .go true, .go true, .go true, .go true, .pure [encRs false ((ra0 :: ra) ++ []), encRs false ((ra0 :: ra) ++ [])] (bo true), .go true, .go true, .go true, .go true, .go true, .go true, .go true, .pure [encRs false ([] ++ []), encRs false ([] ++ [])] (bo true)] rfl
          (by
             repeat' first
               | exact trivial
               | refine And.intro ?_ ?_
               | exact fun h => h
               | rfl
               | assumption
               | (simp; done)
               | (intros; simp; done)
               | exact (szR _)
               | (intros; exact (szR _))
               | exact (szR (_ :: _))
               | (intros; exact (szR (_ :: _)))
               | exact (same_lent ((ra0 :: ra) ++ []) hA (cv_ref (es := ((ra0 :: ra) ++ []).map encR) rfl (by simp) (by simp <;> omega) (flatR _)))
               | (intros; exact (same_lent ((ra0 :: ra) ++ []) hA (cv_ref (es := ((ra0 :: ra) ++ []).map encR) rfl (by simp) (by simp <;> omega) (flatR _))))
               | exact (same_lent ([] ++ []) hB .nils)
               | (intros; exact (same_lent ([] ++ []) hB .nils))
               | (intro a; rw [a]; done)
               | (intro a; rw [a]; rfl)
               | (intro a b; rw [a, b]; done)
               | (intro a b; rw [a, b]; rfl)
               | exact wrap_i64 (by omega) (by omega)
               | (intros; exact wrap_i64 (by omega) (by omega))
               | (exact decide_eq_true (by omega))
               | (exact decide_eq_false (by omega))
               | exact ix_map (List.getElem?_eq_getElem (by omega))
               | (simp only [List.length_map]; omega)
               | (intros; omega)
               | (refine Nat.le_trans (Nat.mul_le_mul_right _ (show _ ≤ 5000 by simp; omega)) (by decide))
               | (refine Nat.le_trans (Nat.mul_le_mul_right _ (show _ ≤ 5000 by simp)) (by decide))
               | (unfold maxLen; simp; omega)
               | (unfold maxLen; simp; done)
               | (intro e he; rw [List.mem_singleton.1 he]; rfl)
               | (simp; done)
               | (intros; simp_all; done)) ?_
        refine fin_ret rfl (cv_bo ?_)
        simp
      · simp only [List.length_append, List.length_cons, List.length_nil] at hlen hlen2
        refine run_to tm 400 [.go true, .go true, .go true, .ne true, .go true, .go true, .go true, .go true, .pure [encRs false ((ra0 :: ra) ++ []), encRs false ((ra0 :: ra) ++ [])] (bo true), .go true, .go true, .go true, .go true, .go true, .ne true, .go true, .go true, .pure [encRs false ([] ++ (lc0 :: lc)), encRs false ([] ++ (lc0 :: lc))] (bo true)] rfl
          (by
             repeat' first
               | exact trivial
               | refine And.intro ?_ ?_
               | exact fun h => h
               | rfl
               | assumption
               | (simp; done)
               | (intros; simp; done)
               | exact (szR _)
               | (intros; exact (szR _))
               | exact (szR (_ :: _))
               | (intros; exact (szR (_ :: _)))
               | exact (same_lent ((ra0 :: ra) ++ []) hA (cv_ref (es := ((ra0 :: ra) ++ []).map encR) rfl (by simp) (by simp <;> omega) (flatR _)))
               | (intros; exact (same_lent ((ra0 :: ra) ++ []) hA (cv_ref (es := ((ra0 :: ra) ++ []).map encR) rfl (by simp) (by simp <;> omega) (flatR _))))
               | exact (same_lent ([] ++ (lc0 :: lc)) hB (cv_ref (es := ([] ++ (lc0 :: lc)).map encR) rfl (by simp) (by simp <;> omega) (flatR _)))
               | (intros; exact (same_lent ([] ++ (lc0 :: lc)) hB (cv_ref (es := ([] ++ (lc0 :: lc)).map encR) rfl (by simp) (by simp <;> omega) (flatR _))))
               | (intro a; rw [a]; done)
               | (intro a; rw [a]; rfl)
               | (intro a b; rw [a, b]; done)
               | (intro a b; rw [a, b]; rfl)
               | exact wrap_i64 (by omega) (by omega)
               | (intros; exact wrap_i64 (by omega) (by omega))
               | (exact decide_eq_true (by omega))
               | (exact decide_eq_false (by omega))
               | exact ix_map (List.getElem?_eq_getElem (by omega))
               | (simp only [List.length_map]; omega)
               | (intros; omega)
               | (refine Nat.le_trans (Nat.mul_le_mul_right _ (show _ ≤ 5000 by simp; omega)) (by decide))
               | (refine Nat.le_trans (Nat.mul_le_mul_right _ (show _ ≤ 5000 by simp)) (by decide))
               | (unfold maxLen; simp; omega)
               | (unfold maxLen; simp; done)
               | (intro e he; rw [List.mem_singleton.1 he]; rfl)
               | (simp; done)
               | (intros; simp_all; done)) ?_
        refine fin_ret rfl (cv_bo ?_)
        simp
      · simp only [List.length_append, List.length_cons, List.length_nil] at hlen hlen2
        refine run_to tm 400 [.go true, .go true, .go true, .ne true, .go true, .go true, .go true, .go true, .pure [encRs false ((ra0 :: ra) ++ []), encRs false ((ra0 :: ra) ++ [])] (bo true), .go true, .go true, .go true, .ne true, .go true, .go true, .go true, .go true, .pure [encRs false ((la0 :: la) ++ []), encRs false ((la0 :: la) ++ [])] (bo true)] rfl
          (by
             repeat' first
               | exact trivial
               | refine And.intro ?_ ?_
               | exact fun h => h
               | rfl
               | assumption
               | (simp; done)
               | (intros; simp; done)
               | exact (szR _)
               | (intros; exact (szR _))
               | exact (szR (_ :: _))
               | (intros; exact (szR (_ :: _)))
               | exact (same_lent ((ra0 :: ra) ++ []) hA (cv_ref (es := ((ra0 :: ra) ++ []).map encR) rfl (by simp) (by simp <;> omega) (flatR _)))
               | (intros; exact (same_lent ((ra0 :: ra) ++ []) hA (cv_ref (es := ((ra0 :: ra) ++ []).map encR) rfl (by simp) (by simp <;> omega) (flatR _))))
               | exact (same_lent ((la0 :: la) ++ []) hB (cv_ref (es := ((la0 :: la) ++ []).map encR) rfl (by simp) (by simp <;> omega) (flatR _)))
               | (intros; exact (same_lent ((la0 :: la) ++ []) hB (cv_ref (es := ((la0 :: la) ++ []).map encR) rfl (by simp) (by simp <;> omega) (flatR _))))
               | (intro a; rw [a]; done)
               | (intro a; rw [a]; rfl)
               | (intro a b; rw [a, b]; done)
               | (intro a b; rw [a, b]; rfl)
               | exact wrap_i64 (by omega) (by omega)
               | (intros; exact wrap_i64 (by omega) (by omega))
               | (exact decide_eq_true (by omega))
               | (exact decide_eq_false (by omega))
               | exact ix_map (List.getElem?_eq_getElem (by omega))
               | (simp only [List.length_map]; omega)
               | (intros; omega)
               | (refine Nat.le_trans (Nat.mul_le_mul_right _ (show _ ≤ 5000 by simp; omega)) (by decide))
               | (refine Nat.le_trans (Nat.mul_le_mul_right _ (show _ ≤ 5000 by simp)) (by decide))
               | (unfold maxLen; simp; omega)
               | (unfold maxLen; simp; done)
               | (intro e he; rw [List.mem_singleton.1 he]; rfl)
               | (simp; done)
               | (intros; simp_all; done)) ?_
        refine fin_ret rfl (cv_bo ?_)
        simp
      · simp only [List.length_append, List.length_cons, List.length_nil] at hlen hlen2
        refine run_to tm 400 [.go true, .go true, .go true, .ne true, .go true, .go true, .go true, .go true, .pure [encRs false ((ra0 :: ra) ++ []), encRs false ((ra0 :: ra) ++ [])] (bo true), .go true, .go true, .go true, .ne true, .go true, .go true, .ne true, .go true, .go true, .pure [encRs false ((la0 :: la) ++ (lc0 :: lc)), encRs false ((la0 :: la) ++ (lc0 :: lc))] (bo true)] rfl
          (by
             repeat' first
               | exact trivial
               | refine And.intro ?_ ?_
               | exact fun h => h
               | rfl
               | assumption
               | (simp; done)
               | (intros; simp; done)
               | exact (szR _)
               | (intros; exact (szR _))
               | exact (szR (_ :: _))
               | (intros; exact (szR (_ :: _)))
               | exact (same_lent ((ra0 :: ra) ++ []) hA (cv_ref (es := ((ra0 :: ra) ++ []).map encR) rfl (by simp) (by simp <;> omega) (flatR _)))
               | (intros; exact (same_lent ((ra0 :: ra) ++ []) hA (cv_ref (es := ((ra0 :: ra) ++ []).map encR) rfl (by simp) (by simp <;> omega) (flatR _))))
               | exact (same_lent ((la0 :: la) ++ (lc0 :: lc)) hB (cv_ref (es := ((la0 :: la) ++ (lc0 :: lc)).map encR) rfl (by simp) (by simp <;> omega) (flatR _)))
               | (intros; exact (same_lent ((la0 :: la) ++ (lc0 :: lc)) hB (cv_ref (es := ((la0 :: la) ++ (lc0 :: lc)).map encR) rfl (by simp) (by simp <;> omega) (flatR _))))
               | (intro a; rw [a]; done)
               | (intro a; rw [a]; rfl)
               | (intro a b; rw [a, b]; done)
               | (intro a b; rw [a, b]; rfl)
               | exact wrap_i64 (by omega) (by omega)
               | (intros; exact wrap_i64 (by omega) (by omega))
               | (exact decide_eq_true (by omega))
               | (exact decide_eq_false (by omega))
               | exact ix_map (List.getElem?_eq_getElem (by omega))
               | (simp only [List.length_map]; omega)
               | (intros; omega)
               | (refine Nat.le_trans (Nat.mul_le_mul_right _ (show _ ≤ 5000 by simp; omega)) (by decide))
               | (refine Nat.le_trans (Nat.mul_le_mul_right _ (show _ ≤ 5000 by simp)) (by decide))
               | (unfold maxLen; simp; omega)
               | (unfold maxLen; simp; done)
               | (intro e he; rw [List.mem_singleton.1 he]; rfl)
               | (simp; done)
               | (intros; simp_all; done)) ?_
        refine fin_ret rfl (cv_bo ?_)
        simp
      · simp only [List.length_append, List.length_cons, List.length_nil] at hlen hlen2
        refine run_to tm 400 [.go true, .go true, .go true, .ne true, .go true, .go true, .ne true, .go true, .go true, .pure [encRs false ((ra0 :: ra) ++ (rc0 :: rc)), encRs false ((ra0 :: ra) ++ (rc0 :: rc))] (bo true), .go true, .go true, .go true, .go true, .go true, .go true, .go true, .pure [encRs false ([] ++ []), encRs false ([] ++ [])] (bo true)] rfl
          (by
             repeat' first
               | exact trivial
               | refine And.intro ?_ ?_
               | exact fun h => h
               | rfl
               | assumption
               | (simp; done)
               | (intros; simp; done)
               | exact (szR _)
               | (intros; exact (szR _))
               | exact (szR (_ :: _))
               | (intros; exact (szR (_ :: _)))
               | exact (same_lent ((ra0 :: ra) ++ (rc0 :: rc)) hA (cv_ref (es := ((ra0 :: ra) ++ (rc0 :: rc)).map encR) rfl (by simp) (by simp <;> omega) (flatR _)))
               | (intros; exact (same_lent ((ra0 :: ra) ++ (rc0 :: rc)) hA (cv_ref (es := ((ra0 :: ra) ++ (rc0 :: rc)).map encR) rfl (by simp) (by simp <;> omega) (flatR _))))
               | exact (same_lent ([] ++ []) hB .nils)
               | (intros; exact (same_lent ([] ++ []) hB .nils))
               | (intro a; rw [a]; done)
               | (intro a; rw [a]; rfl)
               | (intro a b; rw [a, b]; done)
               | (intro a b; rw [a, b]; rfl)
               | exact wrap_i64 (by omega) (by omega)
               | (intros; exact wrap_i64 (by omega) (by omega))
               | (exact decide_eq_true (by omega))
               | (exact decide_eq_false (by omega))
               | exact ix_map (List.getElem?_eq_getElem (by omega))
               | (simp only [List.length_map]; omega)
               | (intros; omega)
               | (refine Nat.le_trans (Nat.mul_le_mul_right _ (show _ ≤ 5000 by simp; omega)) (by decide))
               | (refine Nat.le_trans (Nat.mul_le_mul_right _ (show _ ≤ 5000 by simp)) (by decide))
               | (unfold maxLen; simp; omega)
               | (unfold maxLen; simp; done)
               | (intro e he; rw [List.mem_singleton.1 he]; rfl)
               | (simp; done)
               | (intros; simp_all; done)) ?_
        refine fin_ret rfl (cv_bo ?_)
        simp
      · simp only [List.length_append, List.length_cons, List.length_nil] at hlen hlen2
        refine run_to tm 400 [.go true, .go true, .go true, .ne true, .go true, .go true, .ne true, .go true, .go true, .pure [encRs false ((ra0 :: ra) ++ (rc0 :: rc)), encRs false ((ra0 :: ra) ++ (rc0 :: rc))] (bo true), .go true, .go true, .go true, .go true, .go true, .ne true, .go true, .go true, .pure [encRs false ([] ++ (lc0 :: lc)), encRs false ([] ++ (lc0 :: lc))] (bo true)] rfl
          (by
             repeat' first
               | exact trivial
               | refine And.intro ?_ ?_
               | exact fun h => h
               | rfl
               | assumption
               | (simp; done)
               | (intros; simp; done)
               | exact (szR _)
               | (intros; exact (szR _))
               | exact (szR (_ :: _))
               | (intros; exact (szR (_ :: _)))
               | exact (same_lent ((ra0 :: ra) ++ (rc0 :: rc)) hA (cv_ref (es := ((ra0 :: ra) ++ (rc0 :: rc)).map encR) rfl (by simp) (by simp <;> omega) (flatR _)))
               | (intros; exact (same_lent ((ra0 :: ra) ++ (rc0 :: rc)) hA (cv_ref (es := ((ra0 :: ra) ++ (rc0 :: rc)).map encR) rfl (by simp) (by simp <;> omega) (flatR _))))
               | exact (same_lent ([] ++ (lc0 :: lc)) hB (cv_ref (es := ([] ++ (lc0 :: lc)).map encR) rfl (by simp) (by simp <;> omega) (flatR _)))
               | (intros; exact (same_lent ([] ++ (lc0 :: lc)) hB (cv_ref (es := ([] ++ (lc0 :: lc)).map encR) rfl (by simp) (by simp <;> omega) (flatR _))))
               | (intro a; rw [a]; done)
               | (intro a; rw [a]; rfl)
               | (intro a b; rw [a, b]; done)
               | (intro a b; rw [a, b]; rfl)
               | exact wrap_i64 (by omega) (by omega)
               | (intros; exact wrap_i64 (by omega) (by omega))
               | (exact decide_eq_true (by omega))
               | (exact decide_eq_false (by omega))
               | exact ix_map (List.getElem?_eq_getElem (by omega))
               | (simp only [List.length_map]; omega)
               | (intros; omega)
               | (refine Nat.le_trans (Nat.mul_le_mul_right _ (show _ ≤ 5000 by simp; omega)) (by decide))
               | (refine Nat.le_trans (Nat.mul_le_mul_right _ (show _ ≤ 5000 by simp)) (by decide))
               | (unfold maxLen; simp; omega)
               | (unfold maxLen; simp; done)
               | (intro e he; rw [List.mem_singleton.1 he]; rfl)
               | (simp; done)
               | (intros; simp_all; done)) ?_
        refine fin_ret rfl (cv_bo ?_)
        simp
      · simp only [List.length_append, List.length_cons, List.length_nil] at hlen hlen2
        refine run_to tm 400 [.go true, .go true, .go true, .ne true, .go true, .go true, .ne true, .go true, .go true, .pure [encRs false ((ra0 :: ra) ++ (rc0 :: rc)), encRs false ((ra0 :: ra) ++ (rc0 :: rc))] (bo true), .go true, .go true, .go true, .ne true, .go true, .go true, .go true, .go true, .pure [encRs false ((la0 :: la) ++ []), encRs false ((la0 :: la) ++ [])] (bo true)] rfl
          (by
             repeat' first
               | exact trivial
               | refine And.intro ?_ ?_
               | exact fun h => h
               | rfl
               | assumption
               | (simp; done)
               | (intros; simp; done)
               | exact (szR _)
               | (intros; exact (szR _))
               | exact (szR (_ :: _))
               | (intros; exact (szR (_ :: _)))
               | exact (same_lent ((ra0 :: ra) ++ (rc0 :: rc)) hA (cv_ref (es := ((ra0 :: ra) ++ (rc0 :: rc)).map encR) rfl (by simp) (by simp <;> omega) (flatR _)))
               | (intros; exact (same_lent ((ra0 :: ra) ++ (rc0 :: rc)) hA (cv_ref (es := ((ra0 :: ra) ++ (rc0 :: rc)).map encR) rfl (by simp) (by simp <;> omega) (flatR _))))
               | exact (same_lent ((la0 :: la) ++ []) hB (cv_ref (es := ((la0 :: la) ++ []).map encR) rfl (by simp) (by simp <;> omega) (flatR _)))
               | (intros; exact (same_lent ((la0 :: la) ++ []) hB (cv_ref (es := ((la0 :: la) ++ []).map encR) rfl (by simp) (by simp <;> omega) (flatR _))))
               | (intro a; rw [a]; done)
               | (intro a; rw [a]; rfl)
               | (intro a b; rw [a, b]; done)
               | (intro a b; rw [a, b]; rfl)
               | exact wrap_i64 (by omega) (by omega)
               | (intros; exact wrap_i64 (by omega) (by omega))
               | (exact decide_eq_true (by omega))
               | (exact decide_eq_false (by omega))
               | exact ix_map (List.getElem?_eq_getElem (by omega))
               | (simp only [List.length_map]; omega)
               | (intros; omega)
               | (refine Nat.le_trans (Nat.mul_le_mul_right _ (show _ ≤ 5000 by simp; omega)) (by decide))
               | (refine Nat.le_trans (Nat.mul_le_mul_right _ (show _ ≤ 5000 by simp)) (by decide))
               | (unfold maxLen; simp; omega)
               | (unfold maxLen; simp; done)
               | (intro e he; rw [List.mem_singleton.1 he]; rfl)
               | (simp; done)
               | (intros; simp_all; done)) ?_
        refine fin_ret rfl (cv_bo ?_)
        simp
      · simp only [List.length_append, List.length_cons, List.length_nil] at hlen hlen2
        refine run_to tm 400 [.go true, .go true, .go true, .ne true, .go true, .go true, .ne true, .go true, .go true, .pure [encRs false ((ra0 :: ra) ++ (rc0 :: rc)), encRs false ((ra0 :: ra) ++ (rc0 :: rc))] (bo true), .go true, .go true, .go true, .ne true, .go true, .go true, .ne true, .go true, .go true, .pure [encRs false ((la0 :: la) ++ (lc0 :: lc)), encRs false ((la0 :: la) ++ (lc0 :: lc))] (bo true)] rfl
          (by
             repeat' first
               | exact trivial
               | refine And.intro ?_ ?_
               | exact fun h => h
               | rfl
               | assumption
               | (simp; done)
               | (intros; simp; done)
               | exact (szR _)
               | (intros; exact (szR _))
               | exact (szR (_ :: _))
               | (intros; exact (szR (_ :: _)))
               | exact (same_lent ((ra0 :: ra) ++ (rc0 :: rc)) hA (cv_ref (es := ((ra0 :: ra) ++ (rc0 :: rc)).map encR) rfl (by simp) (by simp <;> omega) (flatR _)))
               | (intros; exact (same_lent ((ra0 :: ra) ++ (rc0 :: rc)) hA (cv_ref (es := ((ra0 :: ra) ++ (rc0 :: rc)).map encR) rfl (by simp) (by simp <;> omega) (flatR _))))
               | exact (same_lent ((la0 :: la) ++ (lc0 :: lc)) hB (cv_ref (es := ((la0 :: la) ++ (lc0 :: lc)).map encR) rfl (by simp) (by simp <;> omega) (flatR _)))
               | (intros; exact (same_lent ((la0 :: la) ++ (lc0 :: lc)) hB (cv_ref (es := ((la0 :: la) ++ (lc0 :: lc)).map encR) rfl (by simp) (by simp <;> omega) (flatR _))))
               | (intro a; rw [a]; done)
               | (intro a; rw [a]; rfl)
               | (intro a b; rw [a, b]; done)
               | (intro a b; rw [a, b]; rfl)
               | exact wrap_i64 (by omega) (by omega)
               | (intros; exact wrap_i64 (by omega) (by omega))
               | (exact decide_eq_true (by omega))
               | (exact decide_eq_false (by omega))
               | exact ix_map (List.getElem?_eq_getElem (by omega))
               | (simp only [List.length_map]; omega)
               | (intros; omega)
               | (refine Nat.le_trans (Nat.mul_le_mul_right _ (show _ ≤ 5000 by simp; omega)) (by decide))
               | (refine Nat.le_trans (Nat.mul_le_mul_right _ (show _ ≤ 5000 by simp)) (by decide))
               | (unfold maxLen; simp; omega)
               | (unfold maxLen; simp; done)
               | (intro e he; rw [List.mem_singleton.1 he]; rfl)
               | (simp; done)
               | (intros; simp_all; done)) ?_
        refine fin_ret rfl (cv_bo ?_)
        simp
  · by_cases hd : l.drop c = []
    · have hxs : ((l.map encE).drop ((c : Nat) : Int).toNat).take ((l.map encE).length - ((c : Nat) : Int).toNat) = [] := by rw [dropEq]; rw [hd]; rfl
      have hm' : ((markS (l.take c)).1 != lowest) = true := by rw [k5]; simp [hm]
      have hs : second l c = [markEv (markF lowest (l.take c))] := by unfold second; rw [if_neg hm, hd]
      have he : [encE (markEv (markS (l.take c)).1)] = (second l c).map encE := by rw [hs, k5]; rfl
      refine run_to tm 400 [.pure [] (bo true), .pure [encEs false l] (i64 (chk l)), .br false, .pure [encEs false (l.take c)] (.tup [i64 (markS (l.take c)).1, i64 (markS (l.take c)).2]), .ne false, .br true, .pure [i64 (markS (l.take c)).1] (encE (markEv (markS (l.take c)).1)), .pure [encEs false (l.take c)] (.tup [encRs true (rightS (l.take c)), encRs true (lateS (l.take c)), i64 (chk (l.take c))]),
        .pure [encEs false (second l c)] (.tup [encRs true (rightS (second l c)), encRs true (lateS (second l c)), i64 (chk (second l c))]),
        .pure [encEs false l] (.tup [encRs true (rightS l), encRs true (lateS l), i64 (chk l)]),
        .pure [encEs false (second l c)] (.tup [i64 (markS (second l c)).1, i64 (markS (second l c)).2]), .pure [encEs false l] (.tup [i64 (markS l).1, i64 (markS l).2])] rfl
        (by
           repeat' first
             | exact trivial
             | refine And.intro ?_ ?_
             | exact fun h => h
             | rfl
             | assumption
             | exact (PureCall.none alive_pure .nil)
             | (intros; exact (PureCall.none alive_pure .nil))
             | exact (PureCall.none (rcheck_pure _) (Cvs.cons cvEs .nil))
             | (intros; exact (PureCall.none (rcheck_pure _) (Cvs.cons cvEs .nil)))
             | (rw [h]; simp; omega; done)
             | (intros; rw [h]; simp; omega; done)
             | exact (PureCall.none (mark_pure _) (Cvs.cons cvTk .nil))
             | (intros; exact (PureCall.none (mark_pure _) (Cvs.cons cvTk .nil)))
             | exact (sz5 l)
             | (intros; exact (sz5 l))
             | exact (szDT l c)
             | (intros; exact (szDT l c))
             | exact (PureCall.none (split_pure _) (Cvs.cons cvTk .nil))
             | (intros; exact (PureCall.none (split_pure _) (Cvs.cons cvTk .nil)))
             | exact (PureCall.none (split_pure _) (Cvs.cons cvEs .nil))
             | (intros; exact (PureCall.none (split_pure _) (Cvs.cons cvEs .nil)))
             | exact (PureCall.none (mark_pure _) (Cvs.cons cvEs .nil))
             | (intros; exact (PureCall.none (mark_pure _) (Cvs.cons cvEs .nil)))
             | exact (PureCall.none (markE_pure _) (Cvs.cons .sc .nil))
             | (intros; exact (PureCall.none (markE_pure _) (Cvs.cons .sc .nil)))
             | exact (PureCall.lent (split_pure _) (Cvs.cons (cv_ref rfl he (congrArg List.length he) (flatE _)) .nil) (ownTup3 (ownRs _) (ownRs _) .sc))
             | (intros; exact (PureCall.lent (split_pure _) (Cvs.cons (cv_ref rfl he (congrArg List.length he) (flatE _)) .nil) (ownTup3 (ownRs _) (ownRs _) .sc)))
             | exact (PureCall.lent (mark_pure _) (Cvs.cons (cv_ref rfl he (congrArg List.length he) (flatE _)) .nil) (ownTup2 .sc .sc))
             | (intros; exact (PureCall.lent (mark_pure _) (Cvs.cons (cv_ref rfl he (congrArg List.length he) (flatE _)) .nil) (ownTup2 .sc .sc)))
             | exact (hxs)
             | (intros; exact (hxs))
             | exact (hm')
             | (intros; exact (hm'))
             | (intro a; rw [a]; done)
             | (intro a; rw [a]; rfl)
             | (intro a b; rw [a, b]; done)
             | (intro a b; rw [a, b]; rfl)
             | exact wrap_i64 (by omega) (by omega)
             | (intros; exact wrap_i64 (by omega) (by omega))
             | (exact decide_eq_true (by omega))
             | (exact decide_eq_false (by omega))
             | exact ix_map (List.getElem?_eq_getElem (by omega))
             | (simp only [List.length_map]; omega)
             | (intros; omega)
             | (refine Nat.le_trans (Nat.mul_le_mul_right _ (show _ ≤ 5000 by simp; omega)) (by decide))
             | (refine Nat.le_trans (Nat.mul_le_mul_right _ (show _ ≤ 5000 by simp)) (by decide))
             | (unfold maxLen; simp; omega)
             | (unfold maxLen; simp; done)
             | (intro e he; rw [List.mem_singleton.1 he]; rfl)
             | (simp; done)
             | (intros; simp_all; done)) ?_
      rw [k1, k2, h, k5, k6, k7]
      generalize rightS l = x at *
      generalize lateS l = y at *
      generalize rightS (l.take c) = ra at *
      generalize rightS (second l c) = rc at *
      generalize lateS (l.take c) = la at *
      generalize lateS (second l c) = lc at *
      subst k3 k4
      have hA : (ra ++ rc).length ≤ maxLen := by unfold maxLen; omega
      have hB : (la ++ lc).length ≤ maxLen := by unfold maxLen; omega
      rcases ra with _ | ⟨ra0, ra⟩ <;> rcases rc with _ | ⟨rc0, rc⟩ <;> rcases la with _ | ⟨la0, la⟩ <;> rcases lc with _ | ⟨lc0, lc⟩
      · simp only [List.length_append, List.length_cons, List.length_nil] at hlen hlen2
        refine run_to tm 400 [.go true, .go true, .go true, .go true, .go true, .go true, .go true, .pure [encRs false ([] ++ []), encRs false ([] ++ [])] (bo true), .go true, .go true, .go true, .go true, .go true, .go true, .go true, .pure [encRs false ([] ++ []), encRs false ([] ++ [])] (bo true)] rfl
          (by
             repeat' first
               | exact trivial
               | refine And.intro ?_ ?_
               | exact fun h => h
               | rfl
               | assumption
               | (simp; done)
               | (intros; simp; done)
               | exact (szR _)
               | (intros; exact (szR _))
               | exact (szR (_ :: _))
               | (intros; exact (szR (_ :: _)))
               | exact (same_lent ([] ++ []) hA .nils)
               | (intros; exact (same_lent ([] ++ []) hA .nils))
               | exact (same_lent ([] ++ []) hB .nils)
               | (intros; exact (same_lent ([] ++ []) hB .nils))
               | (intro a; rw [a]; done)
               | (intro a; rw [a]; rfl)
               | (intro a b; rw [a, b]; done)
               | (intro a b; rw [a, b]; rfl)
               | exact wrap_i64 (by omega) (by omega)
               | (intros; exact wrap_i64 (by omega) (by omega))
               | (exact decide_eq_true (by omega))
               | (exact decide_eq_false (by omega))
               | exact ix_map (List.getElem?_eq_getElem (by omega))
               | (simp only [List.length_map]; omega)
               | (intros; omega)
               | (refine Nat.le_trans (Nat.mul_le_mul_right _ (show _ ≤ 5000 by simp; omega)) (by decide))
               | (refine Nat.le_trans (Nat.mul_le_mul_right _ (show _ ≤ 5000 by simp)) (by decide))
               | (unfold maxLen; simp; omega)
               | (unfold maxLen; simp; done)
               | (intro e he; rw [List.mem_singleton.1 he]; rfl)
               | (simp; done)
               | (intros; simp_all; done)) ?_
        refine fin_ret rfl (cv_bo ?_)
        simp
      · simp only [List.length_append, List.length_cons, List.length_nil] at hlen hlen2
        refine run_to tm 400 [.go true, .go true, .go true, .go true, .go true, .go true, .go true, .pure [encRs false ([] ++ []), encRs false ([] ++ [])] (bo true), .go true, .go true, .go true, .go true, .go true, .ne true, .go true, .go true, .pure [encRs false ([] ++ (lc0 :: lc)), encRs false ([] ++ (lc0 :: lc))] (bo true)] rfl
          (by
             repeat' first
               | exact trivial
               | refine And.intro ?_ ?_
               | exact fun h => h
               | rfl
               | assumption
               | (simp; done)
               | (intros; simp; done)
               | exact (szR _)
               | (intros; exact (szR _))
               | exact (szR (_ :: _))
               | (intros; exact (szR (_ :: _)))
               | exact (same_lent ([] ++ []) hA .nils)
               | (intros; exact (same_lent ([] ++ []) hA .nils))
               | exact (same_lent ([] ++ (lc0 :: lc)) hB (cv_ref (es := ([] ++ (lc0 :: lc)).map encR) rfl (by simp) (by simp <;> omega) (flatR _)))
               | (intros; exact (same_lent ([] ++ (lc0 :: lc)) hB (cv_ref (es := ([] ++ (lc0 :: lc)).map encR) rfl (by simp) (by simp <;> omega) (flatR _))))
               | (intro a; rw [a]; done)
               | (intro a; rw [a]; rfl)
               | (intro a b; rw [a, b]; done)
               | (intro a b; rw [a, b]; rfl)
               | exact wrap_i64 (by omega) (by omega)
               | (intros; exact wrap_i64 (by omega) (by omega))
               | (exact decide_eq_true (by omega))
               | (exact decide_eq_false (by omega))
               | exact ix_map (List.getElem?_eq_getElem (by omega))
               | (simp only [List.length_map]; omega)
               | (intros; omega)
               | (refine Nat.le_trans (Nat.mul_le_mul_right _ (show _ ≤ 5000 by simp; omega)) (by decide))
               | (refine Nat.le_trans (Nat.mul_le_mul_right _ (show _ ≤ 5000 by simp)) (by decide))
               | (unfold maxLen; simp; omega)
               | (unfold maxLen; simp; done)
               | (intro e he; rw [List.mem_singleton.1 he]; rfl)
               | (simp; done)
               | (intros; simp_all; done)) ?_
        refine fin_ret rfl (cv_bo ?_)
        simp
      · simp only [List.length_append, List.length_cons, List.length_nil] at hlen hlen2
        refine run_to tm 400 [.go true, .go true, .go true, .go true, .go true, .go true, .go true, .pure [encRs false ([] ++ []), encRs false ([] ++ [])] (bo true), .go true, .go true, .go true, .ne true, .go true, .go true, .go true, .go true, .pure [encRs false ((la0 :: la) ++ []), encRs false ((la0 :: la) ++ [])] (bo true)] rfl
          (by
             repeat' first
               | exact trivial
               | refine And.intro ?_ ?_
               | exact fun h => h
               | rfl
               | assumption
               | (simp; done)
               | (intros; simp; done)
               | exact (szR _)
               | (intros; exact (szR _))
               | exact (szR (_ :: _))
               | (intros; exact (szR (_ :: _)))
               | exact (same_lent ([] ++ []) hA .nils)
               | (intros; exact (same_lent ([] ++ []) hA .nils))
               | exact (same_lent ((la0 :: la) ++ []) hB (cv_ref (es := ((la0 :: la) ++ []).map encR) rfl (by simp) (by simp <;> omega) (flatR _)))
               | (intros; exact (same_lent ((la0 :: la) ++ []) hB (cv_ref (es := ((la0 :: la) ++ []).map encR) rfl (by simp) (by simp <;> omega) (flatR _))))
               | (intro a; rw [a]; done)
               | (intro a; rw [a]; rfl)
               | (intro a b; rw [a, b]; done)
               | (intro a b; rw [a, b]; rfl)
               | exact wrap_i64 (by omega) (by omega)
               | (intros; exact wrap_i64 (by omega) (by omega))
               | (exact decide_eq_true (by omega))
               | (exact decide_eq_false (by omega))
               | exact ix_map (List.getElem?_eq_getElem (by omega))
               | (simp only [List.length_map]; omega)
               | (intros; omega)
               | (refine Nat.le_trans (Nat.mul_le_mul_right _ (show _ ≤ 5000 by simp; omega)) (by decide))
               | (refine Nat.le_trans (Nat.mul_le_mul_right _ (show _ ≤ 5000 by simp)) (by decide))
               | (unfold maxLen; simp; omega)
               | (unfold maxLen; simp; done)
               | (intro e he; rw [List.mem_singleton.1 he]; rfl)
               | (simp; done)
               | (intros; simp_all; done)) ?_
        refine fin_ret rfl (cv_bo ?_)
        simp
      · simp only [List.length_append, List.length_cons, List.length_nil] at hlen hlen2
        refine run_to tm 400 [.go true, .go true, .go true, .go true, .go true, .go true, .go true, .pure [encRs false ([] ++ []), encRs false ([] ++ [])] (bo true), .go true, .go true, .go true, .ne true, .go true, .go true, .ne true, .go true, .go true, .pure [encRs false ((la0 :: la) ++ (lc0 :: lc)), encRs false ((la0 :: la) ++ (lc0 :: lc))] (bo true)] rfl
          (by
             repeat' first
               | exact trivial
               | refine And.intro ?_ ?_
               | exact fun h => h
               | rfl
               | assumption
               | (simp; done)
               | (intros; simp; done)
               | exact (szR _)
               | (intros; exact (szR _))
               | exact (szR (_ :: _))
               | (intros; exact (szR (_ :: _)))
               | exact (same_lent ([] ++ []) hA .nils)
               | (intros; exact (same_lent ([] ++ []) hA .nils))
               | exact (same_lent ((la0 :: la) ++ (lc0 :: lc)) hB (cv_ref (es := ((la0 :: la) ++ (lc0 :: lc)).map encR) rfl (by simp) (by simp <;> omega) (flatR _)))
               | (intros; exact (same_lent ((la0 :: la) ++ (lc0 :: lc)) hB (cv_ref (es := ((la0 :: la) ++ (lc0 :: lc)).map encR) rfl (by simp) (by simp <;> omega) (flatR _))))
               | (intro a; rw [a]; done)
               | (intro a; rw [a]; rfl)
               | (intro a b; rw [a, b]; done)
               | (intro a b; rw [a, b]; rfl)
               | exact wrap_i64 (by omega) (by omega)
               | (intros; exact wrap_i64 (by omega) (by omega))
               | (exact decide_eq_true (by omega))
               | (exact decide_eq_false (by omega))
               | exact ix_map (List.getElem?_eq_getElem (by omega))
               | (simp only [List.length_map]; omega)
               | (intros; omega)
               | (refine Nat.le_trans (Nat.mul_le_mul_right _ (show _ ≤ 5000 by simp; omega)) (by decide))
               | (refine Nat.le_trans (Nat.mul_le_mul_right _ (show _ ≤ 5000 by simp)) (by decide))
               | (unfold maxLen; simp; omega)
               | (unfold maxLen; simp; done)
               | (intro e he; rw [List.mem_singleton.1 he]; rfl)
               | (simp; done)
               | (intros; simp_all; done)) ?_
        refine fin_ret rfl (cv_bo ?_)
        simp
      · simp only [List.length_append, List.length_cons, List.length_nil] at hlen hlen2
        refine run_to tm 400 [.go true, .go true, .go true, .go true, .go true, .ne true, .go true, .go true, .pure [encRs false ([] ++ (rc0 :: rc)), encRs false ([] ++ (rc0 :: rc))] (bo true), .go true, .go true, .go true, .go true, .go true, .go true, .go true, .pure [encRs false ([] ++ []), encRs false ([] ++ [])] (bo true)] rfl
          (by
             repeat' first
               | exact trivial
               | refine And.intro ?_ ?_
               | exact fun h => h
               | rfl
               | assumption
               | (simp; done)
               | (intros; simp; done)
               | exact (szR _)
               | (intros; exact (szR _))
               | exact (szR (_ :: _))
               | (intros; exact (szR (_ :: _)))
               | exact (same_lent ([] ++ (rc0 :: rc)) hA (cv_ref (es := ([] ++ (rc0 :: rc)).map encR) rfl (by simp) (by simp <;> omega) (flatR _)))
               | (intros; exact (same_lent ([] ++ (rc0 :: rc)) hA (cv_ref (es := ([] ++ (rc0 :: rc)).map encR) rfl (by simp) (by simp <;> omega) (flatR _))))
               | exact (same_lent ([] ++ []) hB .nils)
               | (intros; exact (same_lent ([] ++ []) hB .nils))
               | (intro a; rw [a]; done)
               | (intro a; rw [a]; rfl)
               | (intro a b; rw [a, b]; done)
               | (intro a b; rw [a, b]; rfl)
               | exact wrap_i64 (by omega) (by omega)
               | (intros; exact wrap_i64 (by omega) (by omega))
               | (exact decide_eq_true (by omega))
               | (exact decide_eq_false (by omega))
               | exact ix_map (List.getElem?_eq_getElem (by omega))
               | (simp only [List.length_map]; omega)
               | (intros; omega)
               | (refine Nat.le_trans (Nat.mul_le_mul_right _ (show _ ≤ 5000 by simp; omega)) (by decide))
               | (refine Nat.le_trans (Nat.mul_le_mul_right _ (show _ ≤ 5000 by simp)) (by decide))
               | (unfold maxLen; simp; omega)
               | (unfold maxLen; simp; done)
               | (intro e he; rw [List.mem_singleton.1 he]; rfl)
               | (simp; done)
               | (intros; simp_all; done)) ?_
        refine fin_ret rfl (cv_bo ?_)
        simp
      · simp only [List.length_append, List.length_cons, List.length_nil] at hlen hlen2
        refine run_to tm 400 [.go true, .go true, .go true, .go true, .go true, .ne true, .go true, .go true, .pure [encRs false ([] ++ (rc0 :: rc)), encRs false ([] ++ (rc0 :: rc))] (bo true), .go true, .go true, .go true, .go true, .go true, .ne true, .go true, .go true, .pure [encRs false ([] ++ (lc0 :: lc)), encRs false ([] ++ (lc0 :: lc))] (bo true)] rfl
          (by
             repeat' first
               | exact trivial
               | refine And.intro ?_ ?_
               | exact fun h => h
               | rfl
               | assumption
               | (simp; done)
               | (intros; simp; done)
               | exact (szR _)
               | (intros; exact (szR _))
               | exact (szR (_ :: _))
               | (intros; exact (szR (_ :: _)))
               | exact (same_lent ([] ++ (rc0 :: rc)) hA (cv_ref (es := ([] ++ (rc0 :: rc)).map encR) rfl (by simp) (by simp <;> omega) (flatR _)))
               | (intros; exact (same_lent ([] ++ (rc0 :: rc)) hA (cv_ref (es := ([] ++ (rc0 :: rc)).map encR) rfl (by simp) (by simp <;> omega) (flatR _))))
               | exact (same_lent ([] ++ (lc0 :: lc)) hB (cv_ref (es := ([] ++ (lc0 :: lc)).map encR) rfl (by simp) (by simp <;> omega) (flatR _)))
               | (intros; exact (same_lent ([] ++ (lc0 :: lc)) hB (cv_ref (es := ([] ++ (lc0 :: lc)).map encR) rfl (by simp) (by simp <;> omega) (flatR _))))
               | (intro a; rw [a]; done)
               | (intro a; rw [a]; rfl)
               | (intro a b; rw [a, b]; done)
               | (intro a b; rw [a, b]; rfl)
               | exact wrap_i64 (by omega) (by omega)
               | (intros; exact wrap_i64 (by omega) (by omega))
               | (exact decide_eq_true (by omega))
               | (exact decide_eq_false (by omega))
               | exact ix_map (List.getElem?_eq_getElem (by omega))
               | (simp only [List.length_map]; omega)
               | (intros; omega)
               | (refine Nat.le_trans (Nat.mul_le_mul_right _ (show _ ≤ 5000 by simp; omega)) (by decide))
               | (refine Nat.le_trans (Nat.mul_le_mul_right _ (show _ ≤ 5000 by simp)) (by decide))
               | (unfold maxLen; simp; omega)
               | (unfold maxLen; simp; done)
               | (intro e he; rw [List.mem_singleton.1 he]; rfl)
               | (simp; done)
               | (intros; simp_all; done)) ?_
        refine fin_ret rfl (cv_bo ?_)
        simp
      · simp only [List.length_append, List.length_cons, List.length_nil] at hlen hlen2
        refine run_to tm 400 [.go true, .go true, .go true, .go true, .go true, .ne true, .go true, .go true, .pure [encRs false ([] ++ (rc0 :: rc)), encRs false ([] ++ (rc0 :: rc))] (bo true), .go true, .go true, .go true, .ne true, .go true, .go true, .go true, .go true, .pure [encRs false ((la0 :: la) ++ []), encRs false ((la0 :: la) ++ [])] (bo true)] rfl
          (by
             repeat' first
               | exact trivial
               | refine And.intro ?_ ?_
               | exact fun h => h
               | rfl
               | assumption
               | (simp; done)
               | (intros; simp; done)
               | exact (szR _)
               | (intros; exact (szR _))
               | exact (szR (_ :: _))
               | (intros; exact (szR (_ :: _)))
               | exact (same_lent ([] ++ (rc0 :: rc)) hA (cv_ref (es := ([] ++ (rc0 :: rc)).map encR) rfl (by simp) (by simp <;> omega) (flatR _)))
               | (intros; exact (same_lent ([] ++ (rc0 :: rc)) hA (cv_ref (es := ([] ++ (rc0 :: rc)).map encR) rfl (by simp) (by simp <;> omega) (flatR _))))
               | exact (same_lent ((la0 :: la) ++ []) hB (cv_ref (es := ((la0 :: la) ++ []).map encR) rfl (by simp) (by simp <;> omega) (flatR _)))
               | (intros; exact (same_lent ((la0 :: la) ++ []) hB (cv_ref (es := ((la0 :: la) ++ []).map encR) rfl (by simp) (by simp <;> omega) (flatR _))))
               | (intro a; rw [a]; done)
               | (intro a; rw [a]; rfl)
               | (intro a b; rw [a, b]; done)
               | (intro a b; rw [a, b]; rfl)
               | exact wrap_i64 (by omega) (by omega)
               | (intros; exact wrap_i64 (by omega) (by omega))
               | (exact decide_eq_true (by omega))
               | (exact decide_eq_false (by omega))
               | exact ix_map (List.getElem?_eq_getElem (by omega))
               | (simp only [List.length_map]; omega)
               | (intros; omega)
               | (refine Nat.le_trans (Nat.mul_le_mul_right _ (show _ ≤ 5000 by simp; omega)) (by decide))
               | (refine Nat.le_trans (Nat.mul_le_mul_right _ (show _ ≤ 5000 by simp)) (by decide))
               | (unfold maxLen; simp; omega)
               | (unfold maxLen; simp; done)
               | (intro e he; rw [List.mem_singleton.1 he]; rfl)
               | (simp; done)
               | (intros; simp_all; done)) ?_
        refine fin_ret rfl (cv_bo ?_)
        simp
      · simp only [List.length_append, List.length_cons, List.length_nil] at hlen hlen2
        refine run_to tm 400 [.go true, .go true, .go true, .go true, .go true, .ne true, .go true, .go true, .pure [encRs false ([] ++ (rc0 :: rc)), encRs false ([] ++ (rc0 :: rc))] (bo true), .go true, .go true, .go true, .ne true, .go true, .go true, .ne true, .go true, .go true, .pure [encRs false ((la0 :: la) ++ (lc0 :: lc)), encRs false ((la0 :: la) ++ (lc0 :: lc))] (bo true)] rfl
          (by
             repeat' first
               | exact trivial
               | refine And.intro ?_ ?_
               | exact fun h => h
               | rfl
               | assumption
               | (simp; done)
               | (intros; simp; done)
               | exact (szR _)
               | (intros; exact (szR _))
               | exact (szR (_ :: _))
               | (intros; exact (szR (_ :: _)))
               | exact (same_lent ([] ++ (rc0 :: rc)) hA (cv_ref (es := ([] ++ (rc0 :: rc)).map encR) rfl (by simp) (by simp <;> omega) (flatR _)))
               | (intros; exact (same_lent ([] ++ (rc0 :: rc)) hA (cv_ref (es := ([] ++ (rc0 :: rc)).map encR) rfl (by simp) (by simp <;> omega) (flatR _))))
               | exact (same_lent ((la0 :: la) ++ (lc0 :: lc)) hB (cv_ref (es := ((la0 :: la) ++ (lc0 :: lc)).map encR) rfl (by simp) (by simp <;> omega) (flatR _)))
               | (intros; exact (same_lent ((la0 :: la) ++ (lc0 :: lc)) hB (cv_ref (es := ((la0 :: la) ++ (lc0 :: lc)).map encR) rfl (by simp) (by simp <;> omega) (flatR _))))
               | (intro a; rw [a]; done)
               | (intro a; rw [a]; rfl)
               | (intro a b; rw [a, b]; done)
               | (intro a b; rw [a, b]; rfl)
               | exact wrap_i64 (by omega) (by omega)
               | (intros; exact wrap_i64 (by omega) (by omega))
               | (exact decide_eq_true (by omega))
               | (exact decide_eq_false (by omega))
               | exact ix_map (List.getElem?_eq_getElem (by omega))
               | (simp only [List.length_map]; omega)
               | (intros; omega)
               | (refine Nat.le_trans (Nat.mul_le_mul_right _ (show _ ≤ 5000 by simp; omega)) (by decide))
               | (refine Nat.le_trans (Nat.mul_le_mul_right _ (show _ ≤ 5000 by simp)) (by decide))
               | (unfold maxLen; simp; omega)
               | (unfold maxLen; simp; done)
               | (intro e he; rw [List.mem_singleton.1 he]; rfl)
               | (simp; done)
               | (intros; simp_all; done)) ?_
        refine fin_ret rfl (cv_bo ?_)
        simp
      · simp only [List.length_append, List.length_cons, List.length_nil] at hlen hlen2
        refine run_to tm 400 [.go true, .go true, .go true, .ne true, .go true, .go true, .go true, .go true, .pure [encRs false ((ra0 :: ra) ++ []), encRs false ((ra0 :: ra) ++ [])] (bo true), .go true, .go true, .go true, .go true, .go true, .go true, .go true, .pure [encRs false ([] ++ []), encRs false ([] ++ [])] (bo true)] rfl
          (by
             repeat' first
               | exact trivial
               | refine And.intro ?_ ?_
               | exact fun h => h
               | rfl
               | assumption
               | (simp; done)
               | (intros; simp; done)
               | exact (szR _)
               | (intros; exact (szR _))
               | exact (szR (_ :: _))
               | (intros; exact (szR (_ :: _)))
               | exact (same_lent ((ra0 :: ra) ++ []) hA (cv_ref (es := ((ra0 :: ra) ++ []).map encR) rfl (by simp) (by simp <;> omega) (flatR _)))
               | (intros; exact (same_lent ((ra0 :: ra) ++ []) hA (cv_ref (es := ((ra0 :: ra) ++ []).map encR) rfl (by simp) (by simp <;> omega) (flatR _))))
               | exact (same_lent ([] ++ []) hB .nils)
               | (intros; exact (same_lent ([] ++ []) hB .nils))
               | (intro a; rw [a]; done)
               | (intro a; rw [a]; rfl)
               | (intro a b; rw [a, b]; done)
               | (intro a b; rw [a, b]; rfl)
               | exact wrap_i64 (by omega) (by omega)
               | (intros; exact wrap_i64 (by omega) (by omega))
               | (exact decide_eq_true (by omega))
               | (exact decide_eq_false (by omega))
               | exact ix_map (List.getElem?_eq_getElem (by omega))
               | (simp only [List.length_map]; omega)
               | (intros; omega)
               | (refine Nat.le_trans (Nat.mul_le_mul_right _ (show _ ≤ 5000 by simp; omega)) (by decide))
               | (refine Nat.le_trans (Nat.mul_le_mul_right _ (show _ ≤ 5000 by simp)) (by decide))
               | (unfold maxLen; simp; omega)
               | (unfold maxLen; simp; done)
               | (intro e he; rw [List.mem_singleton.1 he]; rfl)
               | (simp; done)
               | (intros; simp_all; done)) ?_
        refine fin_ret rfl (cv_bo ?_)
        simp
      · simp only [List.length_append, List.length_cons, List.length_nil] at hlen hlen2
        refine run_to tm 400 [.go true, .go true, .go true, .ne true, .go true, .go true, .go true, .go true, .pure [encRs false ((ra0 :: ra) ++ []), encRs false ((ra0 :: ra) ++ [])] (bo true), .go true, .go true, .go true, .go true, .go true, .ne true, .go true, .go true, .pure [encRs false ([] ++ (lc0 :: lc)), encRs false ([] ++ (lc0 :: lc))] (bo true)] rfl
          (by
             repeat' first
               | exact trivial
               | refine And.intro ?_ ?_
               | exact fun h => h
               | rfl
               | assumption
               | (simp; done)
               | (intros; simp; done)
               | exact (szR _)
               | (intros; exact (szR _))
               | exact (szR (_ :: _))
               | (intros; exact (szR (_ :: _)))
               | exact (same_lent ((ra0 :: ra) ++ []) hA (cv_ref (es := ((ra0 :: ra) ++ []).map encR) rfl (by simp) (by simp <;> omega) (flatR _)))
               | (intros; exact (same_lent ((ra0 :: ra) ++ []) hA (cv_ref (es := ((ra0 :: ra) ++ []).map encR) rfl (by simp) (by simp <;> omega) (flatR _))))
               | exact (same_lent ([] ++ (lc0 :: lc)) hB (cv_ref (es := ([] ++ (lc0 :: lc)).map encR) rfl (by simp) (by simp <;> omega) (flatR _)))
               | (intros; exact (same_lent ([] ++ (lc0 :: lc)) hB (cv_ref (es := ([] ++ (lc0 :: lc)).map encR) rfl (by simp) (by simp <;> omega) (flatR _))))
               | (intro a; rw [a]; done)
               | (intro a; rw [a]; rfl)
               | (intro a b; rw [a, b]; done)
               | (intro a b; rw [a, b]; rfl)
               | exact wrap_i64 (by omega) (by omega)
               | (intros; exact wrap_i64 (by omega) (by omega))
               | (exact decide_eq_true (by omega))
               | (exact decide_eq_false (by omega))
               | exact ix_map (List.getElem?_eq_getElem (by omega))
               | (simp only [List.length_map]; omega)
               | (intros; omega)
               | (refine Nat.le_trans (Nat.mul_le_mul_right _ (show _ ≤ 5000 by simp; omega)) (by decide))
               | (refine Nat.le_trans (Nat.mul_le_mul_right _ (show _ ≤ 5000 by simp)) (by decide))
               | (unfold maxLen; simp; omega)
               | (unfold maxLen; simp; done)
               | (intro e he; rw [List.mem_singleton.1 he]; rfl)
               | (simp; done)
               | (intros; simp_all; done)) ?_
        refine fin_ret rfl (cv_bo ?_)
        simp
      · simp only [List.length_append, List.length_cons, List.length_nil] at hlen hlen2
        refine run_to tm 400 [.go true, .go true, .go true, .ne true, .go true, .go true, .go true, .go true, .pure [encRs false ((ra0 :: ra) ++ []), encRs false ((ra0 :: ra) ++ [])] (bo true), .go true, .go true, .go true, .ne true, .go true, .go true, .go true, .go true, .pure [encRs false ((la0 :: la) ++ []), encRs false ((la0 :: la) ++ [])] (bo true)] rfl
          (by
             repeat' first
               | exact trivial
               | refine And.intro ?_ ?_
               | exact fun h => h
               | rfl
               | assumption
               | (simp; done)
               | (intros; simp; done)
               | exact (szR _)
               | (intros; exact (szR _))
               | exact (szR (_ :: _))
               | (intros; exact (szR (_ :: _)))
               | exact (same_lent ((ra0 :: ra) ++ []) hA (cv_ref (es := ((ra0 :: ra) ++ []).map encR) rfl (by simp) (by simp <;> omega) (flatR _)))
               | (intros; exact (same_lent ((ra0 :: ra) ++ []) hA (cv_ref (es := ((ra0 :: ra) ++ []).map encR) rfl (by simp) (by simp <;> omega) (flatR _))))
               | exact (same_lent ((la0 :: la) ++ []) hB (cv_ref (es := ((la0 :: la) ++ []).map encR) rfl (by simp) (by simp <;> omega) (flatR _)))
               | (intros; exact (same_lent ((la0 :: la) ++ []) hB (cv_ref (es := ((la0 :: la) ++ []).map encR) rfl (by simp) (by simp <;> omega) (flatR _))))
               | (intro a; rw [a]; done)
               | (intro a; rw [a]; rfl)
               | (intro a b; rw [a, b]; done)
               | (intro a b; rw [a, b]; rfl)
               | exact wrap_i64 (by omega) (by omega)
               | (intros; exact wrap_i64 (by omega) (by omega))
               | (exact decide_eq_true (by omega))
               | (exact decide_eq_false (by omega))
               | exact ix_map (List.getElem?_eq_getElem (by omega))
               | (simp only [List.length_map]; omega)
               | (intros; omega)
               | (refine Nat.le_trans (Nat.mul_le_mul_right _ (show _ ≤ 5000 by simp; omega)) (by decide))
               | (refine Nat.le_trans (Nat.mul_le_mul_right _ (show _ ≤ 5000 by simp)) (by decide))
               | (unfold maxLen; simp; omega)
               | (unfold maxLen; simp; done)
               | (intro e he; rw [List.mem_singleton.1 he]; rfl)
               | (simp; done)
               | (intros; simp_all; done)) ?_
        refine fin_ret rfl (cv_bo ?_)
        simp
      · simp only [List.length_append, List.length_cons, List.length_nil] at hlen hlen2
        refine run_to tm 400 [.go true, .go true, .go true, .ne true, .go true, .go true, .go true, .go true, .pure [encRs false ((ra0 :: ra) ++ []), encRs false ((ra0 :: ra) ++ [])] (bo true), .go true, .go true, .go true, .ne true, .go true, .go true, .ne true, .go true, .go true, .pure [encRs false ((la0 :: la) ++ (lc0 :: lc)), encRs false ((la0 :: la) ++ (lc0 :: lc))] (bo true)] rfl
          (by
             repeat' first
               | exact trivial
               | refine And.intro ?_ ?_
               | exact fun h => h
               | rfl
               | assumption
               | (simp; done)
               | (intros; simp; done)
               | exact (szR _)
               | (intros; exact (szR _))
               | exact (szR (_ :: _))
               | (intros; exact (szR (_ :: _)))
               | exact (same_lent ((ra0 :: ra) ++ []) hA (cv_ref (es := ((ra0 :: ra) ++ []).map encR) rfl (by simp) (by simp <;> omega) (flatR _)))
               | (intros; exact (same_lent ((ra0 :: ra) ++ []) hA (cv_ref (es := ((ra0 :: ra) ++ []).map encR) rfl (by simp) (by simp <;> omega) (flatR _))))
               | exact (same_lent ((la0 :: la) ++ (lc0 :: lc)) hB (cv_ref (es := ((la0 :: la) ++ (lc0 :: lc)).map encR) rfl (by simp) (by simp <;> omega) (flatR _)))
               | (intros; exact (same_lent ((la0 :: la) ++ (lc0 :: lc)) hB (cv_ref (es := ((la0 :: la) ++ (lc0 :: lc)).map encR) rfl (by simp) (by simp <;> omega) (flatR _))))
               | (intro a; rw [a]; done)
               | (intro a; rw [a]; rfl)
               | (intro a b; rw [a, b]; done)
               | (intro a b; rw [a, b]; rfl)
               | exact wrap_i64 (by omega) (by omega)
               | (intros; exact wrap_i64 (by omega) (by omega))
               | (exact decide_eq_true (by omega))
               | (exact decide_eq_false (by omega))
               | exact ix_map (List.getElem?_eq_getElem (by omega))
               | (simp only [List.length_map]; omega)
               | (intros; omega)
               | (refine Nat.le_trans (Nat.mul_le_mul_right _ (show _ ≤ 5000 by simp; omega)) (by decide))
               | (refine Nat.le_trans (Nat.mul_le_mul_right _ (show _ ≤ 5000 by simp)) (by decide))
               | (unfold maxLen; simp; omega)
               | (unfold maxLen; simp; done)
               | (intro e he; rw [List.mem_singleton.1 he]; rfl)
               | (simp; done)
               | (intros; simp_all; done)) ?_
        refine fin_ret rfl (cv_bo ?_)
        simp
      · simp only [List.length_append, List.length_cons, List.length_nil] at hlen hlen2
        refine run_to tm 400 [.go true, .go true, .go true, .ne true, .go true, .go true, .ne true, .go true, .go true, .pure [encRs false ((ra0 :: ra) ++ (rc0 :: rc)), encRs false ((ra0 :: ra) ++ (rc0 :: rc))] (bo true), .go true, .go true, .go true, .go true, .go true, .go true, .go true, .pure [encRs false ([] ++ []), encRs false ([] ++ [])] (bo true)] rfl
          (by
             repeat' first
               | exact trivial
               | refine And.intro ?_ ?_
               | exact fun h => h
               | rfl
               | assumption
               | (simp; done)
               | (intros; simp; done)
               | exact (szR _)
               | (intros; exact (szR _))
               | exact (szR (_ :: _))
               | (intros; exact (szR (_ :: _)))
               | exact (same_lent ((ra0 :: ra) ++ (rc0 :: rc)) hA (cv_ref (es := ((ra0 :: ra) ++ (rc0 :: rc)).map encR) rfl (by simp) (by simp <;> omega) (flatR _)))
               | (intros; exact (same_lent ((ra0 :: ra) ++ (rc0 :: rc)) hA (cv_ref (es := ((ra0 :: ra) ++ (rc0 :: rc)).map encR) rfl (by simp) (by simp <;> omega) (flatR _))))
               | exact (same_lent ([] ++ []) hB .nils)
               | (intros; exact (same_lent ([] ++ []) hB .nils))
               | (intro a; rw [a]; done)
               | (intro a; rw [a]; rfl)
               | (intro a b; rw [a, b]; done)
               | (intro a b; rw [a, b]; rfl)
               | exact wrap_i64 (by omega) (by omega)
               | (intros; exact wrap_i64 (by omega) (by omega))
               | (exact decide_eq_true (by omega))
               | (exact decide_eq_false (by omega))
               | exact ix_map (List.getElem?_eq_getElem (by omega))
               | (simp only [List.length_map]; omega)
               | (intros; omega)
               | (refine Nat.le_trans (Nat.mul_le_mul_right _ (show _ ≤ 5000 by simp; omega)) (by decide))
               | (refine Nat.le_trans (Nat.mul_le_mul_right _ (show _ ≤ 5000 by simp)) (by decide))
               | (unfold maxLen; simp; omega)
               | (unfold maxLen; simp; done)
               | (intro e he; rw [List.mem_singleton.1 he]; rfl)
               | (simp; done)
               | (intros; simp_all; done)) ?_
        refine fin_ret rfl (cv_bo ?_)
        simp
      · simp only [List.length_append, List.length_cons, List.length_nil] at hlen hlen2
        refine run_to tm 400 [.go true, .go true, .go true, .ne true, .go true, .go true, .ne true, .go true, .go true, .pure [encRs false ((ra0 :: ra) ++ (rc0 :: rc)), encRs false ((ra0 :: ra) ++ (rc0 :: rc))] (bo true), .go true, .go true, .go true, .go true, .go true, .ne true, .go true, .go true, .pure [encRs false ([] ++ (lc0 :: lc)), encRs false ([] ++ (lc0 :: lc))] (bo true)] rfl
          (by
             repeat' first
               | exact trivial
               | refine And.intro ?_ ?_
               | exact fun h => h
               | rfl
               | assumption
               | (simp; done)
               | (intros; simp; done)
               | exact (szR _)
               | (intros; exact (szR _))
               | exact (szR (_ :: _))
               | (intros; exact (szR (_ :: _)))
               | exact (same_lent ((ra0 :: ra) ++ (rc0 :: rc)) hA (cv_ref (es := ((ra0 :: ra) ++ (rc0 :: rc)).map encR) rfl (by simp) (by simp <;> omega) (flatR _)))
               | (intros; exact (same_lent ((ra0 :: ra) ++ (rc0 :: rc)) hA (cv_ref (es := ((ra0 :: ra) ++ (rc0 :: rc)).map encR) rfl (by simp) (by simp <;> omega) (flatR _))))
               | exact (same_lent ([] ++ (lc0 :: lc)) hB (cv_ref (es := ([] ++ (lc0 :: lc)).map encR) rfl (by simp) (by simp <;> omega) (flatR _)))
               | (intros; exact (same_lent ([] ++ (lc0 :: lc)) hB (cv_ref (es := ([] ++ (lc0 :: lc)).map encR) rfl (by simp) (by simp <;> omega) (flatR _))))
               | (intro a; rw [a]; done)
               | (intro a; rw [a]; rfl)
               | (intro a b; rw [a, b]; done)
               | (intro a b; rw [a, b]; rfl)
               | exact wrap_i64 (by omega) (by omega)
               | (intros; exact wrap_i64 (by omega) (by omega))
               | (exact decide_eq_true (by omega))
               | (exact decide_eq_false (by omega))
               | exact ix_map (List.getElem?_eq_getElem (by omega))
               | (simp only [List.length_map]; omega)
               | (intros; omega)
               | (refine Nat.le_trans (Nat.mul_le_mul_right _ (show _ ≤ 5000 by simp; omega)) (by decide))
               | (refine Nat.le_trans (Nat.mul_le_mul_right _ (show _ ≤ 5000 by simp)) (by decide))
               | (unfold maxLen; simp; omega)
               | (unfold maxLen; simp; done)
               | (intro e he; rw [List.mem_singleton.1 he]; rfl)
               | (simp; done)
               | (intros; simp_all; done)) ?_
        refine fin_ret rfl (cv_bo ?_)
        simp
      · simp only [List.length_append, List.length_cons, List.length_nil] at hlen hlen2
        refine run_to tm 400 [.go true, .go true, .go true, .ne true, .go true, .go true, .ne true, .go true, .go true, .pure [encRs false ((ra0 :: ra) ++ (rc0 :: rc)), encRs false ((ra0 :: ra) ++ (rc0 :: rc))] (bo true), .go true, .go true, .go true, .ne true, .go true, .go true, .go true, .go true, .pure [encRs false ((la0 :: la) ++ []), encRs false ((la0 :: la) ++ [])] (bo true)] rfl
          (by
             repeat' first
               | exact trivial
               | refine And.intro ?_ ?_
               | exact fun h => h
               | rfl
               | assumption
               | (simp; done)
               | (intros; simp; done)
               | exact (szR _)
               | (intros; exact (szR _))
               | exact (szR (_ :: _))
               | (intros; exact (szR (_ :: _)))
               | exact (same_lent ((ra0 :: ra) ++ (rc0 :: rc)) hA (cv_ref (es := ((ra0 :: ra) ++ (rc0 :: rc)).map encR) rfl (by simp) (by simp <;> omega) (flatR _)))
               | (intros; exact (same_lent ((ra0 :: ra) ++ (rc0 :: rc)) hA (cv_ref (es := ((ra0 :: ra) ++ (rc0 :: rc)).map encR) rfl (by simp) (by simp <;> omega) (flatR _))))
               | exact (same_lent ((la0 :: la) ++ []) hB (cv_ref (es := ((la0 :: la) ++ []).map encR) rfl (by simp) (by simp <;> omega) (flatR _)))
               | (intros; exact (same_lent ((la0 :: la) ++ []) hB (cv_ref (es := ((la0 :: la) ++ []).map encR) rfl (by simp) (by simp <;> omega) (flatR _))))
               | (intro a; rw [a]; done)
               | (intro a; rw [a]; rfl)
               | (intro a b; rw [a, b]; done)
               | (intro a b; rw [a, b]; rfl)
               | exact wrap_i64 (by omega) (by omega)
               | (intros; exact wrap_i64 (by omega) (by omega))
               | (exact decide_eq_true (by omega))
               | (exact decide_eq_false (by omega))
               | exact ix_map (List.getElem?_eq_getElem (by omega))
               | (simp only [List.length_map]; omega)
               | (intros; omega)
               | (refine Nat.le_trans (Nat.mul_le_mul_right _ (show _ ≤ 5000 by simp; omega)) (by decide))
               | (refine Nat.le_trans (Nat.mul_le_mul_right _ (show _ ≤ 5000 by simp)) (by decide))
               | (unfold maxLen; simp; omega)
               | (unfold maxLen; simp; done)
               | (intro e he; rw [List.mem_singleton.1 he]; rfl)
               | (simp; done)
               | (intros; simp_all; done)) ?_
        refine fin_ret rfl (cv_bo ?_)
        simp
      · simp only [List.length_append, List.length_cons, List.length_nil] at hlen hlen2
        refine run_to tm 400 [.go true, .go true, .go true, .ne true, .go true, .go true, .ne true, .go true, .go true, .pure [encRs false ((ra0 :: ra) ++ (rc0 :: rc)), encRs false ((ra0 :: ra) ++ (rc0 :: rc))] (bo true), .go true, .go true, .go true, .ne true, .go true, .go true, .ne true, .go true, .go true, .pure [encRs false ((la0 :: la) ++ (lc0 :: lc)), encRs false ((la0 :: la) ++ (lc0 :: lc))] (bo true)] rfl
          (by
             repeat' first
               | exact trivial
               | refine And.intro ?_ ?_
               | exact fun h => h
               | rfl
               | assumption
               | (simp; done)
               | (intros; simp; done)
               | exact (szR _)
               | (intros; exact (szR _))
               | exact (szR (_ :: _))
               | (intros; exact (szR (_ :: _)))
               | exact (same_lent ((ra0 :: ra) ++ (rc0 :: rc)) hA (cv_ref (es := ((ra0 :: ra) ++ (rc0 :: rc)).map encR) rfl (by simp) (by simp <;> omega) (flatR _)))
               | (intros; exact (same_lent ((ra0 :: ra) ++ (rc0 :: rc)) hA (cv_ref (es := ((ra0 :: ra) ++ (rc0 :: rc)).map encR) rfl (by simp) (by simp <;> omega) (flatR _))))
               | exact (same_lent ((la0 :: la) ++ (lc0 :: lc)) hB (cv_ref (es := ((la0 :: la) ++ (lc0 :: lc)).map encR) rfl (by simp) (by simp <;> omega) (flatR _)))
               | (intros; exact (same_lent ((la0 :: la) ++ (lc0 :: lc)) hB (cv_ref (es := ((la0 :: la) ++ (lc0 :: lc)).map encR) rfl (by simp) (by simp <;> omega) (flatR _))))
               | (intro a; rw [a]; done)
               | (intro a; rw [a]; rfl)
               | (intro a b; rw [a, b]; done)
               | (intro a b; rw [a, b]; rfl)
               | exact wrap_i64 (by omega) (by omega)
               | (intros; exact wrap_i64 (by omega) (by omega))
               | (exact decide_eq_true (by omega))
               | (exact decide_eq_false (by omega))
               | exact ix_map (List.getElem?_eq_getElem (by omega))
               | (simp only [List.length_map]; omega)
               | (intros; omega)
               | (refine Nat.le_trans (Nat.mul_le_mul_right _ (show _ ≤ 5000 by simp; omega)) (by decide))
               | (refine Nat.le_trans (Nat.mul_le_mul_right _ (show _ ≤ 5000 by simp)) (by decide))
               | (unfold maxLen; simp; omega)
               | (unfold maxLen; simp; done)
               | (intro e he; rw [List.mem_singleton.1 he]; rfl)
               | (simp; done)
               | (intros; simp_all; done)) ?_
        refine fin_ret rfl (cv_bo ?_)
        simp
    · have hxs : ((l.map encE).drop ((c : Nat) : Int).toNat).take ((l.map encE).length - ((c : Nat) : Int).toNat) ≠ [] := by rw [dropEq]; simpa using hd
      have hm' : ((markS (l.take c)).1 != lowest) = true := by rw [k5]; simp [hm]
      have hs : second l c = markEv (markF lowest (l.take c)) :: l.drop c := by unfold second; rw [if_neg hm]
      have he : [encE (markEv (markS (l.take c)).1)] ++ ((((l.map encE).drop ((c : Nat) : Int).toNat).take ((l.map encE).length - ((c : Nat) : Int).toNat)).drop 0).take (((l.map encE).drop ((c : Nat) : Int).toNat).take ((l.map encE).length - ((c : Nat) : Int).toNat)).length = (second l c).map encE := by rw [List.drop_zero, List.take_length, dropEq, hs, k5]; rfl
      have hx2 : ((((l.map encE).drop ((c : Nat) : Int).toNat).take ((l.map encE).length - ((c : Nat) : Int).toNat)).drop 0).take (((l.map encE).drop ((c : Nat) : Int).toNat).take ((l.map encE).length - ((c : Nat) : Int).toNat)).length ≠ [] := by rw [List.drop_zero, List.take_length]; exact hxs
      have hz2 : ∀ e ∈ ((((l.map encE).drop ((c : Nat) : Int).toNat).take ((l.map encE).length - ((c : Nat) : Int).toNat)).drop 0).take (((l.map encE).drop ((c : Nat) : Int).toNat).take ((l.map encE).length - ((c : Nat) : Int).toNat)).length, e.cells.length = 5 := by rw [List.drop_zero, List.take_length]; exact szDT l c
      have hn : 1 + (((((l.map encE).drop ((c : Nat) : Int).toNat).take ((l.map encE).length - ((c : Nat) : Int).toNat)).drop 0).take (((l.map encE).drop ((c : Nat) : Int).toNat).take ((l.map encE).length - ((c : Nat) : Int).toNat)).length).length = ((second l c).map encE).length := by rw [← he]; simp; omega
      refine run_to tm 400 [.pure [] (bo true), .pure [encEs false l] (i64 (chk l)), .br false, .pure [encEs false (l.take c)] (.tup [i64 (markS (l.take c)).1, i64 (markS (l.take c)).2]), .ne true, .br true, .pure [i64 (markS (l.take c)).1] (encE (markEv (markS (l.take c)).1)), .ne true, .pure [encEs false (l.take c)] (.tup [encRs true (rightS (l.take c)), encRs true (lateS (l.take c)), i64 (chk (l.take c))]),
        .pure [encEs false (second l c)] (.tup [encRs true (rightS (second l c)), encRs true (lateS (second l c)), i64 (chk (second l c))]),
        .pure [encEs false l] (.tup [encRs true (rightS l), encRs true (lateS l), i64 (chk l)]),
        .pure [encEs false (second l c)] (.tup [i64 (markS (second l c)).1, i64 (markS (second l c)).2]), .pure [encEs false l] (.tup [i64 (markS l).1, i64 (markS l).2])] rfl
        (by
           repeat' first
             | exact trivial
             | refine And.intro ?_ ?_
             | exact fun h => h
             | rfl
             | assumption
             | exact (PureCall.none alive_pure .nil)
             | (intros; exact (PureCall.none alive_pure .nil))
             | exact (PureCall.none (rcheck_pure _) (Cvs.cons cvEs .nil))
             | (intros; exact (PureCall.none (rcheck_pure _) (Cvs.cons cvEs .nil)))
             | (rw [h]; simp; omega; done)
             | (intros; rw [h]; simp; omega; done)
             | exact (PureCall.none (mark_pure _) (Cvs.cons cvTk .nil))
             | (intros; exact (PureCall.none (mark_pure _) (Cvs.cons cvTk .nil)))
             | exact (sz5 l)
             | (intros; exact (sz5 l))
             | exact (szDT l c)
             | (intros; exact (szDT l c))
             | exact (PureCall.none (split_pure _) (Cvs.cons cvTk .nil))
             | (intros; exact (PureCall.none (split_pure _) (Cvs.cons cvTk .nil)))
             | exact (PureCall.none (split_pure _) (Cvs.cons cvEs .nil))
             | (intros; exact (PureCall.none (split_pure _) (Cvs.cons cvEs .nil)))
             | exact (PureCall.none (mark_pure _) (Cvs.cons cvEs .nil))
             | (intros; exact (PureCall.none (mark_pure _) (Cvs.cons cvEs .nil)))
             | exact (PureCall.none (markE_pure _) (Cvs.cons .sc .nil))
             | (intros; exact (PureCall.none (markE_pure _) (Cvs.cons .sc .nil)))
             | exact (PureCall.lent (split_pure _) (Cvs.cons (cv_ref rfl he hn (flatE _)) .nil) (ownTup3 (ownRs _) (ownRs _) .sc))
             | (intros; exact (PureCall.lent (split_pure _) (Cvs.cons (cv_ref rfl he hn (flatE _)) .nil) (ownTup3 (ownRs _) (ownRs _) .sc)))
             | exact (PureCall.lent (mark_pure _) (Cvs.cons (cv_ref rfl he hn (flatE _)) .nil) (ownTup2 .sc .sc))
             | (intros; exact (PureCall.lent (mark_pure _) (Cvs.cons (cv_ref rfl he hn (flatE _)) .nil) (ownTup2 .sc .sc)))
             | exact (hxs)
             | (intros; exact (hxs))
             | exact (hm')
             | (intros; exact (hm'))
             | exact (hx2)
             | (intros; exact (hx2))
             | exact (hz2)
             | (intros; exact (hz2))
             | (intro a; rw [a]; done)
             | (intro a; rw [a]; rfl)
             | (intro a b; rw [a, b]; done)
             | (intro a b; rw [a, b]; rfl)
             | exact wrap_i64 (by omega) (by omega)
             | (intros; exact wrap_i64 (by omega) (by omega))
             | (exact decide_eq_true (by omega))
             | (exact decide_eq_false (by omega))
             | exact ix_map (List.getElem?_eq_getElem (by omega))
             | (simp only [List.length_map]; omega)
             | (intros; omega)
             | (refine Nat.le_trans (Nat.mul_le_mul_right _ (show _ ≤ 5000 by simp; omega)) (by decide))
             | (refine Nat.le_trans (Nat.mul_le_mul_right _ (show _ ≤ 5000 by simp)) (by decide))
             | (unfold maxLen; simp; omega)
             | (unfold maxLen; simp; done)
             | (intro e he; rw [List.mem_singleton.1 he]; rfl)
             | (simp; done)
             | (intros; simp_all; done)) ?_
      rw [k1, k2, h, k5, k6, k7]
      generalize rightS l = x at *
      generalize lateS l = y at *
      generalize rightS (l.take c) = ra at *
      generalize rightS (second l c) = rc at *
      generalize lateS (l.take c) = la at *
      generalize lateS (second l c) = lc at *
      subst k3 k4
      have hA : (ra ++ rc).length ≤ maxLen := by unfold maxLen; omega
      have hB : (la ++ lc).length ≤ maxLen := by unfold maxLen; omega
      rcases ra with _ | ⟨ra0, ra⟩ <;> rcases rc with _ | ⟨rc0, rc⟩ <;> rcases la with _ | ⟨la0, la⟩ <;> rcases lc with _ | ⟨lc0, lc⟩
      · simp only [List.length_append, List.length_cons, List.length_nil] at hlen hlen2
        refine run_to tm 400 [.go true, .go true, .go true, .go true, .go true, .go true, .go true, .pure [encRs false ([] ++ []), encRs false ([] ++ [])] (bo true), .go true, .go true, .go true, .go true, .go true, .go true, .go true, .pure [encRs false ([] ++ []), encRs false ([] ++ [])] (bo true)] rfl
          (by
             repeat' first
               | exact trivial
               | refine And.intro ?_ ?_
               | exact fun h => h
               | rfl
               | assumption
               | (simp; done)
               | (intros; simp; done)
               | exact (szR _)
               | (intros; exact (szR _))
               | exact (szR (_ :: _))
               | (intros; exact (szR (_ :: _)))
               | exact (same_lent ([] ++ []) hA .nils)
               | (intros; exact (same_lent ([] ++ []) hA .nils))
               | exact (same_lent ([] ++ []) hB .nils)
               | (intros; exact (same_lent ([] ++ []) hB .nils))
               | (intro a; rw [a]; done)
               | (intro a; rw [a]; rfl)
               | (intro a b; rw [a, b]; done)
               | (intro a b; rw [a, b]; rfl)
               | exact wrap_i64 (by omega) (by omega)
               | (intros; exact wrap_i64 (by omega) (by omega))
               | (exact decide_eq_true (by omega))
               | (exact decide_eq_false (by omega))
               | exact ix_map (List.getElem?_eq_getElem (by omega))
               | (simp only [List.length_map]; omega)
               | (intros; omega)
               | (refine Nat.le_trans (Nat.mul_le_mul_right _ (show _ ≤ 5000 by simp; omega)) (by decide))
               | (refine Nat.le_trans (Nat.mul_le_mul_right _ (show _ ≤ 5000 by simp)) (by decide))
               | (unfold maxLen; simp; omega)
               | (unfold maxLen; simp; done)
               | (intro e he; rw [List.mem_singleton.1 he]; rfl)
               | (simp; done)
               | (intros; simp_all; done)) ?_
        refine fin_ret rfl (cv_bo ?_)
        simp
      · simp only [List.length_append, List.length_cons, List.length_nil] at hlen hlen2
        refine run_to tm 400 [.go true, .go true, .go true, .go true, .go true, .go true, .go true, .pure [encRs false ([] ++ []), encRs false ([] ++ [])] (bo true), .go true, .go true, .go true, .go true, .go true, .ne true, .go true, .go true, .pure [encRs false ([] ++ (lc0 :: lc)), encRs false ([] ++ (lc0 :: lc))] (bo true)] rfl
          (by
             repeat' first
               | exact trivial
               | refine And.intro ?_ ?_
               | exact fun h => h
               | rfl
               | assumption
               | (simp; done)
               | (intros; simp; done)
               | exact (szR _)
               | (intros; exact (szR _))
               | exact (szR (_ :: _))
               | (intros; exact (szR (_ :: _)))
               | exact (same_lent ([] ++ []) hA .nils)
               | (intros; exact (same_lent ([] ++ []) hA .nils))
               | exact (same_lent ([] ++ (lc0 :: lc)) hB (cv_ref (es := ([] ++ (lc0 :: lc)).map encR) rfl (by simp) (by simp <;> omega) (flatR _)))
               | (intros; exact (same_lent ([] ++ (lc0 :: lc)) hB (cv_ref (es := ([] ++ (lc0 :: lc)).map encR) rfl (by simp) (by simp <;> omega) (flatR _))))
               | (intro a; rw [a]; done)
               | (intro a; rw [a]; rfl)
               | (intro a b; rw [a, b]; done)
               | (intro a b; rw [a, b]; rfl)
               | exact wrap_i64 (by omega) (by omega)
               | (intros; exact wrap_i64 (by omega) (by omega))
               | (exact decide_eq_true (by omega))
               | (exact decide_eq_false (by omega))
               | exact ix_map (List.getElem?_eq_getElem (by omega))
               | (simp only [List.length_map]; omega)
               | (intros; omega)
               | (refine Nat.le_trans (Nat.mul_le_mul_right _ (show _ ≤ 5000 by simp; omega)) (by decide))
               | (refine Nat.le_trans (Nat.mul_le_mul_right _ (show _ ≤ 5000 by simp)) (by decide))
               | (unfold maxLen; simp; omega)
               | (unfold maxLen; simp; done)
               | (intro e he; rw [List.mem_singleton.1 he]; rfl)
               | (simp; done)
               | (intros; simp_all; done)) ?_
        refine fin_ret rfl (cv_bo ?_)
        simp
      · simp only [List.length_append, List.length_cons, List.length_nil] at hlen hlen2
        refine run_to tm 400 [.go true, .go true, .go true, .go true, .go true, .go true, .go true, .pure [encRs false ([] ++ []), encRs false ([] ++ [])] (bo true), .go true, .go true, .go true, .ne true, .go true, .go true, .go true, .go true, .pure [encRs false ((la0 :: la) ++ []), encRs false ((la0 :: la) ++ [])] (bo true)] rfl
          (by
             repeat' first
               | exact trivial
               | refine And.intro ?_ ?_
               | exact fun h => h
               | rfl
               | assumption
               | (simp; done)
               | (intros; simp; done)
               | exact (szR _)
               | (intros; exact (szR _))
               | exact (szR (_ :: _))
               | (intros; exact (szR (_ :: _)))
               | exact (same_lent ([] ++ []) hA .nils)
               | (intros; exact (same_lent ([] ++ []) hA .nils))
               | exact (same_lent ((la0 :: la) ++ []) hB (cv_ref (es := ((la0 :: la) ++ []).map encR) rfl (by simp) (by simp <;> omega) (flatR _)))
               | (intros; exact (same_lent ((la0 :: la) ++ []) hB (cv_ref (es := ((la0 :: la) ++ []).map encR) rfl (by simp) (by simp <;> omega) (flatR _))))
               | (intro a; rw [a]; done)
               | (intro a; rw [a]; rfl)
               | (intro a b; rw [a, b]; done)
               | (intro a b; rw [a, b]; rfl)
               | exact wrap_i64 (by omega) (by omega)
               | (intros; exact wrap_i64 (by omega) (by omega))
               | (exact decide_eq_true (by omega))
               | (exact decide_eq_false (by omega))
               | exact ix_map (List.getElem?_eq_getElem (by omega))
               | (simp only [List.length_map]; omega)
               | (intros; omega)
               | (refine Nat.le_trans (Nat.mul_le_mul_right _ (show _ ≤ 5000 by simp; omega)) (by decide))
               | (refine Nat.le_trans (Nat.mul_le_mul_right _ (show _ ≤ 5000 by simp)) (by decide))
               | (unfold maxLen; simp; omega)
               | (unfold maxLen; simp; done)
               | (intro e he; rw [List.mem_singleton.1 he]; rfl)
               | (simp; done)
               | (intros; simp_all; done)) ?_
        refine fin_ret rfl (cv_bo ?_)
        simp
      · simp only [List.length_append, List.length_cons, List.length_nil] at hlen hlen2
        refine run_to tm 400 [.go true, .go true, .go true, .go true, .go true, .go true, .go true, .pure [encRs false ([] ++ []), encRs false ([] ++ [])] (bo true), .go true, .go true, .go true, .ne true, .go true, .go true, .ne true, .go true, .go true, .pure [encRs false ((la0 :: la) ++ (lc0 :: lc)), encRs false ((la0 :: la) ++ (lc0 :: lc))] (bo true)] rfl
          (by
             repeat' first
               | exact trivial
               | refine And.intro ?_ ?_
               | exact fun h => h
               | rfl
               | assumption
               | (simp; done)
               | (intros; simp; done)
               | exact (szR _)
               | (intros; exact (szR _))
               | exact (szR (_ :: _))
               | (intros; exact (szR (_ :: _)))
               | exact (same_lent ([] ++ []) hA .nils)
               | (intros; exact (same_lent ([] ++ []) hA .nils))
               | exact (same_lent ((la0 :: la) ++ (lc0 :: lc)) hB (cv_ref (es := ((la0 :: la) ++ (lc0 :: lc)).map encR) rfl (by simp) (by simp <;> omega) (flatR _)))
               | (intros; exact (same_lent ((la0 :: la) ++ (lc0 :: lc)) hB (cv_ref (es := ((la0 :: la) ++ (lc0 :: lc)).map encR) rfl (by simp) (by simp <;> omega) (flatR _))))
               | (intro a; rw [a]; done)
               | (intro a; rw [a]; rfl)
               | (intro a b; rw [a, b]; done)
               | (intro a b; rw [a, b]; rfl)
               | exact wrap_i64 (by omega) (by omega)
               | (intros; exact wrap_i64 (by omega) (by omega))
               | (exact decide_eq_true (by omega))
               | (exact decide_eq_false (by omega))
               | exact ix_map (List.getElem?_eq_getElem (by omega))
               | (simp only [List.length_map]; omega)
               | (intros; omega)
               | (refine Nat.le_trans (Nat.mul_le_mul_right _ (show _ ≤ 5000 by simp; omega)) (by decide))
               | (refine Nat.le_trans (Nat.mul_le_mul_right _ (show _ ≤ 5000 by simp)) (by decide))
               | (unfold maxLen; simp; omega)
               | (unfold maxLen; simp; done)
               | (intro e he; rw [List.mem_singleton.1 he]; rfl)
               | (simp; done)
               | (intros; simp_all; done)) ?_
        refine fin_ret rfl (cv_bo ?_)
        simp
      · simp only [List.length_append, List.length_cons, List.length_nil] at hlen hlen2
        refine run_to tm 400 [.go true, .go true, .go true, .go true, .go true, .ne true, .go true, .go true, .pure [encRs false ([] ++ (rc0 :: rc)), encRs false ([] ++ (rc0 :: rc))] (bo true), .go true, .go true, .go true, .go true, .go true, .go true, .go true, .pure [encRs false ([] ++ []), encRs false ([] ++ [])] (bo true)] rfl
          (by
             repeat' first
               | exact trivial
               | refine And.intro ?_ ?_
               | exact fun h => h
               | rfl
               | assumption
               | (simp; done)
               | (intros; simp; done)
               | exact (szR _)
               | (intros; exact (szR _))
               | exact (szR (_ :: _))
               | (intros; exact (szR (_ :: _)))
               | exact (same_lent ([] ++ (rc0 :: rc)) hA (cv_ref (es := ([] ++ (rc0 :: rc)).map encR) rfl (by simp) (by simp <;> omega) (flatR _)))
               | (intros; exact (same_lent ([] ++ (rc0 :: rc)) hA (cv_ref (es := ([] ++ (rc0 :: rc)).map encR) rfl (by simp) (by simp <;> omega) (flatR _))))
               | exact (same_lent ([] ++ []) hB .nils)
               | (intros; exact (same_lent ([] ++ []) hB .nils))
               | (intro a; rw [a]; done)
               | (intro a; rw [a]; rfl)
               | (intro a b; rw [a, b]; done)
               | (intro a b; rw [a, b]; rfl)
               | exact wrap_i64 (by omega) (by omega)
               | (intros; exact wrap_i64 (by omega) (by omega))
               | (exact decide_eq_true (by omega))
               | (exact decide_eq_false (by omega))
               | exact ix_map (List.getElem?_eq_getElem (by omega))
               | (simp only [List.length_map]; omega)
               | (intros; omega)
               | (refine Nat.le_trans (Nat.mul_le_mul_right _ (show _ ≤ 5000 by simp; omega)) (by decide))
               | (refine Nat.le_trans (Nat.mul_le_mul_right _ (show _ ≤ 5000 by simp)) (by decide))
               | (unfold maxLen; simp; omega)
               | (unfold maxLen; simp; done)
               | (intro e he; rw [List.mem_singleton.1 he]; rfl)
               | (simp; done)
               | (intros; simp_all; done)) ?_
        refine fin_ret rfl (cv_bo ?_)
        simp
      · simp only [List.length_append, List.length_cons, List.length_nil] at hlen hlen2
        refine run_to tm 400 [.go true, .go true, .go true, .go true, .go true, .ne true, .go true, .go true, .pure [encRs false ([] ++ (rc0 :: rc)), encRs false ([] ++ (rc0 :: rc))] (bo true), .go true, .go true, .go true, .go true, .go true, .ne true, .go true, .go true, .pure [encRs false ([] ++ (lc0 :: lc)), encRs false ([] ++ (lc0 :: lc))] (bo true)] rfl
          (by
             repeat' first
               | exact trivial
               | refine And.intro ?_ ?_
               | exact fun h => h
               | rfl
               | assumption
               | (simp; done)
               | (intros; simp; done)
               | exact (szR _)
               | (intros; exact (szR _))
               | exact (szR (_ :: _))
               | (intros; exact (szR (_ :: _)))
               | exact (same_lent ([] ++ (rc0 :: rc)) hA (cv_ref (es := ([] ++ (rc0 :: rc)).map encR) rfl (by simp) (by simp <;> omega) (flatR _)))
               | (intros; exact (same_lent ([] ++ (rc0 :: rc)) hA (cv_ref (es := ([] ++ (rc0 :: rc)).map encR) rfl (by simp) (by simp <;> omega) (flatR _))))
               | exact (same_lent ([] ++ (lc0 :: lc)) hB (cv_ref (es := ([] ++ (lc0 :: lc)).map encR) rfl (by simp) (by simp <;> omega) (flatR _)))
               | (intros; exact (same_lent ([] ++ (lc0 :: lc)) hB (cv_ref (es := ([] ++ (lc0 :: lc)).map encR) rfl (by simp) (by simp <;> omega) (flatR _))))
               | (intro a; rw [a]; done)
               | (intro a; rw [a]; rfl)
               | (intro a b; rw [a, b]; done)
               | (intro a b; rw [a, b]; rfl)
               | exact wrap_i64 (by omega) (by omega)
               | (intros; exact wrap_i64 (by omega) (by omega))
               | (exact decide_eq_true (by omega))
               | (exact decide_eq_false (by omega))
               | exact ix_map (List.getElem?_eq_getElem (by omega))
               | (simp only [List.length_map]; omega)
               | (intros; omega)
               | (refine Nat.le_trans (Nat.mul_le_mul_right _ (show _ ≤ 5000 by simp; omega)) (by decide))
               | (refine Nat.le_trans (Nat.mul_le_mul_right _ (show _ ≤ 5000 by simp)) (by decide))
               | (unfold maxLen; simp; omega)
               | (unfold maxLen; simp; done)
               | (intro e he; rw [List.mem_singleton.1 he]; rfl)
               | (simp; done)
               | (intros; simp_all; done)) ?_
        refine fin_ret rfl (cv_bo ?_)
        simp
      · simp only [List.length_append, List.length_cons, List.length_nil] at hlen hlen2
        refine run_to tm 400 [.go true, .go true, .go true, .go true, .go true, .ne true, .go true, .go true, .pure [encRs false ([] ++ (rc0 :: rc)), encRs false ([] ++ (rc0 :: rc))] (bo true), .go true, .go true, .go true, .ne true, .go true, .go true, .go true, .go true, .pure [encRs false ((la0 :: la) ++ []), encRs false ((la0 :: la) ++ [])] (bo true)] rfl
          (by
             repeat' first
               | exact trivial
               | refine And.intro ?_ ?_
               | exact fun h => h
               | rfl
               | assumption
               | (simp; done)
               | (intros; simp; done)
               | exact (szR _)
               | (intros; exact (szR _))
               | exact (szR (_ :: _))
               | (intros; exact (szR (_ :: _)))
               | exact (same_lent ([] ++ (rc0 :: rc)) hA (cv_ref (es := ([] ++ (rc0 :: rc)).map encR) rfl (by simp) (by simp <;> omega) (flatR _)))
               | (intros; exact (same_lent ([] ++ (rc0 :: rc)) hA (cv_ref (es := ([] ++ (rc0 :: rc)).map encR) rfl (by simp) (by simp <;> omega) (flatR _))))
               | exact (same_lent ((la0 :: la) ++ []) hB (cv_ref (es := ((la0 :: la) ++ []).map encR) rfl (by simp) (by simp <;> omega) (flatR _)))
               | (intros; exact (same_lent ((la0 :: la) ++ []) hB (cv_ref (es := ((la0 :: la) ++ []).map encR) rfl (by simp) (by simp <;> omega) (flatR _))))
               | (intro a; rw [a]; done)
               | (intro a; rw [a]; rfl)
               | (intro a b; rw [a, b]; done)
               | (intro a b; rw [a, b]; rfl)
               | exact wrap_i64 (by omega) (by omega)
               | (intros; exact wrap_i64 (by omega) (by omega))
               | (exact decide_eq_true (by omega))
               | (exact decide_eq_false (by omega))
               | exact ix_map (List.getElem?_eq_getElem (by omega))
               | (simp only [List.length_map]; omega)
               | (intros; omega)
               | (refine Nat.le_trans (Nat.mul_le_mul_right _ (show _ ≤ 5000 by simp; omega)) (by decide))
               | (refine Nat.le_trans (Nat.mul_le_mul_right _ (show _ ≤ 5000 by simp)) (by decide))
               | (unfold maxLen; simp; omega)
               | (unfold maxLen; simp; done)
               | (intro e he; rw [List.mem_singleton.1 he]; rfl)
               | (simp; done)
               | (intros; simp_all; done)) ?_
        refine fin_ret rfl (cv_bo ?_)
        simp
      · simp only [List.length_append, List.length_cons, List.length_nil] at hlen hlen2
        refine run_to tm 400 [.go true, .go true, .go true, .go true, .go true, .ne true, .go true, .go true, .pure [encRs false ([] ++ (rc0 :: rc)), encRs false ([] ++ (rc0 :: rc))] (bo true), .go true, .go true, .go true, .ne true, .go true, .go true, .ne true, .go true, .go true, .pure [encRs false ((la0 :: la) ++ (lc0 :: lc)), encRs false ((la0 :: la) ++ (lc0 :: lc))] (bo true)] rfl
          (by
             repeat' first
               | exact trivial
               | refine And.intro ?_ ?_
               | exact fun h => h
               | rfl
               | assumption
               | (simp; done)
               | (intros; simp; done)
               | exact (szR _)
               | (intros; exact (szR _))
               | exact (szR (_ :: _))
               | (intros; exact (szR (_ :: _)))
               | exact (same_lent ([] ++ (rc0 :: rc)) hA (cv_ref (es := ([] ++ (rc0 :: rc)).map encR) rfl (by simp) (by simp <;> omega) (flatR _)))
               | (intros; exact (same_lent ([] ++ (rc0 :: rc)) hA (cv_ref (es := ([] ++ (rc0 :: rc)).map encR) rfl (by simp) (by simp <;> omega) (flatR _))))
               | exact (same_lent ((la0 :: la) ++ (lc0 :: lc)) hB (cv_ref (es := ((la0 :: la) ++ (lc0 :: lc)).map encR) rfl (by simp) (by simp <;> omega) (flatR _)))
               | (intros; exact (same_lent ((la0 :: la) ++ (lc0 :: lc)) hB (cv_ref (es := ((la0 :: la) ++ (lc0 :: lc)).map encR) rfl (by simp) (by simp <;> omega) (flatR _))))
               | (intro a; rw [a]; done)
               | (intro a; rw [a]; rfl)
               | (intro a b; rw [a, b]; done)
               | (intro a b; rw [a, b]; rfl)
               | exact wrap_i64 (by omega) (by omega)
               | (intros; exact wrap_i64 (by omega) (by omega))
               | (exact decide_eq_true (by omega))
               | (exact decide_eq_false (by omega))
               | exact ix_map (List.getElem?_eq_getElem (by omega))
               | (simp only [List.length_map]; omega)
               | (intros; omega)
               | (refine Nat.le_trans (Nat.mul_le_mul_right _ (show _ ≤ 5000 by simp; omega)) (by decide))
               | (refine Nat.le_trans (Nat.mul_le_mul_right _ (show _ ≤ 5000 by simp)) (by decide))
               | (unfold maxLen; simp; omega)
               | (unfold maxLen; simp; done)
               | (intro e he; rw [List.mem_singleton.1 he]; rfl)
               | (simp; done)
               | (intros; simp_all; done)) ?_
        refine fin_ret rfl (cv_bo ?_)
        simp
      · simp only [List.length_append, List.length_cons, List.length_nil] at hlen hlen2
        refine run_to tm 400 [.go true, .go true, .go true, .ne true, .go true, .go true, .go true, .go true, .pure [encRs false ((ra0 :: ra) ++ []), encRs false ((ra0 :: ra) ++ [])] (bo true), .go true, .go true, .go true, .go true, .go true, .go true, .go true, .pure [encRs false ([] ++ []), encRs false ([] ++ [])] (bo true)] rfl
          (by
             repeat' first
               | exact trivial
               | refine And.intro ?_ ?_
               | exact fun h => h
               | rfl
               | assumption
               | (simp; done)
               | (intros; simp; done)
               | exact (szR _)
               | (intros; exact (szR _))
               | exact (szR (_ :: _))
               | (intros; exact (szR (_ :: _)))
               | exact (same_lent ((ra0 :: ra) ++ []) hA (cv_ref (es := ((ra0 :: ra) ++ []).map encR) rfl (by simp) (by simp <;> omega) (flatR _)))
               | (intros; exact (same_lent ((ra0 :: ra) ++ []) hA (cv_ref (es := ((ra0 :: ra) ++ []).map encR) rfl (by simp) (by simp <;> omega) (flatR _))))
               | exact (same_lent ([] ++ []) hB .nils)
               | (intros; exact (same_lent ([] ++ []) hB .nils))
               | (intro a; rw [a]; done)
               | (intro a; rw [a]; rfl)
               | (intro a b; rw [a, b]; done)
               | (intro a b; rw [a, b]; rfl)
               | exact wrap_i64 (by omega) (by omega)
               | (intros; exact wrap_i64 (by omega) (by omega))
               | (exact decide_eq_true (by omega))
               | (exact decide_eq_false (by omega))
               | exact ix_map (List.getElem?_eq_getElem (by omega))
               | (simp only [List.length_map]; omega)
               | (intros; omega)
               | (refine Nat.le_trans (Nat.mul_le_mul_right _ (show _ ≤ 5000 by simp; omega)) (by decide))
               | (refine Nat.le_trans (Nat.mul_le_mul_right _ (show _ ≤ 5000 by simp)) (by decide))
               | (unfold maxLen; simp; omega)
               | (unfold maxLen; simp; done)
               | (intro e he; rw [List.mem_singleton.1 he]; rfl)
               | (simp; done)
               | (intros; simp_all; done)) ?_
        refine fin_ret rfl (cv_bo ?_)
        simp
      · simp only [List.length_append, List.length_cons, List.length_nil] at hlen hlen2
        refine run_to tm 400 [.go true, .go true, .go true, .ne true, .go true, .go true, .go true, .go true, .pure [encRs false ((ra0 :: ra) ++ []), encRs false ((ra0 :: ra) ++ [])] (bo true), .go true, .go true, .go true, .go true, .go true, .ne true, .go true, .go true, .pure [encRs false ([] ++ (lc0 :: lc)), encRs false ([] ++ (lc0 :: lc))] (bo true)] rfl
          (by
             repeat' first
               | exact trivial
               | refine And.intro ?_ ?_
               | exact fun h => h
               | rfl
               | assumption
               | (simp; done)
               | (intros; simp; done)
               | exact (szR _)
               | (intros; exact (szR _))
               | exact (szR (_ :: _))
               | (intros; exact (szR (_ :: _)))
               | exact (same_lent ((ra0 :: ra) ++ []) hA (cv_ref (es := ((ra0 :: ra) ++ []).map encR) rfl (by simp) (by simp <;> omega) (flatR _)))
               | (intros; exact (same_lent ((ra0 :: ra) ++ []) hA (cv_ref (es := ((ra0 :: ra) ++ []).map encR) rfl (by simp) (by simp <;> omega) (flatR _))))
               | exact (same_lent ([] ++ (lc0 :: lc)) hB (cv_ref (es := ([] ++ (lc0 :: lc)).map encR) rfl (by simp) (by simp <;> omega) (flatR _)))
               | (intros; exact (same_lent ([] ++ (lc0 :: lc)) hB (cv_ref (es := ([] ++ (lc0 :: lc)).map encR) rfl (by simp) (by simp <;> omega) (flatR _))))
               | (intro a; rw [a]; done)
               | (intro a; rw [a]; rfl)
               | (intro a b; rw [a, b]; done)
               | (intro a b; rw [a, b]; rfl)
               | exact wrap_i64 (by omega) (by omega)
               | (intros; exact wrap_i64 (by omega) (by omega))
               | (exact decide_eq_true (by omega))
               | (exact decide_eq_false (by omega))
               | exact ix_map (List.getElem?_eq_getElem (by omega))
               | (simp only [List.length_map]; omega)
               | (intros; omega)
               | (refine Nat.le_trans (Nat.mul_le_mul_right _ (show _ ≤ 5000 by simp; omega)) (by decide))
               | (refine Nat.le_trans (Nat.mul_le_mul_right _ (show _ ≤ 5000 by simp)) (by decide))
               | (unfold maxLen; simp; omega)
               | (unfold maxLen; simp; done)
               | (intro e he; rw [List.mem_singleton.1 he]; rfl)
               | (simp; done)
               | (intros; simp_all; done)) ?_
        refine fin_ret rfl (cv_bo ?_)
        simp
      · simp only [List.length_append, List.length_cons, List.length_nil] at hlen hlen2
        refine run_to tm 400 [.go true, .go true, .go true, .ne true, .go true, .go true, .go true, .go true, .pure [encRs false ((ra0 :: ra) ++ []), encRs false ((ra0 :: ra) ++ [])] (bo true), .go true, .go true, .go true, .ne true, .go true, .go true, .go true, .go true, .pure [encRs false ((la0 :: la) ++ []), encRs false ((la0 :: la) ++ [])] (bo true)] rfl
          (by
             repeat' first
               | exact trivial
               | refine And.intro ?_ ?_
               | exact fun h => h
               | rfl
               | assumption
               | (simp; done)
               | (intros; simp; done)
               | exact (szR _)
               | (intros; exact (szR _))
               | exact (szR (_ :: _))
               | (intros; exact (szR (_ :: _)))
               | exact (same_lent ((ra0 :: ra) ++ []) hA (cv_ref (es := ((ra0 :: ra) ++ []).map encR) rfl (by simp) (by simp <;> omega) (flatR _)))
               | (intros; exact (same_lent ((ra0 :: ra) ++ []) hA (cv_ref (es := ((ra0 :: ra) ++ []).map encR) rfl (by simp) (by simp <;> omega) (flatR _))))
               | exact (same_lent ((la0 :: la) ++ []) hB (cv_ref (es := ((la0 :: la) ++ []).map encR) rfl (by simp) (by simp <;> omega) (flatR _)))
               | (intros; exact (same_lent ((la0 :: la) ++ []) hB (cv_ref (es := ((la0 :: la) ++ []).map encR) rfl (by simp) (by simp <;> omega) (flatR _))))
               | (intro a; rw [a]; done)
               | (intro a; rw [a]; rfl)
               | (intro a b; rw [a, b]; done)
               | (intro a b; rw [a, b]; rfl)
               | exact wrap_i64 (by omega) (by omega)
               | (intros; exact wrap_i64 (by omega) (by omega))
               | (exact decide_eq_true (by omega))
               | (exact decide_eq_false (by omega))
               | exact ix_map (List.getElem?_eq_getElem (by omega))
               | (simp only [List.length_map]; omega)
               | (intros; omega)
               | (refine Nat.le_trans (Nat.mul_le_mul_right _ (show _ ≤ 5000 by simp; omega)) (by decide))
               | (refine Nat.le_trans (Nat.mul_le_mul_right _ (show _ ≤ 5000 by simp)) (by decide))
               | (unfold maxLen; simp; omega)
               | (unfold maxLen; simp; done)
               | (intro e he; rw [List.mem_singleton.1 he]; rfl)
               | (simp; done)
               | (intros; simp_all; done)) ?_
        refine fin_ret rfl (cv_bo ?_)
        simp
      · simp only [List.length_append, List.length_cons, List.length_nil] at hlen hlen2
        refine run_to tm 400 [.go true, .go true, .go true, .ne true, .go true, .go true, .go true, .go true, .pure [encRs false ((ra0 :: ra) ++ []), encRs false ((ra0 :: ra) ++ [])] (bo true), .go true, .go true, .go true, .ne true, .go true, .go true, .ne true, .go true, .go true, .pure [encRs false ((la0 :: la) ++ (lc0 :: lc)), encRs false ((la0 :: la) ++ (lc0 :: lc))] (bo true)] rfl
          (by
             repeat' first
               | exact trivial
               | refine And.intro ?_ ?_
               | exact fun h => h
               | rfl
               | assumption
               | (simp; done)
               | (intros; simp; done)
               | exact (szR _)
               | (intros; exact (szR _))
               | exact (szR (_ :: _))
               | (intros; exact (szR (_ :: _)))
               | exact (same_lent ((ra0 :: ra) ++ []) hA (cv_ref (es := ((ra0 :: ra) ++ []).map encR) rfl (by simp) (by simp <;> omega) (flatR _)))
               | (intros; exact (same_lent ((ra0 :: ra) ++ []) hA (cv_ref (es := ((ra0 :: ra) ++ []).map encR) rfl (by simp) (by simp <;> omega) (flatR _))))
               | exact (same_lent ((la0 :: la) ++ (lc0 :: lc)) hB (cv_ref (es := ((la0 :: la) ++ (lc0 :: lc)).map encR) rfl (by simp) (by simp <;> omega) (flatR _)))
               | (intros; exact (same_lent ((la0 :: la) ++ (lc0 :: lc)) hB (cv_ref (es := ((la0 :: la) ++ (lc0 :: lc)).map encR) rfl (by simp) (by simp <;> omega) (flatR _))))
               | (intro a; rw [a]; done)
               | (intro a; rw [a]; rfl)
               | (intro a b; rw [a, b]; done)
               | (intro a b; rw [a, b]; rfl)
               | exact wrap_i64 (by omega) (by omega)
               | (intros; exact wrap_i64 (by omega) (by omega))
               | (exact decide_eq_true (by omega))
               | (exact decide_eq_false (by omega))
               | exact ix_map (List.getElem?_eq_getElem (by omega))
               | (simp only [List.length_map]; omega)
               | (intros; omega)
               | (refine Nat.le_trans (Nat.mul_le_mul_right _ (show _ ≤ 5000 by simp; omega)) (by decide))
               | (refine Nat.le_trans (Nat.mul_le_mul_right _ (show _ ≤ 5000 by simp)) (by decide))
               | (unfold maxLen; simp; omega)
               | (unfold maxLen; simp; done)
               | (intro e he; rw [List.mem_singleton.1 he]; rfl)
               | (simp; done)
               | (intros; simp_all; done)) ?_
        refine fin_ret rfl (cv_bo ?_)
        simp
      · simp only [List.length_append, List.length_cons, List.length_nil] at hlen hlen2
        refine run_to tm 400 [.go true, .go true, .go true, .ne true, .go true, .go true, .ne true, .go true, .go true, .pure [encRs false ((ra0 :: ra) ++ (rc0 :: rc)), encRs false ((ra0 :: ra) ++ (rc0 :: rc))] (bo true), .go true, .go true, .go true, .go true, .go true, .go true, .go true, .pure [encRs false ([] ++ []), encRs false ([] ++ [])] (bo true)] rfl
          (by
             repeat' first
               | exact trivial
               | refine And.intro ?_ ?_
               | exact fun h => h
               | rfl
               | assumption
               | (simp; done)
               | (intros; simp; done)
               | exact (szR _)
               | (intros; exact (szR _))
               | exact (szR (_ :: _))
               | (intros; exact (szR (_ :: _)))
               | exact (same_lent ((ra0 :: ra) ++ (rc0 :: rc)) hA (cv_ref (es := ((ra0 :: ra) ++ (rc0 :: rc)).map encR) rfl (by simp) (by simp <;> omega) (flatR _)))
               | (intros; exact (same_lent ((ra0 :: ra) ++ (rc0 :: rc)) hA (cv_ref (es := ((ra0 :: ra) ++ (rc0 :: rc)).map encR) rfl (by simp) (by simp <;> omega) (flatR _))))
               | exact (same_lent ([] ++ []) hB .nils)
               | (intros; exact (same_lent ([] ++ []) hB .nils))
               | (intro a; rw [a]; done)
               | (intro a; rw [a]; rfl)
               | (intro a b; rw [a, b]; done)
               | (intro a b; rw [a, b]; rfl)
               | exact wrap_i64 (by omega) (by omega)
               | (intros; exact wrap_i64 (by omega) (by omega))
               | (exact decide_eq_true (by omega))
               | (exact decide_eq_false (by omega))
               | exact ix_map (List.getElem?_eq_getElem (by omega))
               | (simp only [List.length_map]; omega)
               | (intros; omega)
               | (refine Nat.le_trans (Nat.mul_le_mul_right _ (show _ ≤ 5000 by simp; omega)) (by decide))
               | (refine Nat.le_trans (Nat.mul_le_mul_right _ (show _ ≤ 5000 by simp)) (by decide))
               | (unfold maxLen; simp; omega)
               | (unfold maxLen; simp; done)
               | (intro e he; rw [List.mem_singleton.1 he]; rfl)
               | (simp; done)
               | (intros; simp_all; done)) ?_
        refine fin_ret rfl (cv_bo ?_)
        simp
      · simp only [List.length_append, List.length_cons, List.length_nil] at hlen hlen2
        refine run_to tm 400 [.go true, .go true, .go true, .ne true, .go true, .go true, .ne true, .go true, .go true, .pure [encRs false ((ra0 :: ra) ++ (rc0 :: rc)), encRs false ((ra0 :: ra) ++ (rc0 :: rc))] (bo true), .go true, .go true, .go true, .go true, .go true, .ne true, .go true, .go true, .pure [encRs false ([] ++ (lc0 :: lc)), encRs false ([] ++ (lc0 :: lc))] (bo true)] rfl
          (by
             repeat' first
               | exact trivial
               | refine And.intro ?_ ?_
               | exact fun h => h
               | rfl
               | assumption
               | (simp; done)
               | (intros; simp; done)
               | exact (szR _)
               | (intros; exact (szR _))
               | exact (szR (_ :: _))
               | (intros; exact (szR (_ :: _)))
               | exact (same_lent ((ra0 :: ra) ++ (rc0 :: rc)) hA (cv_ref (es := ((ra0 :: ra) ++ (rc0 :: rc)).map encR) rfl (by simp) (by simp <;> omega) (flatR _)))
               | (intros; exact (same_lent ((ra0 :: ra) ++ (rc0 :: rc)) hA (cv_ref (es := ((ra0 :: ra) ++ (rc0 :: rc)).map encR) rfl (by simp) (by simp <;> omega) (flatR _))))
               | exact (same_lent ([] ++ (lc0 :: lc)) hB (cv_ref (es := ([] ++ (lc0 :: lc)).map encR) rfl (by simp) (by simp <;> omega) (flatR _)))
               | (intros; exact (same_lent ([] ++ (lc0 :: lc)) hB (cv_ref (es := ([] ++ (lc0 :: lc)).map encR) rfl (by simp) (by simp <;> omega) (flatR _))))
               | (intro a; rw [a]; done)
               | (intro a; rw [a]; rfl)
               | (intro a b; rw [a, b]; done)
               | (intro a b; rw [a, b]; rfl)
               | exact wrap_i64 (by omega) (by omega)
               | (intros; exact wrap_i64 (by omega) (by omega))
               | (exact decide_eq_true (by omega))
               | (exact decide_eq_false (by omega))
               | exact ix_map (List.getElem?_eq_getElem (by omega))
               | (simp only [List.length_map]; omega)
               | (intros; omega)
               | (refine Nat.le_trans (Nat.mul_le_mul_right _ (show _ ≤ 5000 by simp; omega)) (by decide))
               | (refine Nat.le_trans (Nat.mul_le_mul_right _ (show _ ≤ 5000 by simp)) (by decide))
               | (unfold maxLen; simp; omega)
               | (unfold maxLen; simp; done)
               | (intro e he; rw [List.mem_singleton.1 he]; rfl)
               | (simp; done)
               | (intros; simp_all; done)) ?_
        refine fin_ret rfl (cv_bo ?_)
        simp
      · simp only [List.length_append, List.length_cons, List.length_nil] at hlen hlen2
        refine run_to tm 400 [.go true, .go true, .go true, .ne true, .go true, .go true, .ne true, .go true, .go true, .pure [encRs false ((ra0 :: ra) ++ (rc0 :: rc)), encRs false ((ra0 :: ra) ++ (rc0 :: rc))] (bo true), .go true, .go true, .go true, .ne true, .go true, .go true, .go true, .go true, .pure [encRs false ((la0 :: la) ++ []), encRs false ((la0 :: la) ++ [])] (bo true)] rfl
          (by
             repeat' first
               | exact trivial
               | refine And.intro ?_ ?_
               | exact fun h => h
               | rfl
               | assumption
               | (simp; done)
               | (intros; simp; done)
               | exact (szR _)
               | (intros; exact (szR _))
               | exact (szR (_ :: _))
               | (intros; exact (szR (_ :: _)))
               | exact (same_lent ((ra0 :: ra) ++ (rc0 :: rc)) hA (cv_ref (es := ((ra0 :: ra) ++ (rc0 :: rc)).map encR) rfl (by simp) (by simp <;> omega) (flatR _)))
               | (intros; exact (same_lent ((ra0 :: ra) ++ (rc0 :: rc)) hA (cv_ref (es := ((ra0 :: ra) ++ (rc0 :: rc)).map encR) rfl (by simp) (by simp <;> omega) (flatR _))))
               | exact (same_lent ((la0 :: la) ++ []) hB (cv_ref (es := ((la0 :: la) ++ []).map encR) rfl (by simp) (by simp <;> omega) (flatR _)))
               | (intros; exact (same_lent ((la0 :: la) ++ []) hB (cv_ref (es := ((la0 :: la) ++ []).map encR) rfl (by simp) (by simp <;> omega) (flatR _))))
               | (intro a; rw [a]; done)
               | (intro a; rw [a]; rfl)
               | (intro a b; rw [a, b]; done)
               | (intro a b; rw [a, b]; rfl)
               | exact wrap_i64 (by omega) (by omega)
               | (intros; exact wrap_i64 (by omega) (by omega))
               | (exact decide_eq_true (by omega))
               | (exact decide_eq_false (by omega))
               | exact ix_map (List.getElem?_eq_getElem (by omega))
               | (simp only [List.length_map]; omega)
               | (intros; omega)
               | (refine Nat.le_trans (Nat.mul_le_mul_right _ (show _ ≤ 5000 by simp; omega)) (by decide))
               | (refine Nat.le_trans (Nat.mul_le_mul_right _ (show _ ≤ 5000 by simp)) (by decide))
               | (unfold maxLen; simp; omega)
               | (unfold maxLen; simp; done)
               | (intro e he; rw [List.mem_singleton.1 he]; rfl)
               | (simp; done)
               | (intros; simp_all; done)) ?_
        refine fin_ret rfl (cv_bo ?_)
        simp
      · simp only [List.length_append, List.length_cons, List.length_nil] at hlen hlen2
        refine run_to tm 400 [.go true, .go true, .go true, .ne true, .go true, .go true, .ne true, .go true, .go true, .pure [encRs false ((ra0 :: ra) ++ (rc0 :: rc)), encRs false ((ra0 :: ra) ++ (rc0 :: rc))] (bo true), .go true, .go true, .go true, .ne true, .go true, .go true, .ne true, .go true, .go true, .pure [encRs false ((la0 :: la) ++ (lc0 :: lc)), encRs false ((la0 :: la) ++ (lc0 :: lc))] (bo true)] rfl
          (by
             repeat' first
               | exact trivial
               | refine And.intro ?_ ?_
               | exact fun h => h
               | rfl
               | assumption
               | (simp; done)
               | (intros; simp; done)
               | exact (szR _)
               | (intros; exact (szR _))
               | exact (szR (_ :: _))
               | (intros; exact (szR (_ :: _)))
               | exact (same_lent ((ra0 :: ra) ++ (rc0 :: rc)) hA (cv_ref (es := ((ra0 :: ra) ++ (rc0 :: rc)).map encR) rfl (by simp) (by simp <;> omega) (flatR _)))
               | (intros; exact (same_lent ((ra0 :: ra) ++ (rc0 :: rc)) hA (cv_ref (es := ((ra0 :: ra) ++ (rc0 :: rc)).map encR) rfl (by simp) (by simp <;> omega) (flatR _))))
               | exact (same_lent ((la0 :: la) ++ (lc0 :: lc)) hB (cv_ref (es := ((la0 :: la) ++ (lc0 :: lc)).map encR) rfl (by simp) (by simp <;> omega) (flatR _)))
               | (intros; exact (same_lent ((la0 :: la) ++ (lc0 :: lc)) hB (cv_ref (es := ((la0 :: la) ++ (lc0 :: lc)).map encR) rfl (by simp) (by simp <;> omega) (flatR _))))
               | (intro a; rw [a]; done)
               | (intro a; rw [a]; rfl)
               | (intro a b; rw [a, b]; done)
               | (intro a b; rw [a, b]; rfl)
               | exact wrap_i64 (by omega) (by omega)
               | (intros; exact wrap_i64 (by omega) (by omega))
               | (exact decide_eq_true (by omega))
               | (exact decide_eq_false (by omega))
               | exact ix_map (List.getElem?_eq_getElem (by omega))
               | (simp only [List.length_map]; omega)
               | (intros; omega)
               | (refine Nat.le_trans (Nat.mul_le_mul_right _ (show _ ≤ 5000 by simp; omega)) (by decide))
               | (refine Nat.le_trans (Nat.mul_le_mul_right _ (show _ ≤ 5000 by simp)) (by decide))
               | (unfold maxLen; simp; omega)
               | (unfold maxLen; simp; done)
               | (intro e he; rw [List.mem_singleton.1 he]; rfl)
               | (simp; done)
               | (intros; simp_all; done)) ?_
        refine fin_ret rfl (cv_bo ?_)
        simp
theorem partsL (xs : List AV) (h : Rels (fun t a => Shape Try.prog 4 t a) [33, 3] xs) : Pure Try.prog 9 xs (.sc (.bool true)) := by
  cases h with
  | cons h hr => cases hr with
    | cons h2 hr =>
      cases hr
      obtain ⟨l, rfl, _⟩ := evs_shape (n := 0) h
      unfold Shape at h2
      simp only [Try.underlying3] at h2
      obtain ⟨z, rfl, _⟩ := h2
      by_cases hs : chk l ≠ 0 ∨ 60 ≤ l.length ∨ z < 0 ∨ l.length < z
      · exact parts_skip l z hs
      · obtain ⟨c, rfl⟩ := Int.eq_ofNat_of_zero_le (show 0 ≤ z by omega)
        exact parts_pure l c (by omega) (by omega) (by omega)
end Go.Av.Try
