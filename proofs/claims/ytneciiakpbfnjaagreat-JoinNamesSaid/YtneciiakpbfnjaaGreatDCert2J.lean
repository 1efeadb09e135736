/- Printed by decomp.py: that the program computes the functions. -/
import Derived.Test.YtneciiakpbfnjaaGreatDCert0J
import Derived.Test.YtneciiakpbfnjaaGreatDCert1J
set_option linter.all false
set_option linter.unusedVariables false
namespace Go.Av.Tryz
open Go.Proofs Go.D
set_option maxRecDepth 10000
set_option maxHeartbeats 4000000

theorem nodes_tops_ok (a0 : (List GNode)) (r : (List Gnodes_top) × Bool) (h : nodes_tops a0 = some r) : Pure Tryz.prog 174 [(AV.list false (List.map enc_GNode a0))] (AV.tup [(AV.list true (List.map enc_Gnodes_top r.1)), (aB r.2)]) := by
 refine Pure.sym tyTab_ok fn174 (nt := 105) rfl rfl ?_ (allCons .list allNil)
 unfold nodes_tops at h
 refine bindE h ?_
 clear h; intro u1 h2 h
 have qh2 := lenOk_le h2
 refine bindE h ?_
 clear h; intro o475 h476 h
 refine runT tmD [.el (aI .i64 (List.length a0 : Int))] ?_
 refine wkT [] (SemK.cut (nodes_tops_L0_ok a0 qh2 a0 0 (by simp) _ _ (nbT (by first | rfl | simp [*])) (nbT (by first | rfl | simp [*])) _ h476 ?_ ?_))
 ·intro z0_0_o0 z0_0_o1 nb_z0_0_o0 nb_z0_0_o1 eo475; subst eo475
  refine SemK.glue ?_
  try dsimp only at h
  rcases nb_z0_0_o0 with ⟨_ | _, hn_z0_0_o0⟩
  ·
   rcases nb_z0_0_o1 with ⟨_ | _, hn_z0_0_o1⟩
   ·
    obtain rfl := Option.some.inj h
    refine runT tmD [.el (aI .i64 (List.length z0_0_o1 : Int))] ?_
    refine fin_ret rfl ?_
    exact (cv_tup (Cvs.cons (cv_ref (es := List.map enc_Gnodes_top z0_0_o0) rfl (by first | rfl | (simp; done) | (simp; rfl) | (simp []; done) | (simp []; rfl) | (simp [List.map_take, List.map_drop]; done) | (simp [List.map_take, List.map_drop]; rfl)) (by first | rfl | (simp; done) | (simp; omega) | (simp []; done) | (simp []; omega)) (flat_map flat_Gnodes_top z0_0_o0)) (Cvs.cons (cv_scE (by first | rfl | (simp [*]; done))) Cvs.nil)))
   ·
    obtain rfl := hn_z0_0_o1 rfl
    obtain rfl := Option.some.inj h
    refine runT tmD [.el (aI .i64 (List.length ([] : List Gnodes_top) : Int))] ?_
    refine fin_ret rfl ?_
    exact (cv_tup (Cvs.cons (cv_ref (es := List.map enc_Gnodes_top z0_0_o0) rfl (by first | rfl | (simp; done) | (simp; rfl) | (simp []; done) | (simp []; rfl) | (simp [List.map_take, List.map_drop]; done) | (simp [List.map_take, List.map_drop]; rfl)) (by first | rfl | (simp; done) | (simp; omega) | (simp []; done) | (simp []; omega)) (flat_map flat_Gnodes_top z0_0_o0)) (Cvs.cons (cv_scE (by first | rfl | (simp [*]; done))) Cvs.nil)))
  ·
   obtain rfl := hn_z0_0_o0 rfl
   rcases nb_z0_0_o1 with ⟨_ | _, hn_z0_0_o1⟩
   ·
    obtain rfl := Option.some.inj h
    refine runT tmD [.el (aI .i64 (List.length z0_0_o1 : Int))] ?_
    refine fin_ret rfl ?_
    exact (cv_tup (Cvs.cons (cv_nils (by simp)) (Cvs.cons (cv_scE (by first | rfl | (simp [*]; done))) Cvs.nil)))
   ·
    obtain rfl := hn_z0_0_o1 rfl
    obtain rfl := Option.some.inj h
    refine runT tmD [.el (aI .i64 (List.length ([] : List Gnodes_top) : Int))] ?_
    refine fin_ret rfl ?_
    exact (cv_tup (Cvs.cons (cv_nils (by simp)) (Cvs.cons (cv_scE (by first | rfl | (simp [*]; done))) Cvs.nil)))
 ·intro z0_1_o0 nb_z0_1_o0 eo475; subst eo475
  refine SemK.glue ?_
  try dsimp only at h
  rcases nb_z0_1_o0 with ⟨_ | _, hn_z0_1_o0⟩
  ·
   obtain rfl := Option.some.inj h
   refine runT tmD [] ?_
   refine fin_ret rfl ?_
   exact (cv_tup (Cvs.cons (cv_ref (es := List.map enc_Gnodes_top z0_1_o0) rfl (by first | rfl | (simp; done) | (simp; rfl) | (simp []; done) | (simp []; rfl) | (simp [List.map_take, List.map_drop]; done) | (simp [List.map_take, List.map_drop]; rfl)) (by first | rfl | (simp; done) | (simp; omega) | (simp []; done) | (simp []; omega)) (flat_map flat_Gnodes_top z0_1_o0)) (Cvs.cons .sc Cvs.nil)))
  ·
   obtain rfl := hn_z0_1_o0 rfl
   obtain rfl := Option.some.inj h
   refine runT tmD [] ?_
   refine fin_ret rfl ?_
   exact (cv_tup (Cvs.cons (cv_nils (by simp)) (Cvs.cons .sc Cvs.nil)))

theorem nodes_check_ok (a0 : (List GNode)) (r : (List Gnodes_top) × Int) (h : nodes_check a0 = some r) : Pure Tryz.prog 154 [(AV.list false (List.map enc_GNode a0))] (AV.tup [(AV.list true (List.map enc_Gnodes_top r.1)), (aI .i64 r.2)]) := by
 refine Pure.sym tyTab_ok fn154 (nt := 25) rfl rfl ?_ (allCons .list allNil)
 unfold nodes_check at h
 refine brE h ?_ ?_
 ·clear h; intro h1 h
  obtain rfl := Option.some.inj h
  refine runT tmD [.el (aI .i64 (List.length a0 : Int)), .br true] ?_
  refine fin_ret rfl ?_
  exact (cv_tup (Cvs.cons (cv_nils (es := List.map enc_Gnodes_top ([] : List Gnodes_top)) (by simp [*])) (Cvs.cons .sc Cvs.nil)))
 ·clear h; intro h1 h
  refine bindE h ?_
  clear h; intro v2 h3 h
  refine run_to tmD 4000 [.el (aI .i64 (List.length a0 : Int)), .br false, .pure [(AV.list false (List.map enc_GNode a0))] (AV.tup [(AV.list true (List.map enc_Gnodes_top v2.1)), (aB v2.2)])] rfl (by repeat' first | refine And.intro ?_ ?_ | exact (PureCall.none (nodes_tops_ok _ _ h3) (Cvs.cons (cv_list (flat_map flat_GNode a0)) Cvs.nil)) | exact oblA) ?_
  refine brE h ?_ ?_
  ·clear h; intro h4 h
   obtain rfl := Option.some.inj h
   refine runT tmD [.br true] ?_
   refine fin_ret rfl ?_
   exact (cv_tup (Cvs.cons (cv_nils (es := List.map enc_Gnodes_top ([] : List Gnodes_top)) (by simp [*])) (Cvs.cons .sc Cvs.nil)))
  ·clear h; intro h4 h
   refine bindE h ?_
   clear h; intro e5 h6 h
   try have qh6 := getI_lt h6
   refine brE h ?_ ?_
   ·clear h; intro h7 h
    obtain rfl := Option.some.inj h
    refine runT tmD [.br false, .el (aI .i64 (List.length v2.1 : Int)), .wrap, .el (enc_Gnodes_top e5), .br true] ?_
    refine fin_ret rfl ?_
    exact (cv_tup (Cvs.cons (cv_nils (es := List.map enc_Gnodes_top ([] : List Gnodes_top)) (by simp [*])) (Cvs.cons .sc Cvs.nil)))
   ·clear h; intro h7 h
    obtain rfl := Option.some.inj h
    refine runT tmD [.br false, .el (aI .i64 (List.length v2.1 : Int)), .wrap, .el (enc_Gnodes_top e5), .br false] ?_
    refine fin_ret rfl ?_
    exact (cv_tup (Cvs.cons (.listS rfl) (Cvs.cons .sc Cvs.nil)))

theorem nodes_Check_ok (a0 : (List GNode)) (r : Int) (h : nodes_Check a0 = some r) : Pure Tryz.prog 131 [(AV.list false (List.map enc_GNode a0))] (aI .i64 r) := by
 refine Pure.sym tyTab_ok fn131 (nt := 11) rfl rfl ?_ (allCons .list allNil)
 unfold nodes_Check at h
 refine bindE h ?_
 clear h; intro v1 h2 h
 obtain rfl := Option.some.inj h
 refine run_to tmD 4000 [.pure [(AV.list false (List.map enc_GNode a0))] (AV.tup [(AV.list true (List.map enc_Gnodes_top v1.1)), (aI .i64 v1.2)])] rfl (by repeat' first | refine And.intro ?_ ?_ | exact (PureCall.none (nodes_check_ok _ _ h2) (Cvs.cons (cv_list (flat_map flat_GNode a0)) Cvs.nil)) | exact oblA) ?_
 refine fin_ret rfl ?_
 exact .sc

theorem clauses_Sources_1_ok (a0 : Int) (r : Bool) (h : clauses_Sources_1 a0 = some r) : Pure Tryz.prog 155 [(aI .i64 a0)] (aB r) := by
 refine Pure.sym tyTab_ok fn155 (nt := 9) rfl rfl ?_ (allCons .sc allNil)
 unfold clauses_Sources_1 at h
 obtain rfl := Option.some.inj h
 refine runT tmD [] ?_
 refine fin_ret rfl ?_
 exact .sc

theorem slices_IndexFunc_int_int_L0_ok {Q : AExit → St → Mu → Prop} {μ : Mu} (y0_0 : (List Int)) (hl : List.length y0_0 ≤ 140737488355328) : ∀ (xs : List Int) (k : Nat) (hx : y0_0.drop k = xs) (o : slices_IndexFunc_int_int_L0_o) (h : slices_IndexFunc_int_int_L0 y0_0 xs k  = some o)
  (C0 : o = slices_IndexFunc_int_int_L0_o.x0 → SemK Tryz.prog 19 0 Q (.exit (.exit 0)) [] ⟨fr [], hp ([]), 0⟩ μ)
  (C1 : ∀ (z0_1_4 : Int), o = slices_IndexFunc_int_int_L0_o.x1 z0_1_4 → SemK Tryz.prog 19 0 Q (.exit .ret) [] ⟨fr [(4, (aI .i64 z0_1_4))], hp ([]), 0⟩ μ),
  SemK Tryz.prog 19 0 Q (.loop (loopB 0 (bodyOf Tryz.f175))) [] ⟨fr [(0, (AV.list false (List.map (aI .i64) y0_0))), (1, (AV.fn 155 [])), (7, (aI .i64 (List.length y0_0 : Int))), (8, (aI .i64 (k : Int)))], hp ([]), 0⟩ μ := by
 intro xs
 induction xs with
 | nil =>
  intro k hx  o h C0 C1
  have hk := drop_nil hx
  have hc : decide ((k : Int) < (List.length y0_0 : Int)) = false := decide_eq_false (by omega)
  rw [slices_IndexFunc_int_int_L0] at h
  refine SemK.round ?_
  obtain rfl := Option.some.inj h
  refine runT tmD [.br false] ?_
  exact wkT [] (C0  rfl)
 | cons x xs ih =>
  intro k hx  o h C0 C1
  obtain ⟨hk, hg, hx1⟩ := drop_cons hx
  have hc : decide ((k : Int) < (List.length y0_0 : Int)) = true := decide_eq_true (by omega)
  rw [slices_IndexFunc_int_int_L0] at h
  refine SemK.round ?_
  refine bindE h ?_
  clear h; intro v10 h11 h
  refine brE h ?_ ?_
  ·clear h; intro h12 h
   obtain rfl := Option.some.inj h
   refine run_to tmD 4000 [.br true, .el (aI .i64 x), .pure [(aI .i64 x)] (aB v10), .br true] rfl (by repeat' first | refine And.intro ?_ ?_ | exact (PureCall.none (clauses_Sources_1_ok _ _ h11) (Cvs.cons .sc Cvs.nil)) | exact oblA) ?_
   exact wkT [] (C1 _  rfl)
  ·clear h; intro h12 h
   refine run_to tmD 4000 [.br true, .el (aI .i64 x), .pure [(aI .i64 x)] (aB v10), .br false] rfl (by repeat' first | refine And.intro ?_ ?_ | exact (PureCall.none (clauses_Sources_1_ok _ _ h11) (Cvs.cons .sc Cvs.nil)) | exact oblA) ?_
   exact wkT [] (ih (k + 1) hx1  o h C0 C1)

theorem slices_IndexFunc_int_int_clauses_Sources_1_ok (a0 : (List Int)) (r : Int) (h : slices_IndexFunc_int_int_clauses_Sources_1 a0 = some r) : Pure Tryz.prog 175 [(AV.list false (List.map (aI .i64) a0)), (AV.fn 155 [])] (aI .i64 r) := by
 refine Pure.sym tyTab_ok fn175 (nt := 19) rfl rfl ?_ (allCons .list (allCons okFn0 allNil))
 unfold slices_IndexFunc_int_int_clauses_Sources_1 at h
 refine bindE h ?_
 clear h; intro u1 h2 h
 have qh2 := lenOk_le h2
 refine bindE h ?_
 clear h; intro o13 h14 h
 refine runT tmD [.el (aI .i64 (List.length a0 : Int))] ?_
 refine wkT [] (SemK.cut (slices_IndexFunc_int_int_L0_ok a0 qh2 a0 0 (by simp) _ h14 ?_ ?_))
 ·intro eo13; subst eo13
  refine SemK.glue ?_
  try dsimp only at h
  obtain rfl := Option.some.inj h
  refine runT tmD [] ?_
  refine fin_ret rfl ?_
  exact .sc
 ·intro z0_1_4 eo13; subst eo13
  refine SemK.glue ?_
  try dsimp only at h
  obtain rfl := Option.some.inj h
  refine runT tmD [] ?_
  refine fin_ret rfl ?_
  exact .sc

theorem slices_ContainsFunc_int_int_clauses_Sources_1_ok (a0 : (List Int)) (r : Bool) (h : slices_ContainsFunc_int_int_clauses_Sources_1 a0 = some r) : Pure Tryz.prog 156 [(AV.list false (List.map (aI .i64) a0)), (AV.fn 155 [])] (aB r) := by
 refine Pure.sym tyTab_ok fn156 (nt := 9) rfl rfl ?_ (allCons .list (allCons okFn0 allNil))
 unfold slices_ContainsFunc_int_int_clauses_Sources_1 at h
 refine bindE h ?_
 clear h; intro v1 h2 h
 obtain rfl := Option.some.inj h
 refine run_to tmD 4000 [.pure [(AV.list false (List.map (aI .i64) a0)), (AV.fn 155 [])] (aI .i64 v1)] rfl (by repeat' first | refine And.intro ?_ ?_ | exact (PureCall.none (slices_IndexFunc_int_int_clauses_Sources_1_ok _ _ h2) (Cvs.cons (cv_list (flat_map (fun _ => flatSc) a0)) (Cvs.cons .fn0 Cvs.nil))) | exact oblA) ?_
 refine fin_ret rfl ?_
 exact .sc

theorem kvInt_set (z : Int) : ∀ (ks : List Int), setV (.int .i64 z) (.bool true) (ks.map kvInt) = (distAdd ks z).map kvInt := by
 intro ks
 unfold distAdd
 induction ks with
 | nil => simp [setV, kvInt]
 | cons a r ih =>
  simp only [List.map_cons, kvInt, setV]
  by_cases h : a = z
  ·subst h; simp [kvInt]
  ·have h1 : ¬ (Value.int .i64 a = Value.int .i64 z) := by simpa using h
   rw [if_neg h1]
   have ih' : setV (.int .i64 z) (.bool true) (r.map kvInt) = (if z ∈ r then r else r ++ [z]).map kvInt := ih
   rw [ih']
   have h2 : ¬ z = a := fun e => h e.symm
   by_cases hz : z ∈ r <;> simp [hz, h2, kvInt]
theorem clauses_distinct_int_L0 {Q : AExit → St → Mu → Prop} {μ : Mu} (b : Nat) (l : List Int) (hl : List.length l ≤ 140737488355328) : ∀ (xs : List Int) (k : Nat) (hx : l.drop k = xs) (ks : List Int)
  (C : SemK Tryz.prog 18 0 Q (.exit (.exit 0)) [] ⟨fr [(3, .sc (.map (some b)))], hp [], 0⟩ ((b, (distinctL ks xs).map kvInt) :: μ)),
  SemK Tryz.prog 18 0 Q (.loop (loopB 0 (bodyOf Tryz.f157))) [] ⟨fr [(3, .sc (.map (some b))), (7, AV.list false (List.map (aI .i64) l)), (8, aI .i64 (List.length l : Int)), (9, aI .i64 (k : Int))], hp [], 0⟩ ((b, ks.map kvInt) :: μ) := by
 intro xs
 induction xs with
 | nil =>
  intro k hx ks C
  have hk := drop_nil hx
  have hc : decide ((k : Int) < (List.length l : Int)) = false := decide_eq_false (by omega)
  refine SemK.round ?_
  refine run_to tmD 4000 [.br false] rfl (by repeat' first | refine And.intro ?_ ?_ | exact hc | exact oblA) ?_
  exact SemK.weakTo [] C rfl (by repeat' first | refine And.intro ?_ ?_ | exact wkA) trivial
 | cons x xs ih =>
  intro k hx ks C
  obtain ⟨hk, hg, hx1⟩ := drop_cons hx
  have hc : decide ((k : Int) < (List.length l : Int)) = true := decide_eq_true (by omega)
  refine SemK.round ?_
  refine run_to tmD 4000 [.br true, .el (aI .i64 x)] rfl (by repeat' first | refine And.intro ?_ ?_ | exact hc | exact ixm hg | exact oblA) ?_
  refine SemK.mapUpd (d := .int .i64) tyTab_ok rfl rfl rfl rfl rfl Tryz.underlying3 rfl rfl rfl trivial trivial trivial rfl (by
   intro p hp; obtain ⟨z, _, rfl⟩ := List.mem_map.1 hp; rfl) ?_
  rw [kvInt_set]
  refine runT tmD [] ?_
  exact SemK.weakTo [] (ih (k + 1) hx1 (distAdd ks x) C) rfl (by repeat' first | refine And.intro ?_ ?_ | exact wkA) trivial
theorem clauses_distinct_int_ok (a0 : (List Int)) (r : Int) (h : clauses_distinct_int a0 = some r) : Pure Tryz.prog 157 [(AV.list false (List.map (aI .i64) a0))] (aI .i64 r) := by
 refine Pure.sym tyTab_ok fn157 (nt := 18) rfl rfl ?_ (allCons .list allNil)
 unfold clauses_distinct_int at h
 refine bindE h ?_
 clear h; intro u h1 h
 have q1 := lenOk_le h1
 obtain rfl := Option.some.inj h
 refine runT tmD [] ?_
 refine SemK.mapNew rfl rfl rfl fun b => ?_
 refine runT tmD [] ?_
 refine SemK.weakTo [] (SemK.cut (clauses_distinct_int_L0 b a0 q1 a0 0 (by simp) [] ?_)) rfl (by repeat' first | refine And.intro ?_ ?_ | exact wkA) trivial
 refine SemK.glue ?_
 refine runT tmD [] ?_
 refine SemK.mapLen tyTab_ok rfl rfl rfl rfl rfl rfl trivial ?_
 rw [List.length_map]
 refine runT tmD [] ?_
 refine fin_ret rfl ?_
 exact .sc

theorem clauses_Sources_ok (a0 : (List Int)) (a1 : Bool) (r : Int) (h : clauses_Sources a0 a1 = some r) : Pure Tryz.prog 132 [(AV.list false (List.map (aI .i64) a0)), (aB a1)] (aI .i64 r) := by
 refine Pure.sym tyTab_ok fn132 (nt := 30) rfl rfl ?_ (allCons .list (allCons .sc allNil))
 unfold clauses_Sources at h
 refine brE h ?_ ?_
 ·clear h; intro h1 h
  obtain rfl := Option.some.inj h
  refine runT tmD [.el (aI .i64 (List.length a0 : Int)), .br true] ?_
  refine fin_ret rfl ?_
  exact .sc
 ·clear h; intro h1 h
  refine bindE h ?_
  clear h; intro j9_24 h17 h
  refine runT tmD [.el (aI .i64 (List.length a0 : Int)), .br false, .stop 4] ?_
  refine SemK.join (s' := ⟨fr [(0, (AV.list false (List.map (aI .i64) a0))), (24, (aB j9_24))], hp ([]), 0⟩) ?_ (fun J => SemK.cut ?_)
  ·
   refine brE h ?_ ?_
   ·clear h; intro h18 h
    obtain rfl := Option.some.inj h
    refine runT tmD [.br true] ?_
    refine fin_ret rfl ?_
    exact .sc
   ·clear h; intro h18 h
    refine bindE h ?_
    clear h; intro v19 h20 h
    refine brE h ?_ ?_
    ·clear h; intro h21 h
     obtain rfl := Option.some.inj h
     refine run_to tmD 4000 [.br false, .pure [(AV.list false (List.map (aI .i64) a0))] (aI .i64 v19), .el (aI .i64 (List.length a0 : Int)), .br true] rfl (by repeat' first | refine And.intro ?_ ?_ | exact (PureCall.none (clauses_distinct_int_ok _ _ h20) (Cvs.cons (cv_list (flat_map (fun _ => flatSc) a0)) Cvs.nil)) | exact oblA) ?_
     refine fin_ret rfl ?_
     exact .sc
    ·clear h; intro h21 h
     obtain rfl := Option.some.inj h
     refine run_to tmD 4000 [.br false, .pure [(AV.list false (List.map (aI .i64) a0))] (aI .i64 v19), .el (aI .i64 (List.length a0 : Int)), .br false] rfl (by repeat' first | refine And.intro ?_ ?_ | exact (PureCall.none (clauses_distinct_int_ok _ _ h20) (Cvs.cons (cv_list (flat_map (fun _ => flatSc) a0)) Cvs.nil)) | exact oblA) ?_
     refine fin_ret rfl ?_
     exact .sc
  ·
   clear h
   have h := h17
   refine brE h ?_ ?_
   ·clear h; intro h10 h
    obtain rfl := Option.some.inj h
    refine run_to tmD 4000 [.el (aI .i64 (List.length a0 : Int)), .go false, .go false, .go false, .go false, .go false, .go false, .go false, .go false, .go false] rfl (by repeat' first | refine And.intro ?_ ?_ | exact ((bif_t h10 rfl)) | exact (bnot_of (bif_t h10 rfl)) | exact (absN (bif_t h10 rfl)) | exact oblA) ?_
    exact wkT [] (SemK.glue J)
   ·clear h; intro h10 h
    refine brE h ?_ ?_
    ·clear h; intro h11 h
     refine brE h ?_ ?_
     ·clear h; intro h12 h
      obtain rfl := Option.some.inj h
      refine run_to tmD 4000 [.el (aI .i64 (List.length a0 : Int)), .go true, .go true, .go true, .go true, .el (aI .i64 (List.length a0 : Int)), .go true, .go true, .go false, .go false, .go false] rfl (by repeat' first | refine And.intro ?_ ?_ | exact ((bif_f h10 (bif_t h11 h12))) | exact (bnot_of (bif_f h10 (bif_t h11 h12))) | exact (absN (bif_f h10 (bif_t h11 h12))) | exact oblA) ?_
      exact wkT [] (SemK.glue J)
     ·clear h; intro h12 h
      refine bindE h ?_
      clear h; intro v13 h14 h
      obtain rfl := Option.some.inj h
      refine run_to tmD 4000 [.el (aI .i64 (List.length a0 : Int)), .go true, .go true, .go true, .go true, .el (aI .i64 (List.length a0 : Int)), .go true, .go true, .go true, .go true, .go true, .pure [(AV.list false (List.map (aI .i64) a0)), (AV.fn 155 [])] (aB v13)] rfl (by repeat' first | refine And.intro ?_ ?_ | exact ((bif_f h10 (bif_t h11 h12))) | exact (bnot_of (bif_f h10 (bif_t h11 h12))) | exact (PureCall.none (slices_ContainsFunc_int_int_clauses_Sources_1_ok _ _ h14) (Cvs.cons (cv_list (flat_map (fun _ => flatSc) a0)) (Cvs.cons .fn0 Cvs.nil))) | exact (absT (bif_f h10 (bif_t h11 h12))) | exact oblA) ?_
      exact wkT [] (SemK.glue J)
    ·clear h; intro h11 h
     refine bindE h ?_
     clear h; intro v15 h16 h
     obtain rfl := Option.some.inj h
     refine run_to tmD 4000 [.el (aI .i64 (List.length a0 : Int)), .go true, .go true, .go false, .go false, .go false, .go true, .go true, .go true, .go true, .pure [(AV.list false (List.map (aI .i64) a0)), (AV.fn 155 [])] (aB v15)] rfl (by repeat' first | refine And.intro ?_ ?_ | exact ((bif_f h10 (bif_f h11 rfl))) | exact (bnot_of (bif_f h10 (bif_f h11 rfl))) | exact (PureCall.none (slices_ContainsFunc_int_int_clauses_Sources_1_ok _ _ h16) (Cvs.cons (cv_list (flat_map (fun _ => flatSc) a0)) (Cvs.cons .fn0 Cvs.nil))) | exact (absT (bif_f h10 (bif_f h11 rfl))) | exact oblA) ?_
     exact wkT [] (SemK.glue J)

theorem clauses_Window_ok (a0 : GWindow) (r : Int) (h : clauses_Window a0 = some r) : Pure Tryz.prog 51 [(enc_GWindow a0)] (aI .i64 r) := by
 refine Pure.sym tyTab_ok fn51 (nt := 40) rfl rfl ?_ (allCons (free_GWindow _ _).1 allNil)
 unfold clauses_Window at h
 refine brE h ?_ ?_
 ·clear h; intro h1 h
  obtain rfl := Option.some.inj h
  refine runT tmD [.br true] ?_
  refine fin_ret rfl ?_
  exact .sc
 ·clear h; intro h1 h
  refine brE h ?_ ?_
  ·clear h; intro h2 h
   refine brE h ?_ ?_
   ·clear h; intro h3 h
    obtain rfl := Option.some.inj h
    refine runT tmD [.br false, .br true, .wrap, .br true] ?_
    refine fin_ret rfl ?_
    exact .sc
   ·clear h; intro h3 h
    obtain rfl := Option.some.inj h
    refine runT tmD [.br false, .br true, .wrap, .br false] ?_
    refine fin_ret rfl ?_
    exact .sc
  ·clear h; intro h2 h
   refine brE h ?_ ?_
   ·clear h; intro h4 h
    refine brE h ?_ ?_
    ·clear h; intro h5 h
     obtain rfl := Option.some.inj h
     refine runT tmD [.br false, .br false, .br true, .br true] ?_
     refine fin_ret rfl ?_
     exact .sc
    ·clear h; intro h5 h
     obtain rfl := Option.some.inj h
     refine runT tmD [.br false, .br false, .br true, .br false] ?_
     refine fin_ret rfl ?_
     exact .sc
   ·clear h; intro h4 h
    refine brE h ?_ ?_
    ·clear h; intro h6 h
     refine brE h ?_ ?_
     ·clear h; intro h7 h
      obtain rfl := Option.some.inj h
      refine runT tmD [.br false, .br false, .br false, .br true, .br true] ?_
      refine fin_ret rfl ?_
      exact .sc
     ·clear h; intro h7 h
      obtain rfl := Option.some.inj h
      refine runT tmD [.br false, .br false, .br false, .br true, .br false] ?_
      refine fin_ret rfl ?_
      exact .sc
    ·clear h; intro h6 h
     obtain rfl := Option.some.inj h
     refine runT tmD [.br false, .br false, .br false, .br false] ?_
     refine fin_ret rfl ?_
     exact .sc

theorem clauses_Check_ok (a0 : GQuery) (r : Int) (h : clauses_Check a0 = some r) : Pure Tryz.prog 100 [(enc_GQuery false a0)] (aI .i64 r) := by
 refine Pure.sym tyTab_ok fn100 (nt := 66) rfl rfl ?_ (allCons (free_GQuery false _ _).1 allNil)
 unfold clauses_Check at h
 refine brE h ?_ ?_
 ·clear h; intro h1 h
  obtain rfl := Option.some.inj h
  refine runT tmD [.br true] ?_
  refine fin_ret rfl ?_
  exact .sc
 ·clear h; intro h1 h
  refine brE h ?_ ?_
  ·clear h; intro h2 h
   refine bindE h ?_
   clear h; intro v3 h4 h
   refine brE h ?_ ?_
   ·clear h; intro h5 h
    obtain rfl := Option.some.inj h
    refine run_to tmD 4000 [.br false, .br true, .pure [(AV.list false (List.map enc_GNode a0.Arg))] (aI .i64 v3), .br true] rfl (by repeat' first | refine And.intro ?_ ?_ | exact (PureCall.none (nodes_Check_ok _ _ h4) (Cvs.cons (cv_list (flat_map flat_GNode a0.Arg)) Cvs.nil)) | exact oblA) ?_
    refine fin_ret rfl ?_
    exact .sc
   ·clear h; intro h5 h
    refine brE h ?_ ?_
    ·clear h; intro h6 h
     refine bindE h ?_
     clear h; intro v7 h8 h
     refine run_to tmD 4000 [.br false, .br true, .pure [(AV.list false (List.map enc_GNode a0.Arg))] (aI .i64 v3), .br false, .el (aI .i64 (List.length a0.Where : Int)), .br true, .pure [(AV.list false (List.map enc_GNode a0.Where))] (aI .i64 v7)] rfl (by repeat' first | refine And.intro ?_ ?_ | exact (PureCall.none (nodes_Check_ok _ _ h4) (Cvs.cons (cv_list (flat_map flat_GNode a0.Arg)) Cvs.nil)) | exact (PureCall.none (nodes_Check_ok _ _ h8) (Cvs.cons (cv_list (flat_map flat_GNode a0.Where)) Cvs.nil)) | exact oblA) ?_
     refine brE h ?_ ?_
     ·clear h; intro h9 h
      obtain rfl := Option.some.inj h
      refine runT tmD [.br true] ?_
      refine fin_ret rfl ?_
      exact .sc
     ·clear h; intro h9 h
      refine bindE h ?_
      clear h; intro v10 h11 h
      refine brE h ?_ ?_
      ·clear h; intro h12 h
       obtain rfl := Option.some.inj h
       refine run_to tmD 4000 [.br false, .pure [(AV.list false (List.map (aI .i64) a0.Sources)), (aB a0.Join)] (aI .i64 v10), .br true] rfl (by repeat' first | refine And.intro ?_ ?_ | exact (PureCall.none (clauses_Sources_ok _ _ _ h11) (Cvs.cons (cv_list (flat_map (fun _ => flatSc) a0.Sources)) (Cvs.cons .sc Cvs.nil))) | exact oblA) ?_
       refine fin_ret rfl ?_
       exact .sc
      ·clear h; intro h12 h
       refine brE h ?_ ?_
       ·clear h; intro h13 h
        obtain rfl := Option.some.inj h
        refine run_to tmD 4000 [.br false, .pure [(AV.list false (List.map (aI .i64) a0.Sources)), (aB a0.Join)] (aI .i64 v10), .br false, .br true] rfl (by repeat' first | refine And.intro ?_ ?_ | exact (PureCall.none (clauses_Sources_ok _ _ _ h11) (Cvs.cons (cv_list (flat_map (fun _ => flatSc) a0.Sources)) (Cvs.cons .sc Cvs.nil))) | exact oblA) ?_
        refine fin_ret rfl ?_
        exact .sc
       ·clear h; intro h13 h
        refine bindE h ?_
        clear h; intro v14 h15 h
        obtain rfl := Option.some.inj h
        refine run_to tmD 4000 [.br false, .pure [(AV.list false (List.map (aI .i64) a0.Sources)), (aB a0.Join)] (aI .i64 v10), .br false, .br false, .pure [(enc_GWindow a0.Window)] (aI .i64 v14)] rfl (by repeat' first | refine And.intro ?_ ?_ | exact (PureCall.none (clauses_Sources_ok _ _ _ h11) (Cvs.cons (cv_list (flat_map (fun _ => flatSc) a0.Sources)) (Cvs.cons .sc Cvs.nil))) | exact (PureCall.none (clauses_Window_ok _ _ h15) (Cvs.cons (cvf_GWindow (x := a0.Window)) Cvs.nil)) | exact oblA) ?_
        refine fin_ret rfl ?_
        exact .sc
    ·clear h; intro h6 h
     refine bindE h ?_
     clear h; intro v16 h17 h
     refine run_to tmD 4000 [.br false, .br true, .pure [(AV.list false (List.map enc_GNode a0.Arg))] (aI .i64 v3), .br false, .el (aI .i64 (List.length a0.Where : Int)), .br false, .pure [(AV.list false (List.map (aI .i64) a0.Sources)), (aB a0.Join)] (aI .i64 v16)] rfl (by repeat' first | refine And.intro ?_ ?_ | exact (PureCall.none (nodes_Check_ok _ _ h4) (Cvs.cons (cv_list (flat_map flat_GNode a0.Arg)) Cvs.nil)) | exact (PureCall.none (clauses_Sources_ok _ _ _ h17) (Cvs.cons (cv_list (flat_map (fun _ => flatSc) a0.Sources)) (Cvs.cons .sc Cvs.nil))) | exact oblA) ?_
     refine brE h ?_ ?_
     ·clear h; intro h18 h
      obtain rfl := Option.some.inj h
      refine runT tmD [.br true] ?_
      refine fin_ret rfl ?_
      exact .sc
     ·clear h; intro h18 h
      refine brE h ?_ ?_
      ·clear h; intro h19 h
       obtain rfl := Option.some.inj h
       refine runT tmD [.br false, .br true] ?_
       refine fin_ret rfl ?_
       exact .sc
      ·clear h; intro h19 h
       refine bindE h ?_
       clear h; intro v20 h21 h
       obtain rfl := Option.some.inj h
       refine run_to tmD 4000 [.br false, .br false, .pure [(enc_GWindow a0.Window)] (aI .i64 v20)] rfl (by repeat' first | refine And.intro ?_ ?_ | exact (PureCall.none (clauses_Window_ok _ _ h21) (Cvs.cons (cvf_GWindow (x := a0.Window)) Cvs.nil)) | exact oblA) ?_
       refine fin_ret rfl ?_
       exact .sc
  ·clear h; intro h2 h
   refine brE h ?_ ?_
   ·clear h; intro h22 h
    obtain rfl := Option.some.inj h
    refine runT tmD [.br false, .br false, .el (aI .i64 (List.length a0.Arg : Int)), .br true] ?_
    refine fin_ret rfl ?_
    exact .sc
   ·clear h; intro h22 h
    refine brE h ?_ ?_
    ·clear h; intro h23 h
     refine bindE h ?_
     clear h; intro v24 h25 h
     refine run_to tmD 4000 [.br false, .br false, .el (aI .i64 (List.length a0.Arg : Int)), .br false, .el (aI .i64 (List.length a0.Where : Int)), .br true, .pure [(AV.list false (List.map enc_GNode a0.Where))] (aI .i64 v24)] rfl (by repeat' first | refine And.intro ?_ ?_ | exact (PureCall.none (nodes_Check_ok _ _ h25) (Cvs.cons (cv_list (flat_map flat_GNode a0.Where)) Cvs.nil)) | exact oblA) ?_
     refine brE h ?_ ?_
     ·clear h; intro h26 h
      obtain rfl := Option.some.inj h
      refine runT tmD [.br true] ?_
      refine fin_ret rfl ?_
      exact .sc
     ·clear h; intro h26 h
      refine bindE h ?_
      clear h; intro v27 h28 h
      refine brE h ?_ ?_
      ·clear h; intro h29 h
       obtain rfl := Option.some.inj h
       refine run_to tmD 4000 [.br false, .pure [(AV.list false (List.map (aI .i64) a0.Sources)), (aB a0.Join)] (aI .i64 v27), .br true] rfl (by repeat' first | refine And.intro ?_ ?_ | exact (PureCall.none (clauses_Sources_ok _ _ _ h28) (Cvs.cons (cv_list (flat_map (fun _ => flatSc) a0.Sources)) (Cvs.cons .sc Cvs.nil))) | exact oblA) ?_
       refine fin_ret rfl ?_
       exact .sc
      ·clear h; intro h29 h
       refine brE h ?_ ?_
       ·clear h; intro h30 h
        obtain rfl := Option.some.inj h
        refine run_to tmD 4000 [.br false, .pure [(AV.list false (List.map (aI .i64) a0.Sources)), (aB a0.Join)] (aI .i64 v27), .br false, .br true] rfl (by repeat' first | refine And.intro ?_ ?_ | exact (PureCall.none (clauses_Sources_ok _ _ _ h28) (Cvs.cons (cv_list (flat_map (fun _ => flatSc) a0.Sources)) (Cvs.cons .sc Cvs.nil))) | exact oblA) ?_
        refine fin_ret rfl ?_
        exact .sc
       ·clear h; intro h30 h
        refine bindE h ?_
        clear h; intro v31 h32 h
        obtain rfl := Option.some.inj h
        refine run_to tmD 4000 [.br false, .pure [(AV.list false (List.map (aI .i64) a0.Sources)), (aB a0.Join)] (aI .i64 v27), .br false, .br false, .pure [(enc_GWindow a0.Window)] (aI .i64 v31)] rfl (by repeat' first | refine And.intro ?_ ?_ | exact (PureCall.none (clauses_Sources_ok _ _ _ h28) (Cvs.cons (cv_list (flat_map (fun _ => flatSc) a0.Sources)) (Cvs.cons .sc Cvs.nil))) | exact (PureCall.none (clauses_Window_ok _ _ h32) (Cvs.cons (cvf_GWindow (x := a0.Window)) Cvs.nil)) | exact oblA) ?_
        refine fin_ret rfl ?_
        exact .sc
    ·clear h; intro h23 h
     refine bindE h ?_
     clear h; intro v33 h34 h
     refine run_to tmD 4000 [.br false, .br false, .el (aI .i64 (List.length a0.Arg : Int)), .br false, .el (aI .i64 (List.length a0.Where : Int)), .br false, .pure [(AV.list false (List.map (aI .i64) a0.Sources)), (aB a0.Join)] (aI .i64 v33)] rfl (by repeat' first | refine And.intro ?_ ?_ | exact (PureCall.none (clauses_Sources_ok _ _ _ h34) (Cvs.cons (cv_list (flat_map (fun _ => flatSc) a0.Sources)) (Cvs.cons .sc Cvs.nil))) | exact oblA) ?_
     refine brE h ?_ ?_
     ·clear h; intro h35 h
      obtain rfl := Option.some.inj h
      refine runT tmD [.br true] ?_
      refine fin_ret rfl ?_
      exact .sc
     ·clear h; intro h35 h
      refine brE h ?_ ?_
      ·clear h; intro h36 h
       obtain rfl := Option.some.inj h
       refine runT tmD [.br false, .br true] ?_
       refine fin_ret rfl ?_
       exact .sc
      ·clear h; intro h36 h
       refine bindE h ?_
       clear h; intro v37 h38 h
       obtain rfl := Option.some.inj h
       refine run_to tmD 4000 [.br false, .br false, .pure [(enc_GWindow a0.Window)] (aI .i64 v37)] rfl (by repeat' first | refine And.intro ?_ ?_ | exact (PureCall.none (clauses_Window_ok _ _ h38) (Cvs.cons (cvf_GWindow (x := a0.Window)) Cvs.nil)) | exact oblA) ?_
       refine fin_ret rfl ?_
       exact .sc

theorem kinds_told_kinds_told_1_L0_ok {Q : AExit → St → Mu → Prop} {μ : Mu} (y0_o1 : (List Bool)) (y0_o2 : (V2 Bool)) (y0_o3 : (List Int)) (nb_y0_o1 : Nb y0_o1) (hl : List.length y0_o3 ≤ 140737488355328) : ∀ (xs : List Int) (k : Nat) (hx : y0_o3.drop k = xs) (o : kinds_told_kinds_told_1_L0_o) (h : kinds_told_kinds_told_1_L0 y0_o1 y0_o2 y0_o3 xs k  = some o)
  (C0 : o = kinds_told_kinds_told_1_L0_o.x0 → SemK Tryz.prog 21 4 Q (.exit (.exit 0)) [] ⟨fr [], hp ([(0, { es := [(slE nb_y0_o1.1 1 (List.map aB y0_o1))], esz := 1 }), (2, { es := [(encv_V2b y0_o2)], esz := 2 }), (3, { es := List.map (aI .i64) y0_o3, esz := 1 })] ++ opE nb_y0_o1.1 1 1 (List.map aB y0_o1)), 4⟩ μ)
  (C1 : o = kinds_told_kinds_told_1_L0_o.x1 → SemK Tryz.prog 21 4 Q (.exit .ret) [] ⟨fr [(5, (aB false))], hp ([(0, { es := [(slE nb_y0_o1.1 1 (List.map aB y0_o1))], esz := 1 }), (2, { es := [(encv_V2b y0_o2)], esz := 2 }), (3, { es := List.map (aI .i64) y0_o3, esz := 1 })] ++ opE nb_y0_o1.1 1 1 (List.map aB y0_o1)), 4⟩ μ),
  SemK Tryz.prog 21 4 Q (.loop (loopB 0 (bodyOf Tryz.f189))) [] ⟨fr [(0, (aB false)), (2, (AV.ptr 0 0 0)), (8, (AV.ref 3 0 (List.length y0_o3))), (9, (aI .i64 (List.length y0_o3 : Int))), (10, (aI .i64 (k : Int)))], hp ([(0, { es := [(slE nb_y0_o1.1 1 (List.map aB y0_o1))], esz := 1 }), (2, { es := [(encv_V2b y0_o2)], esz := 2 }), (3, { es := List.map (aI .i64) y0_o3, esz := 1 })] ++ opE nb_y0_o1.1 1 1 (List.map aB y0_o1)), 4⟩ μ := by
 intro xs
 induction xs with
 | nil =>
  intro k hx  o h C0 C1
  have hk := drop_nil hx
  have hc : decide ((k : Int) < (List.length y0_o3 : Int)) = false := decide_eq_false (by omega)
  rw [kinds_told_kinds_told_1_L0] at h
  rcases nb_y0_o1 with ⟨_ | _, hn_y0_o1⟩
  ·
   refine SemK.round ?_
   obtain rfl := Option.some.inj h
   refine runT tmD [.br false] ?_
   exact wkT [] (C0  rfl)
  ·
   obtain rfl := hn_y0_o1 rfl
   refine SemK.round ?_
   obtain rfl := Option.some.inj h
   refine runT tmD [.br false] ?_
   exact wkT [] (C0  rfl)
 | cons x xs ih =>
  intro k hx  o h C0 C1
  obtain ⟨hk, hg, hx1⟩ := drop_cons hx
  have hc : decide ((k : Int) < (List.length y0_o3 : Int)) = true := decide_eq_true (by omega)
  rw [kinds_told_kinds_told_1_L0] at h
  rcases nb_y0_o1 with ⟨_ | _, hn_y0_o1⟩
  ·
   refine SemK.round ?_
   refine bindE h ?_
   clear h; intro e3011 h3012 h
   try have qh3012 := getI_lt h3012
   refine brE h ?_ ?_
   ·clear h; intro h3013 h
    obtain rfl := Option.some.inj h
    refine runT tmD [.br true, .el (aI .i64 x), .ld (aI .i64 x), .el (aB e3011), .ld (aB e3011), .br true] ?_
    exact wkT [] (C1  rfl)
   ·clear h; intro h3013 h
    refine runT tmD [.br true, .el (aI .i64 x), .ld (aI .i64 x), .el (aB e3011), .ld (aB e3011), .br false] ?_
    exact wkT [] (ih (k + 1) hx1  o h C0 C1)
  ·
   obtain rfl := hn_y0_o1 rfl
   refine SemK.round ?_
   refine bindE h ?_
   clear h; intro e3014 h3015 h
   try have qh3015 := getI_lt h3015
   exact absurd (h3015) (by simp [getI])
end Go.Av.Tryz
