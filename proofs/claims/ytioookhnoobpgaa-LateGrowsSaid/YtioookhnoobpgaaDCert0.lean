/- Printed by decomp.py: that the program computes the functions. -/
import Derived.Test.YtioookhnoobpgaaDFun
import Derived.Test.YtioookhnoobpgaaTabT
set_option linter.all false
set_option linter.unusedVariables false
namespace Go.Av.Try
open Go.Proofs Go.D
set_option maxRecDepth 10000
set_option maxHeartbeats 4000000

theorem tmD : TyOk Try.prog tyTab.find ∧ Try.prog.follows .mixedOrders = true := ⟨tyTab_ok, by kernel_rfl⟩

theorem fn6 : FnOk Try.prog 6 Try.f6 (bodyOf Try.f6) := ⟨Try.func6, by kernel_rfl, rfl⟩
theorem fn7 : FnOk Try.prog 7 Try.f7 (bodyOf Try.f7) := ⟨Try.func7, by kernel_rfl, rfl⟩
theorem fn15 : FnOk Try.prog 15 Try.f15 (bodyOf Try.f15) := ⟨Try.func15, by kernel_rfl, rfl⟩
theorem fn17 : FnOk Try.prog 17 Try.f17 (bodyOf Try.f17) := ⟨Try.func17, by kernel_rfl, rfl⟩
theorem fn19 : FnOk Try.prog 19 Try.f19 (bodyOf Try.f19) := ⟨Try.func19, by kernel_rfl, rfl⟩
theorem fn20 : FnOk Try.prog 20 Try.f20 (bodyOf Try.f20) := ⟨Try.func20, by kernel_rfl, rfl⟩
theorem fn21 : FnOk Try.prog 21 Try.f21 (bodyOf Try.f21) := ⟨Try.func21, by kernel_rfl, rfl⟩
theorem fn22 : FnOk Try.prog 22 Try.f22 (bodyOf Try.f22) := ⟨Try.func22, by kernel_rfl, rfl⟩
theorem fn23 : FnOk Try.prog 23 Try.f23 (bodyOf Try.f23) := ⟨Try.func23, by kernel_rfl, rfl⟩
theorem fn24 : FnOk Try.prog 24 Try.f24 (bodyOf Try.f24) := ⟨Try.func24, by kernel_rfl, rfl⟩
theorem fn25 : FnOk Try.prog 25 Try.f25 (bodyOf Try.f25) := ⟨Try.func25, by kernel_rfl, rfl⟩
theorem fn26 : FnOk Try.prog 26 Try.f26 (bodyOf Try.f26) := ⟨Try.func26, by kernel_rfl, rfl⟩
theorem fn32 : FnOk Try.prog 32 Try.f32 (bodyOf Try.f32) := ⟨Try.func32, by kernel_rfl, rfl⟩
theorem fn35 : FnOk Try.prog 35 Try.f35 (bodyOf Try.f35) := ⟨Try.func35, by kernel_rfl, rfl⟩
theorem fn36 : FnOk Try.prog 36 Try.f36 (bodyOf Try.f36) := ⟨Try.func36, by kernel_rfl, rfl⟩
theorem fn37 : FnOk Try.prog 37 Try.f37 (bodyOf Try.f37) := ⟨Try.func37, by kernel_rfl, rfl⟩
theorem law20_at_ok (a0 : Int) (r : GEvent) (h : law20_at a0 = some r) : Pure Try.prog 22 [(aI .i64 a0)] (enc_GEvent r) := by
  refine Pure.sym tyTab_ok fn22 (nt := 6) rfl rfl ?_ (allCons .sc allNil)
  unfold law20_at at h
  obtain rfl := Option.some.inj h
  refine run_to tmD 4000 [] rfl (by repeat' first | refine And.intro ?_ ?_ | exact oblA) ?_
  exact fin_ret rfl (cvf_GEvent (x := (GEvent.mk false 0 (GRecord.mk 0 a0 0))))

theorem law20_mark_ok (a0 : Int) (r : GEvent) (h : law20_mark a0 = some r) : Pure Try.prog 23 [(aI .i64 a0)] (enc_GEvent r) := by
  refine Pure.sym tyTab_ok fn23 (nt := 5) rfl rfl ?_ (allCons .sc allNil)
  unfold law20_mark at h
  obtain rfl := Option.some.inj h
  refine run_to tmD 4000 [] rfl (by repeat' first | refine And.intro ?_ ?_ | exact oblA) ?_
  exact fin_ret rfl (cvf_GEvent (x := (GEvent.mk true a0 (GRecord.mk 0 0 0))))

theorem late_time_ok (a0 : Int) (r : Bool) (h : late_time a0 = some r) : Pure Try.prog 35 [(aI .i64 a0)] (aB r) := by
  refine Pure.sym tyTab_ok fn35 (nt := 9) rfl rfl ?_ (allCons .sc allNil)
  unfold late_time at h
  obtain rfl := Option.some.inj h
  refine run_to tmD 4000 [] rfl (by repeat' first | refine And.intro ?_ ?_ | exact oblA) ?_
  exact fin_ret rfl .sc

theorem late_Check_L0_ok {Q : AExit → St → Mu → Prop} {μ : Mu} (y0_10 : (List GEvent)) (hl : List.length y0_10 ≤ 140737488355328) : ∀ (xs : List GEvent) (k : Nat) (hx : y0_10.drop k = xs) (o : late_Check_L0_o) (h : late_Check_L0 y0_10 xs k  = some o)
    (C0 : o = late_Check_L0_o.x0 → SemK Try.prog 55 0 Q (.exit (.exit 0)) [] ⟨fr [], hp ([]), 0⟩ μ)
    (C1 : o = late_Check_L0_o.x1 → SemK Try.prog 55 0 Q (.exit .ret) [] ⟨fr [(2, (aI .i64 8))], hp ([]), 0⟩ μ),
    SemK Try.prog 55 0 Q (.loop (loopB 0 (bodyOf Try.f20))) [] ⟨fr [(10, (AV.list false (List.map enc_GEvent y0_10))), (11, (aI .i64 (List.length y0_10 : Int))), (12, (aI .i64 (k : Int)))], hp ([]), 0⟩ μ := by
  intro xs
  induction xs with
  | nil =>
    intro k hx  o h C0 C1
    have hk := drop_nil hx
    have hc : decide ((k : Int) < (List.length y0_10 : Int)) = false := decide_eq_false (by omega)
    rw [late_Check_L0] at h
    refine SemK.round ?_
    obtain rfl := Option.some.inj h
    refine run_to tmD 4000 [.br false] rfl (by repeat' first | refine And.intro ?_ ?_ | exact oblA) ?_
    refine SemK.weakTo [] (C0 rfl) rfl (by repeat' first | refine And.intro ?_ ?_ | exact wkA) (by repeat' first | refine And.intro ?_ ?_ | exact wkB)
  | cons x xs ih =>
    intro k hx  o h C0 C1
    obtain ⟨hk, hg, hx1⟩ := drop_cons hx
    have hc : decide ((k : Int) < (List.length y0_10 : Int)) = true := decide_eq_true (by omega)
    rw [late_Check_L0] at h
    refine SemK.round ?_
    refine bindE h ?_
    clear h; intro j47_5 h52 h
    refine run_to tmD 4000 [.br true, .el (enc_GEvent x), .stop 6] rfl (by repeat' first | refine And.intro ?_ ?_ | exact oblA) ?_
    refine SemK.join (s' := ⟨fr [(4, (AV.ptr 0 0 0)), (5, (aB j47_5)), (10, (AV.list false (List.map enc_GEvent y0_10))), (11, (aI .i64 (List.length y0_10 : Int))), (12, (aI .i64 (k : Int)))], hp ([(0, { es := [(enc_GEvent x)], esz := 5 })]), 1⟩) ?_ (fun J => SemK.cut ?_)
    ·
      refine bindE h ?_
      clear h; intro j56_6 h60 h
      refine run_to tmD 4000 [.stop 7] rfl (by repeat' first | refine And.intro ?_ ?_ | exact oblA) ?_
      refine SemK.join (s' := ⟨fr [(4, (AV.ptr 0 0 0)), (5, (aB j47_5)), (6, (aB j56_6)), (10, (AV.list false (List.map enc_GEvent y0_10))), (11, (aI .i64 (List.length y0_10 : Int))), (12, (aI .i64 (k : Int)))], hp ([(0, { es := [(enc_GEvent x)], esz := 5 })]), 1⟩) ?_ (fun J => SemK.cut ?_)
      ·
        refine brE h ?_ ?_
        · clear h; intro h61 h
          obtain rfl := Option.some.inj h
          refine run_to tmD 4000 [.br true] rfl (by repeat' first | refine And.intro ?_ ?_ | exact oblA) ?_
          refine SemK.weakTo [] (C1 rfl) rfl (by repeat' first | refine And.intro ?_ ?_ | exact wkA) (by repeat' first | refine And.intro ?_ ?_ | exact wkB)
        · clear h; intro h61 h
          refine run_to tmD 4000 [.br false] rfl (by repeat' first | refine And.intro ?_ ?_ | exact oblA) ?_
          refine SemK.weakTo [] (ih (k + 1) hx1  o h C0 C1) rfl (by repeat' first | refine And.intro ?_ ?_ | exact wkA) (by repeat' first | refine And.intro ?_ ?_ | exact wkB)
      ·
        clear h
        have h := h60
        refine brE h ?_ ?_
        · clear h; intro h57 h
          refine bindE h ?_
          clear h; intro v58 h59 h
          obtain rfl := Option.some.inj h
          refine run_to tmD 4000 [.go true, .go true, .go true, .go true, .pure [(aI .i64 x.Record.Time)] (aB v58)] rfl (by repeat' first | refine And.intro ?_ ?_ | exact (PureCall.none (late_time_ok _ _ h59) (Cvs.cons .sc Cvs.nil)) | exact oblA) ?_
          refine SemK.weakTo [] (SemK.glue J) rfl (by repeat' first | refine And.intro ?_ ?_ | exact wkA) (by repeat' first | refine And.intro ?_ ?_ | exact wkB)
        · clear h; intro h57 h
          obtain rfl := Option.some.inj h
          refine run_to tmD 4000 [.go false, .go false, .go false, .go false] rfl (by repeat' first | refine And.intro ?_ ?_ | exact oblA) ?_
          refine SemK.weakTo [] (SemK.glue J) rfl (by repeat' first | refine And.intro ?_ ?_ | exact wkA) (by repeat' first | refine And.intro ?_ ?_ | exact wkB)
    ·
      clear h
      have h := h52
      refine brE h ?_ ?_
      · clear h; intro h48 h
        refine bindE h ?_
        clear h; intro v49 h50 h
        refine brE h ?_ ?_
        · clear h; intro h51 h
          obtain rfl := Option.some.inj h
          refine run_to tmD 4000 [.go true, .go true, .go true, .pure [(aI .i64 x.Time)] (aB v49), .go true, .go false, .go false, .go false, .go true] rfl (by repeat' first | refine And.intro ?_ ?_ | exact (PureCall.none (late_time_ok _ _ h50) (Cvs.cons .sc Cvs.nil)) | exact oblA) ?_
          refine SemK.weakTo [] (SemK.glue J) rfl (by repeat' first | refine And.intro ?_ ?_ | exact wkA) (by repeat' first | refine And.intro ?_ ?_ | exact wkB)
        · clear h; intro h51 h
          obtain rfl := Option.some.inj h
          refine run_to tmD 4000 [.go true, .go true, .go true, .pure [(aI .i64 x.Time)] (aB v49), .go true, .go true, .go true, .go true, .go true] rfl (by repeat' first | refine And.intro ?_ ?_ | exact (PureCall.none (late_time_ok _ _ h50) (Cvs.cons .sc Cvs.nil)) | exact oblA) ?_
          refine SemK.weakTo [] (SemK.glue J) rfl (by repeat' first | refine And.intro ?_ ?_ | exact wkA) (by repeat' first | refine And.intro ?_ ?_ | exact wkB)
      · clear h; intro h48 h
        obtain rfl := Option.some.inj h
        refine run_to tmD 4000 [.go false, .go false, .go false, .go false, .go false, .go false, .go false, .go false] rfl (by repeat' first | refine And.intro ?_ ?_ | exact oblA) ?_
        refine SemK.weakTo [] (SemK.glue J) rfl (by repeat' first | refine And.intro ?_ ?_ | exact wkA) (by repeat' first | refine And.intro ?_ ?_ | exact wkB)

theorem late_Check_ok (a0 : (List GEvent)) (r : Int) (h : late_Check a0 = some r) : Pure Try.prog 20 [(AV.list false (List.map enc_GEvent a0))] (aI .i64 r) := by
  refine Pure.sym tyTab_ok fn20 (nt := 55) rfl rfl ?_ (allCons .list allNil)
  unfold late_Check at h
  refine brE h ?_ ?_
  · clear h; intro h1 h
    obtain rfl := Option.some.inj h
    refine run_to tmD 4000 [.el (aI .i64 (List.length a0 : Int)), .br true] rfl (by repeat' first | refine And.intro ?_ ?_ | exact oblA) ?_
    exact fin_ret rfl .sc
  · clear h; intro h1 h
    refine bindE h ?_
    clear h; intro u2 h3 h
    have qh3 := lenOk_le h3
    refine bindE h ?_
    clear h; intro o62 h63 h
    refine run_to tmD 4000 [.el (aI .i64 (List.length a0 : Int)), .br false, .el (aI .i64 (List.length a0 : Int))] rfl (by repeat' first | refine And.intro ?_ ?_ | exact oblA) ?_
    refine SemK.weakTo [] (SemK.cut (late_Check_L0_ok a0 qh3 a0 0 (by simp) _ h63 ?_ ?_)) rfl (by repeat' first | refine And.intro ?_ ?_ | exact wkA) (by repeat' first | refine And.intro ?_ ?_ | exact wkB)
    · intro eo62; subst eo62
      refine SemK.glue ?_
      try dsimp only at h
      obtain rfl := Option.some.inj h
      refine run_to tmD 4000 [] rfl (by repeat' first | refine And.intro ?_ ?_ | exact oblA) ?_
      exact fin_ret rfl .sc
    · intro eo62; subst eo62
      refine SemK.glue ?_
      try dsimp only at h
      obtain rfl := Option.some.inj h
      refine run_to tmD 4000 [] rfl (by repeat' first | refine And.intro ?_ ?_ | exact oblA) ?_
      exact fin_ret rfl .sc

theorem late_Mark_L0_ok {Q : AExit → St → Mu → Prop} {μ : Mu} (y0_14 : (List GEvent)) (hl : List.length y0_14 ≤ 140737488355328) : ∀ (xs : List GEvent) (k : Nat) (hx : y0_14.drop k = xs) (y0_o0 : Int) (o : late_Mark_L0_o) (h : late_Mark_L0 y0_14 xs k y0_o0 = some o)
    (C0 : ∀ (z0_0_o0 : Int), o = late_Mark_L0_o.x0 z0_0_o0 → SemK Try.prog 27 0 Q (.exit (.exit 0)) [] ⟨fr [(5, (AV.fn 37 [(AV.ptr 0 0 0)]))], hp ([(0, { es := [(aI .i64 z0_0_o0)], esz := 1 })]), 1⟩ μ),
    SemK Try.prog 27 0 Q (.loop (loopB 0 (bodyOf Try.f15))) [] ⟨fr [(5, (AV.fn 37 [(AV.ptr 0 0 0)])), (14, (AV.list false (List.map enc_GEvent y0_14))), (15, (aI .i64 (List.length y0_14 : Int))), (16, (aI .i64 (k : Int)))], hp ([(0, { es := [(aI .i64 y0_o0)], esz := 1 })]), 1⟩ μ := by
  intro xs
  induction xs with
  | nil =>
    intro k hx y0_o0 o h C0
    have hk := drop_nil hx
    have hc : decide ((k : Int) < (List.length y0_14 : Int)) = false := decide_eq_false (by omega)
    rw [late_Mark_L0] at h
    refine SemK.round ?_
    obtain rfl := Option.some.inj h
    refine run_to tmD 4000 [.br false] rfl (by repeat' first | refine And.intro ?_ ?_ | exact oblA) ?_
    refine SemK.weakTo [] (C0 _ rfl) rfl (by repeat' first | refine And.intro ?_ ?_ | exact wkA) (by repeat' first | refine And.intro ?_ ?_ | exact wkB)
  | cons x xs ih =>
    intro k hx y0_o0 o h C0
    obtain ⟨hk, hg, hx1⟩ := drop_cons hx
    have hc : decide ((k : Int) < (List.length y0_14 : Int)) = true := decide_eq_true (by omega)
    rw [late_Mark_L0] at h
    refine SemK.round ?_
    refine run_to tmD 4000 [.br true, .el (enc_GEvent x)] rfl (by repeat' first | refine And.intro ?_ ?_ | exact oblA) ?_
    refine SemK.inline tyTab_ok fn37 rfl rfl rfl rfl rfl trivial trivial rfl rfl ?_
    refine bindE h ?_
    clear h; intro j28_o0 h30 h
    refine run_to tmD 4000 [] rfl (by repeat' first | refine And.intro ?_ ?_ | exact oblA) ?_
    refine SemK.join (s' := ⟨fr [(4, (aI .i64 y0_o0))], hp ([(0, { es := [(aI .i64 j28_o0)], esz := 1 }), (1, { es := [(enc_GEvent x)], esz := 5 })]), 2⟩) ?_ (fun J => SemK.cut ?_)
    ·
      refine run_to tmD 4000 [] rfl (by repeat' first | refine And.intro ?_ ?_ | exact oblA) ?_
      refine SemK.back (by intro id h; cases h) rfl ?_
      refine run_to tmD 4000 [] rfl (by repeat' first | refine And.intro ?_ ?_ | exact oblA) ?_
      refine SemK.weakTo [] (ih (k + 1) hx1 _ o h C0) rfl (by repeat' first | refine And.intro ?_ ?_ | exact wkA) (by repeat' first | refine And.intro ?_ ?_ | exact wkB)
    ·
      clear h
      have h := h30
      refine brE h ?_ ?_
      · clear h; intro h29 h
        obtain rfl := Option.some.inj h
        refine run_to tmD 4000 [.br true] rfl (by repeat' first | refine And.intro ?_ ?_ | exact oblA) ?_
        refine SemK.weakTo [] (SemK.glue J) rfl (by repeat' first | refine And.intro ?_ ?_ | exact wkA) (by repeat' first | refine And.intro ?_ ?_ | exact wkB)
      · clear h; intro h29 h
        obtain rfl := Option.some.inj h
        refine run_to tmD 4000 [.br false] rfl (by repeat' first | refine And.intro ?_ ?_ | exact oblA) ?_
        refine SemK.weakTo [] (SemK.glue J) rfl (by repeat' first | refine And.intro ?_ ?_ | exact wkA) (by repeat' first | refine And.intro ?_ ?_ | exact wkB)

theorem late_Mark_ok (a0 : (List GEvent)) (r : Int × Int) (h : late_Mark a0 = some r) : Pure Try.prog 15 [(AV.list false (List.map enc_GEvent a0))] (AV.tup [(aI .i64 r.1), (aI .i64 r.2)]) := by
  refine Pure.sym tyTab_ok fn15 (nt := 27) rfl rfl ?_ (allCons .list allNil)
  unfold late_Mark at h
  refine bindE h ?_
  clear h; intro v1 h2 h
  refine brE h ?_ ?_
  · clear h; intro h3 h
    obtain rfl := Option.some.inj h
    refine run_to tmD 4000 [.pure [(AV.list false (List.map enc_GEvent a0))] (aI .i64 v1), .br true] rfl (by repeat' first | refine And.intro ?_ ?_ | exact (PureCall.none (late_Check_ok _ _ h2) (Cvs.cons (cv_list (flat_map flat_GEvent a0)) Cvs.nil)) | exact oblA) ?_
    exact fin_ret rfl (cv_tup (Cvs.cons .sc (Cvs.cons .sc Cvs.nil)))
  · clear h; intro h3 h
    refine run_to tmD 4000 [.pure [(AV.list false (List.map enc_GEvent a0))] (aI .i64 v1), .br false] rfl (by repeat' first | refine And.intro ?_ ?_ | exact (PureCall.none (late_Check_ok _ _ h2) (Cvs.cons (cv_list (flat_map flat_GEvent a0)) Cvs.nil)) | exact oblA) ?_
    refine SemK.inline tyTab_ok fn32 rfl rfl rfl rfl rfl trivial trivial rfl rfl ?_
    refine run_to tmD 4000 [] rfl (by repeat' first | refine And.intro ?_ ?_ | exact oblA) ?_
    refine SemK.back (by intro id h; cases h) rfl ?_
    refine bindE h ?_
    clear h; intro u4 h5 h
    have qh5 := lenOk_le h5
    refine bindE h ?_
    clear h; intro o31 h32 h
    refine run_to tmD 4000 [.el (aI .i64 (List.length a0 : Int))] rfl (by repeat' first | refine And.intro ?_ ?_ | exact oblA) ?_
    refine SemK.weakTo [] (SemK.cut (late_Mark_L0_ok a0 qh5 a0 0 (by simp) _ _ h32 ?_)) rfl (by repeat' first | refine And.intro ?_ ?_ | exact wkA) (by repeat' first | refine And.intro ?_ ?_ | exact wkB)
    · intro z0_0_o0 eo31; subst eo31
      refine SemK.glue ?_
      try dsimp only at h
      refine run_to tmD 4000 [] rfl (by repeat' first | refine And.intro ?_ ?_ | exact oblA) ?_
      refine SemK.inline tyTab_ok fn37 rfl rfl rfl rfl rfl trivial trivial rfl rfl ?_
      refine run_to tmD 4000 [.br false] rfl (by repeat' first | refine And.intro ?_ ?_ | exact oblA) ?_
      refine SemK.back (by intro id h; cases h) rfl ?_
      obtain rfl := Option.some.inj h
      refine run_to tmD 4000 [] rfl (by repeat' first | refine And.intro ?_ ?_ | exact oblA) ?_
      exact fin_ret rfl (cv_tup (Cvs.cons .sc (Cvs.cons .sc Cvs.nil)))

theorem late_Split_L0_ok {Q : AExit → St → Mu → Prop} {μ : Mu} (y0_16 : (List GEvent)) (hl : List.length y0_16 ≤ 140737488355328) : ∀ (xs : List GEvent) (k : Nat) (hx : y0_16.drop k = xs) (y0_o0 : (List GRecord)) (y0_o1 : (List GRecord)) (y0_o2 : Int) (o : late_Split_L0_o) (h : late_Split_L0 y0_16 xs k y0_o0 y0_o1 y0_o2 = some o)
    (C0 : ∀ (z0_0_o0 : (List GRecord)) (z0_0_o1 : (List GRecord)), o = late_Split_L0_o.x0 z0_0_o0 z0_0_o1 → SemK Try.prog 47 0 Q (.exit (.exit 0)) [] ⟨fr [(2, (slB 0 (List.map enc_GRecord z0_0_o0))), (3, (slB 1 (List.map enc_GRecord z0_0_o1)))], hp ([] ++ opG 0 3 (List.map enc_GRecord z0_0_o0) ++ opG 1 3 (List.map enc_GRecord z0_0_o1)), 2⟩ μ),
    SemK Try.prog 47 0 Q (.loop (loopB 0 (bodyOf Try.f17))) [] ⟨fr [(2, (slB 0 (List.map enc_GRecord y0_o0))), (3, (slB 1 (List.map enc_GRecord y0_o1))), (6, (AV.fn 37 [(AV.ptr 2 0 0)])), (16, (AV.list false (List.map enc_GEvent y0_16))), (17, (aI .i64 (List.length y0_16 : Int))), (18, (aI .i64 (k : Int)))], hp ([(2, { es := [(aI .i64 y0_o2)], esz := 1 })] ++ opG 0 3 (List.map enc_GRecord y0_o0) ++ opG 1 3 (List.map enc_GRecord y0_o1)), 3⟩ μ := by
  intro xs
  induction xs with
  | nil =>
    intro k hx y0_o0 y0_o1 y0_o2 o h C0
    have hk := drop_nil hx
    have hc : decide ((k : Int) < (List.length y0_16 : Int)) = false := decide_eq_false (by omega)
    rw [late_Split_L0] at h
    rcases y0_o0 with _ | ⟨y0_o0_0, y0_o0_1⟩
    ·
      rcases y0_o1 with _ | ⟨y0_o1_0, y0_o1_1⟩
      ·
        refine SemK.round ?_
        obtain rfl := Option.some.inj h
        refine run_to tmD 4000 [.br false] rfl (by repeat' first | refine And.intro ?_ ?_ | exact oblA) ?_
        refine SemK.weakTo [] (C0 _ _ rfl) rfl (by repeat' first | refine And.intro ?_ ?_ | exact wkA) (by repeat' first | refine And.intro ?_ ?_ | exact wkB)
      ·
        refine SemK.round ?_
        obtain rfl := Option.some.inj h
        refine run_to tmD 4000 [.br false] rfl (by repeat' first | refine And.intro ?_ ?_ | exact oblA) ?_
        refine SemK.weakTo [] (C0 _ _ rfl) rfl (by repeat' first | refine And.intro ?_ ?_ | exact wkA) (by repeat' first | refine And.intro ?_ ?_ | exact wkB)
    ·
      rcases y0_o1 with _ | ⟨y0_o1_0, y0_o1_1⟩
      ·
        refine SemK.round ?_
        obtain rfl := Option.some.inj h
        refine run_to tmD 4000 [.br false] rfl (by repeat' first | refine And.intro ?_ ?_ | exact oblA) ?_
        refine SemK.weakTo [] (C0 _ _ rfl) rfl (by repeat' first | refine And.intro ?_ ?_ | exact wkA) (by repeat' first | refine And.intro ?_ ?_ | exact wkB)
      ·
        refine SemK.round ?_
        obtain rfl := Option.some.inj h
        refine run_to tmD 4000 [.br false] rfl (by repeat' first | refine And.intro ?_ ?_ | exact oblA) ?_
        refine SemK.weakTo [] (C0 _ _ rfl) rfl (by repeat' first | refine And.intro ?_ ?_ | exact wkA) (by repeat' first | refine And.intro ?_ ?_ | exact wkB)
  | cons x xs ih =>
    intro k hx y0_o0 y0_o1 y0_o2 o h C0
    obtain ⟨hk, hg, hx1⟩ := drop_cons hx
    have hc : decide ((k : Int) < (List.length y0_16 : Int)) = true := decide_eq_true (by omega)
    rw [late_Split_L0] at h
    rcases y0_o0 with _ | ⟨y0_o0_0, y0_o0_1⟩
    ·
      rcases y0_o1 with _ | ⟨y0_o1_0, y0_o1_1⟩
      ·
        refine SemK.round ?_
        refine run_to tmD 4000 [.br true, .el (enc_GEvent x)] rfl (by repeat' first | refine And.intro ?_ ?_ | exact oblA) ?_
        refine SemK.inline tyTab_ok fn37 rfl rfl rfl rfl rfl trivial trivial rfl rfl ?_
        refine bindE h ?_
        clear h; intro j254_o2 h256 h
        refine run_to tmD 4000 [] rfl (by repeat' first | refine And.intro ?_ ?_ | exact oblA) ?_
        refine SemK.join (s' := ⟨fr [(4, (aI .i64 y0_o2))], hp ([(2, { es := [(aI .i64 j254_o2)], esz := 1 }), (3, { es := [(enc_GEvent x)], esz := 5 })]), 4⟩) ?_ (fun J => SemK.cut ?_)
        ·
          refine run_to tmD 4000 [] rfl (by repeat' first | refine And.intro ?_ ?_ | exact oblA) ?_
          refine SemK.back (by intro id h; cases h) rfl ?_
          refine bindE h ?_
          clear h; intro w263 h270 h
          obtain ⟨j263_o0, j263_o1⟩ := w263
          try dsimp only at h
          refine run_to tmD 4000 [] rfl (by repeat' first | refine And.intro ?_ ?_ | exact oblA) ?_
          refine SemK.join (s' := ⟨fr [(2, (slB 0 (List.map enc_GRecord j263_o0))), (3, (slB 1 (List.map enc_GRecord j263_o1))), (6, (AV.fn 37 [(AV.ptr 2 0 0)])), (16, (AV.list false (List.map enc_GEvent y0_16))), (17, (aI .i64 (List.length y0_16 : Int))), (18, (aI .i64 (k : Int)))], hp ([(2, { es := [(aI .i64 j254_o2)], esz := 1 })] ++ opG 0 3 (List.map enc_GRecord j263_o0) ++ opG 1 3 (List.map enc_GRecord j263_o1)), 3⟩) ?_ (fun J => SemK.cut ?_)
          ·
            rcases j263_o0 with _ | ⟨j263_o0_0, j263_o0_1⟩
            ·
              rcases j263_o1 with _ | ⟨j263_o1_0, j263_o1_1⟩
              ·
                refine run_to tmD 4000 [] rfl (by repeat' first | refine And.intro ?_ ?_ | exact oblA) ?_
                refine SemK.weakTo [] (ih (k + 1) hx1 _ _ _ o h C0) rfl (by repeat' first | refine And.intro ?_ ?_ | exact wkA) (by repeat' first | refine And.intro ?_ ?_ | exact wkB)
              ·
                refine run_to tmD 4000 [] rfl (by repeat' first | refine And.intro ?_ ?_ | exact oblA) ?_
                refine SemK.weakTo [] (ih (k + 1) hx1 _ _ _ o h C0) rfl (by repeat' first | refine And.intro ?_ ?_ | exact wkA) (by repeat' first | refine And.intro ?_ ?_ | exact wkB)
            ·
              rcases j263_o1 with _ | ⟨j263_o1_0, j263_o1_1⟩
              ·
                refine run_to tmD 4000 [] rfl (by repeat' first | refine And.intro ?_ ?_ | exact oblA) ?_
                refine SemK.weakTo [] (ih (k + 1) hx1 _ _ _ o h C0) rfl (by repeat' first | refine And.intro ?_ ?_ | exact wkA) (by repeat' first | refine And.intro ?_ ?_ | exact wkB)
              ·
                refine run_to tmD 4000 [] rfl (by repeat' first | refine And.intro ?_ ?_ | exact oblA) ?_
                refine SemK.weakTo [] (ih (k + 1) hx1 _ _ _ o h C0) rfl (by repeat' first | refine And.intro ?_ ?_ | exact wkA) (by repeat' first | refine And.intro ?_ ?_ | exact wkB)
          ·
            clear h
            have h := h270
            refine brE h ?_ ?_
            · clear h; intro h264 h
              cases h
              refine run_to tmD 4000 [.br true] rfl (by repeat' first | refine And.intro ?_ ?_ | exact oblA) ?_
              refine SemK.weakTo [] (SemK.glue J) rfl (by repeat' first | refine And.intro ?_ ?_ | exact wkA) (by repeat' first | refine And.intro ?_ ?_ | exact wkB)
            · clear h; intro h264 h
              refine brE h ?_ ?_
              · clear h; intro h265 h
                refine bindE h ?_
                clear h; intro u266 h267 h
                cases h
                refine run_to tmD 4000 [.br false, .br true, .no] rfl (by repeat' first | refine And.intro ?_ ?_ | (refine capLe h267 rfl ?_; first | (simp; done) | (simp; omega) | (simp [hc, h264, h265]; done) | (simp [hc, h264, h265]; omega)) | (refine capMax h267 (by decide) ?_; first | (simp; done) | (simp; omega) | (simp [hc, h264, h265]; done) | (simp [hc, h264, h265]; omega)) | exact oblA) ?_
                refine SemK.weakTo [(1, 5)] (SemK.glue J) rfl (by repeat' first | refine And.intro ?_ ?_ | exact wkA) (by repeat' first | refine And.intro ?_ ?_ | exact wkB)
              · clear h; intro h265 h
                refine bindE h ?_
                clear h; intro u268 h269 h
                cases h
                refine run_to tmD 4000 [.br false, .br false, .no] rfl (by repeat' first | refine And.intro ?_ ?_ | (refine capLe h269 rfl ?_; first | (simp; done) | (simp; omega) | (simp [hc, h264, h265]; done) | (simp [hc, h264, h265]; omega)) | (refine capMax h269 (by decide) ?_; first | (simp; done) | (simp; omega) | (simp [hc, h264, h265]; done) | (simp [hc, h264, h265]; omega)) | exact oblA) ?_
                refine SemK.weakTo [(0, 5)] (SemK.glue J) rfl (by repeat' first | refine And.intro ?_ ?_ | exact wkA) (by repeat' first | refine And.intro ?_ ?_ | exact wkB)
        ·
          clear h
          have h := h256
          refine brE h ?_ ?_
          · clear h; intro h255 h
            obtain rfl := Option.some.inj h
            refine run_to tmD 4000 [.br true] rfl (by repeat' first | refine And.intro ?_ ?_ | exact oblA) ?_
            refine SemK.weakTo [] (SemK.glue J) rfl (by repeat' first | refine And.intro ?_ ?_ | exact wkA) (by repeat' first | refine And.intro ?_ ?_ | exact wkB)
          · clear h; intro h255 h
            obtain rfl := Option.some.inj h
            refine run_to tmD 4000 [.br false] rfl (by repeat' first | refine And.intro ?_ ?_ | exact oblA) ?_
            refine SemK.weakTo [] (SemK.glue J) rfl (by repeat' first | refine And.intro ?_ ?_ | exact wkA) (by repeat' first | refine And.intro ?_ ?_ | exact wkB)
      ·
        refine SemK.round ?_
        refine run_to tmD 4000 [.br true, .el (enc_GEvent x)] rfl (by repeat' first | refine And.intro ?_ ?_ | exact oblA) ?_
        refine SemK.inline tyTab_ok fn37 rfl rfl rfl rfl rfl trivial trivial rfl rfl ?_
        refine bindE h ?_
        clear h; intro j232_o2 h234 h
        refine run_to tmD 4000 [] rfl (by repeat' first | refine And.intro ?_ ?_ | exact oblA) ?_
        refine SemK.join (s' := ⟨fr [(4, (aI .i64 y0_o2))], hp ([(1, { es := List.map enc_GRecord (y0_o1_0 :: y0_o1_1), esz := 3 }), (2, { es := [(aI .i64 j232_o2)], esz := 1 }), (3, { es := [(enc_GEvent x)], esz := 5 })]), 4⟩) ?_ (fun J => SemK.cut ?_)
        ·
          refine run_to tmD 4000 [] rfl (by repeat' first | refine And.intro ?_ ?_ | exact oblA) ?_
          refine SemK.back (by intro id h; cases h) rfl ?_
          refine bindE h ?_
          clear h; intro w241 h248 h
          obtain ⟨j241_o0, j241_o1⟩ := w241
          try dsimp only at h
          refine run_to tmD 4000 [] rfl (by repeat' first | refine And.intro ?_ ?_ | exact oblA) ?_
          refine SemK.join (s' := ⟨fr [(2, (slB 0 (List.map enc_GRecord j241_o0))), (3, (slB 1 (List.map enc_GRecord j241_o1))), (6, (AV.fn 37 [(AV.ptr 2 0 0)])), (16, (AV.list false (List.map enc_GEvent y0_16))), (17, (aI .i64 (List.length y0_16 : Int))), (18, (aI .i64 (k : Int)))], hp ([(2, { es := [(aI .i64 j232_o2)], esz := 1 })] ++ opG 0 3 (List.map enc_GRecord j241_o0) ++ opG 1 3 (List.map enc_GRecord j241_o1)), 3⟩) ?_ (fun J => SemK.cut ?_)
          ·
            rcases j241_o0 with _ | ⟨j241_o0_0, j241_o0_1⟩
            ·
              rcases j241_o1 with _ | ⟨j241_o1_0, j241_o1_1⟩
              ·
                refine run_to tmD 4000 [] rfl (by repeat' first | refine And.intro ?_ ?_ | exact oblA) ?_
                refine SemK.weakTo [] (ih (k + 1) hx1 _ _ _ o h C0) rfl (by repeat' first | refine And.intro ?_ ?_ | exact wkA) (by repeat' first | refine And.intro ?_ ?_ | exact wkB)
              ·
                refine run_to tmD 4000 [] rfl (by repeat' first | refine And.intro ?_ ?_ | exact oblA) ?_
                refine SemK.weakTo [] (ih (k + 1) hx1 _ _ _ o h C0) rfl (by repeat' first | refine And.intro ?_ ?_ | exact wkA) (by repeat' first | refine And.intro ?_ ?_ | exact wkB)
            ·
              rcases j241_o1 with _ | ⟨j241_o1_0, j241_o1_1⟩
              ·
                refine run_to tmD 4000 [] rfl (by repeat' first | refine And.intro ?_ ?_ | exact oblA) ?_
                refine SemK.weakTo [] (ih (k + 1) hx1 _ _ _ o h C0) rfl (by repeat' first | refine And.intro ?_ ?_ | exact wkA) (by repeat' first | refine And.intro ?_ ?_ | exact wkB)
              ·
                refine run_to tmD 4000 [] rfl (by repeat' first | refine And.intro ?_ ?_ | exact oblA) ?_
                refine SemK.weakTo [] (ih (k + 1) hx1 _ _ _ o h C0) rfl (by repeat' first | refine And.intro ?_ ?_ | exact wkA) (by repeat' first | refine And.intro ?_ ?_ | exact wkB)
          ·
            clear h
            have h := h248
            refine brE h ?_ ?_
            · clear h; intro h242 h
              cases h
              refine run_to tmD 4000 [.br true] rfl (by repeat' first | refine And.intro ?_ ?_ | exact oblA) ?_
              refine SemK.weakTo [] (SemK.glue J) rfl (by repeat' first | refine And.intro ?_ ?_ | exact wkA) (by repeat' first | refine And.intro ?_ ?_ | exact wkB)
            · clear h; intro h242 h
              refine brE h ?_ ?_
              · clear h; intro h243 h
                refine bindE h ?_
                clear h; intro u244 h245 h
                cases h
                refine run_to tmD 4000 [.br false, .br true, .no] rfl (by repeat' first | refine And.intro ?_ ?_ | (refine capLe h245 rfl ?_; first | (simp; done) | (simp; omega) | (simp [hc, h242, h243]; done) | (simp [hc, h242, h243]; omega)) | (refine capMax h245 (by decide) ?_; first | (simp; done) | (simp; omega) | (simp [hc, h242, h243]; done) | (simp [hc, h242, h243]; omega)) | exact oblA) ?_
                refine SemK.weakTo [(1, 5)] (SemK.glue J) rfl (by repeat' first | refine And.intro ?_ ?_ | exact wkA) (by repeat' first | refine And.intro ?_ ?_ | exact wkB)
              · clear h; intro h243 h
                refine bindE h ?_
                clear h; intro u246 h247 h
                cases h
                refine run_to tmD 4000 [.br false, .br false, .no] rfl (by repeat' first | refine And.intro ?_ ?_ | (refine capLe h247 rfl ?_; first | (simp; done) | (simp; omega) | (simp [hc, h242, h243]; done) | (simp [hc, h242, h243]; omega)) | (refine capMax h247 (by decide) ?_; first | (simp; done) | (simp; omega) | (simp [hc, h242, h243]; done) | (simp [hc, h242, h243]; omega)) | exact oblA) ?_
                refine SemK.weakTo [(0, 5)] (SemK.glue J) rfl (by repeat' first | refine And.intro ?_ ?_ | exact wkA) (by repeat' first | refine And.intro ?_ ?_ | exact wkB)
        ·
          clear h
          have h := h234
          refine brE h ?_ ?_
          · clear h; intro h233 h
            obtain rfl := Option.some.inj h
            refine run_to tmD 4000 [.br true] rfl (by repeat' first | refine And.intro ?_ ?_ | exact oblA) ?_
            refine SemK.weakTo [] (SemK.glue J) rfl (by repeat' first | refine And.intro ?_ ?_ | exact wkA) (by repeat' first | refine And.intro ?_ ?_ | exact wkB)
          · clear h; intro h233 h
            obtain rfl := Option.some.inj h
            refine run_to tmD 4000 [.br false] rfl (by repeat' first | refine And.intro ?_ ?_ | exact oblA) ?_
            refine SemK.weakTo [] (SemK.glue J) rfl (by repeat' first | refine And.intro ?_ ?_ | exact wkA) (by repeat' first | refine And.intro ?_ ?_ | exact wkB)
    ·
      rcases y0_o1 with _ | ⟨y0_o1_0, y0_o1_1⟩
      ·
        refine SemK.round ?_
        refine run_to tmD 4000 [.br true, .el (enc_GEvent x)] rfl (by repeat' first | refine And.intro ?_ ?_ | exact oblA) ?_
        refine SemK.inline tyTab_ok fn37 rfl rfl rfl rfl rfl trivial trivial rfl rfl ?_
        refine bindE h ?_
        clear h; intro j210_o2 h212 h
        refine run_to tmD 4000 [] rfl (by repeat' first | refine And.intro ?_ ?_ | exact oblA) ?_
        refine SemK.join (s' := ⟨fr [(4, (aI .i64 y0_o2))], hp ([(0, { es := List.map enc_GRecord (y0_o0_0 :: y0_o0_1), esz := 3 }), (2, { es := [(aI .i64 j210_o2)], esz := 1 }), (3, { es := [(enc_GEvent x)], esz := 5 })]), 4⟩) ?_ (fun J => SemK.cut ?_)
        ·
          refine run_to tmD 4000 [] rfl (by repeat' first | refine And.intro ?_ ?_ | exact oblA) ?_
          refine SemK.back (by intro id h; cases h) rfl ?_
          refine bindE h ?_
          clear h; intro w219 h226 h
          obtain ⟨j219_o0, j219_o1⟩ := w219
          try dsimp only at h
          refine run_to tmD 4000 [] rfl (by repeat' first | refine And.intro ?_ ?_ | exact oblA) ?_
          refine SemK.join (s' := ⟨fr [(2, (slB 0 (List.map enc_GRecord j219_o0))), (3, (slB 1 (List.map enc_GRecord j219_o1))), (6, (AV.fn 37 [(AV.ptr 2 0 0)])), (16, (AV.list false (List.map enc_GEvent y0_16))), (17, (aI .i64 (List.length y0_16 : Int))), (18, (aI .i64 (k : Int)))], hp ([(2, { es := [(aI .i64 j210_o2)], esz := 1 })] ++ opG 0 3 (List.map enc_GRecord j219_o0) ++ opG 1 3 (List.map enc_GRecord j219_o1)), 3⟩) ?_ (fun J => SemK.cut ?_)
          ·
            rcases j219_o0 with _ | ⟨j219_o0_0, j219_o0_1⟩
            ·
              rcases j219_o1 with _ | ⟨j219_o1_0, j219_o1_1⟩
              ·
                refine run_to tmD 4000 [] rfl (by repeat' first | refine And.intro ?_ ?_ | exact oblA) ?_
                refine SemK.weakTo [] (ih (k + 1) hx1 _ _ _ o h C0) rfl (by repeat' first | refine And.intro ?_ ?_ | exact wkA) (by repeat' first | refine And.intro ?_ ?_ | exact wkB)
              ·
                refine run_to tmD 4000 [] rfl (by repeat' first | refine And.intro ?_ ?_ | exact oblA) ?_
                refine SemK.weakTo [] (ih (k + 1) hx1 _ _ _ o h C0) rfl (by repeat' first | refine And.intro ?_ ?_ | exact wkA) (by repeat' first | refine And.intro ?_ ?_ | exact wkB)
            ·
              rcases j219_o1 with _ | ⟨j219_o1_0, j219_o1_1⟩
              ·
                refine run_to tmD 4000 [] rfl (by repeat' first | refine And.intro ?_ ?_ | exact oblA) ?_
                refine SemK.weakTo [] (ih (k + 1) hx1 _ _ _ o h C0) rfl (by repeat' first | refine And.intro ?_ ?_ | exact wkA) (by repeat' first | refine And.intro ?_ ?_ | exact wkB)
              ·
                refine run_to tmD 4000 [] rfl (by repeat' first | refine And.intro ?_ ?_ | exact oblA) ?_
                refine SemK.weakTo [] (ih (k + 1) hx1 _ _ _ o h C0) rfl (by repeat' first | refine And.intro ?_ ?_ | exact wkA) (by repeat' first | refine And.intro ?_ ?_ | exact wkB)
          ·
            clear h
            have h := h226
            refine brE h ?_ ?_
            · clear h; intro h220 h
              cases h
              refine run_to tmD 4000 [.br true] rfl (by repeat' first | refine And.intro ?_ ?_ | exact oblA) ?_
              refine SemK.weakTo [] (SemK.glue J) rfl (by repeat' first | refine And.intro ?_ ?_ | exact wkA) (by repeat' first | refine And.intro ?_ ?_ | exact wkB)
            · clear h; intro h220 h
              refine brE h ?_ ?_
              · clear h; intro h221 h
                refine bindE h ?_
                clear h; intro u222 h223 h
                cases h
                refine run_to tmD 4000 [.br false, .br true, .no] rfl (by repeat' first | refine And.intro ?_ ?_ | (refine capLe h223 rfl ?_; first | (simp; done) | (simp; omega) | (simp [hc, h220, h221]; done) | (simp [hc, h220, h221]; omega)) | (refine capMax h223 (by decide) ?_; first | (simp; done) | (simp; omega) | (simp [hc, h220, h221]; done) | (simp [hc, h220, h221]; omega)) | exact oblA) ?_
                refine SemK.weakTo [(1, 5)] (SemK.glue J) rfl (by repeat' first | refine And.intro ?_ ?_ | exact wkA) (by repeat' first | refine And.intro ?_ ?_ | exact wkB)
              · clear h; intro h221 h
                refine bindE h ?_
                clear h; intro u224 h225 h
                cases h
                refine run_to tmD 4000 [.br false, .br false, .no] rfl (by repeat' first | refine And.intro ?_ ?_ | (refine capLe h225 rfl ?_; first | (simp; done) | (simp; omega) | (simp [hc, h220, h221]; done) | (simp [hc, h220, h221]; omega)) | (refine capMax h225 (by decide) ?_; first | (simp; done) | (simp; omega) | (simp [hc, h220, h221]; done) | (simp [hc, h220, h221]; omega)) | exact oblA) ?_
                refine SemK.weakTo [(0, 5)] (SemK.glue J) rfl (by repeat' first | refine And.intro ?_ ?_ | exact wkA) (by repeat' first | refine And.intro ?_ ?_ | exact wkB)
        ·
          clear h
          have h := h212
          refine brE h ?_ ?_
          · clear h; intro h211 h
            obtain rfl := Option.some.inj h
            refine run_to tmD 4000 [.br true] rfl (by repeat' first | refine And.intro ?_ ?_ | exact oblA) ?_
            refine SemK.weakTo [] (SemK.glue J) rfl (by repeat' first | refine And.intro ?_ ?_ | exact wkA) (by repeat' first | refine And.intro ?_ ?_ | exact wkB)
          · clear h; intro h211 h
            obtain rfl := Option.some.inj h
            refine run_to tmD 4000 [.br false] rfl (by repeat' first | refine And.intro ?_ ?_ | exact oblA) ?_
            refine SemK.weakTo [] (SemK.glue J) rfl (by repeat' first | refine And.intro ?_ ?_ | exact wkA) (by repeat' first | refine And.intro ?_ ?_ | exact wkB)
      ·
        refine SemK.round ?_
        refine run_to tmD 4000 [.br true, .el (enc_GEvent x)] rfl (by repeat' first | refine And.intro ?_ ?_ | exact oblA) ?_
        refine SemK.inline tyTab_ok fn37 rfl rfl rfl rfl rfl trivial trivial rfl rfl ?_
        refine bindE h ?_
        clear h; intro j188_o2 h190 h
        refine run_to tmD 4000 [] rfl (by repeat' first | refine And.intro ?_ ?_ | exact oblA) ?_
        refine SemK.join (s' := ⟨fr [(4, (aI .i64 y0_o2))], hp ([(0, { es := List.map enc_GRecord (y0_o0_0 :: y0_o0_1), esz := 3 }), (1, { es := List.map enc_GRecord (y0_o1_0 :: y0_o1_1), esz := 3 }), (2, { es := [(aI .i64 j188_o2)], esz := 1 }), (3, { es := [(enc_GEvent x)], esz := 5 })]), 4⟩) ?_ (fun J => SemK.cut ?_)
        ·
          refine run_to tmD 4000 [] rfl (by repeat' first | refine And.intro ?_ ?_ | exact oblA) ?_
          refine SemK.back (by intro id h; cases h) rfl ?_
          refine bindE h ?_
          clear h; intro w197 h204 h
          obtain ⟨j197_o0, j197_o1⟩ := w197
          try dsimp only at h
          refine run_to tmD 4000 [] rfl (by repeat' first | refine And.intro ?_ ?_ | exact oblA) ?_
          refine SemK.join (s' := ⟨fr [(2, (slB 0 (List.map enc_GRecord j197_o0))), (3, (slB 1 (List.map enc_GRecord j197_o1))), (6, (AV.fn 37 [(AV.ptr 2 0 0)])), (16, (AV.list false (List.map enc_GEvent y0_16))), (17, (aI .i64 (List.length y0_16 : Int))), (18, (aI .i64 (k : Int)))], hp ([(2, { es := [(aI .i64 j188_o2)], esz := 1 })] ++ opG 0 3 (List.map enc_GRecord j197_o0) ++ opG 1 3 (List.map enc_GRecord j197_o1)), 3⟩) ?_ (fun J => SemK.cut ?_)
          ·
            rcases j197_o0 with _ | ⟨j197_o0_0, j197_o0_1⟩
            ·
              rcases j197_o1 with _ | ⟨j197_o1_0, j197_o1_1⟩
              ·
                refine run_to tmD 4000 [] rfl (by repeat' first | refine And.intro ?_ ?_ | exact oblA) ?_
                refine SemK.weakTo [] (ih (k + 1) hx1 _ _ _ o h C0) rfl (by repeat' first | refine And.intro ?_ ?_ | exact wkA) (by repeat' first | refine And.intro ?_ ?_ | exact wkB)
              ·
                refine run_to tmD 4000 [] rfl (by repeat' first | refine And.intro ?_ ?_ | exact oblA) ?_
                refine SemK.weakTo [] (ih (k + 1) hx1 _ _ _ o h C0) rfl (by repeat' first | refine And.intro ?_ ?_ | exact wkA) (by repeat' first | refine And.intro ?_ ?_ | exact wkB)
            ·
              rcases j197_o1 with _ | ⟨j197_o1_0, j197_o1_1⟩
              ·
                refine run_to tmD 4000 [] rfl (by repeat' first | refine And.intro ?_ ?_ | exact oblA) ?_
                refine SemK.weakTo [] (ih (k + 1) hx1 _ _ _ o h C0) rfl (by repeat' first | refine And.intro ?_ ?_ | exact wkA) (by repeat' first | refine And.intro ?_ ?_ | exact wkB)
              ·
                refine run_to tmD 4000 [] rfl (by repeat' first | refine And.intro ?_ ?_ | exact oblA) ?_
                refine SemK.weakTo [] (ih (k + 1) hx1 _ _ _ o h C0) rfl (by repeat' first | refine And.intro ?_ ?_ | exact wkA) (by repeat' first | refine And.intro ?_ ?_ | exact wkB)
          ·
            clear h
            have h := h204
            refine brE h ?_ ?_
            · clear h; intro h198 h
              cases h
              refine run_to tmD 4000 [.br true] rfl (by repeat' first | refine And.intro ?_ ?_ | exact oblA) ?_
              refine SemK.weakTo [] (SemK.glue J) rfl (by repeat' first | refine And.intro ?_ ?_ | exact wkA) (by repeat' first | refine And.intro ?_ ?_ | exact wkB)
            · clear h; intro h198 h
              refine brE h ?_ ?_
              · clear h; intro h199 h
                refine bindE h ?_
                clear h; intro u200 h201 h
                cases h
                refine run_to tmD 4000 [.br false, .br true, .no] rfl (by repeat' first | refine And.intro ?_ ?_ | (refine capLe h201 rfl ?_; first | (simp; done) | (simp; omega) | (simp [hc, h198, h199]; done) | (simp [hc, h198, h199]; omega)) | (refine capMax h201 (by decide) ?_; first | (simp; done) | (simp; omega) | (simp [hc, h198, h199]; done) | (simp [hc, h198, h199]; omega)) | exact oblA) ?_
                refine SemK.weakTo [(1, 5)] (SemK.glue J) rfl (by repeat' first | refine And.intro ?_ ?_ | exact wkA) (by repeat' first | refine And.intro ?_ ?_ | exact wkB)
              · clear h; intro h199 h
                refine bindE h ?_
                clear h; intro u202 h203 h
                cases h
                refine run_to tmD 4000 [.br false, .br false, .no] rfl (by repeat' first | refine And.intro ?_ ?_ | (refine capLe h203 rfl ?_; first | (simp; done) | (simp; omega) | (simp [hc, h198, h199]; done) | (simp [hc, h198, h199]; omega)) | (refine capMax h203 (by decide) ?_; first | (simp; done) | (simp; omega) | (simp [hc, h198, h199]; done) | (simp [hc, h198, h199]; omega)) | exact oblA) ?_
                refine SemK.weakTo [(0, 5)] (SemK.glue J) rfl (by repeat' first | refine And.intro ?_ ?_ | exact wkA) (by repeat' first | refine And.intro ?_ ?_ | exact wkB)
        ·
          clear h
          have h := h190
          refine brE h ?_ ?_
          · clear h; intro h189 h
            obtain rfl := Option.some.inj h
            refine run_to tmD 4000 [.br true] rfl (by repeat' first | refine And.intro ?_ ?_ | exact oblA) ?_
            refine SemK.weakTo [] (SemK.glue J) rfl (by repeat' first | refine And.intro ?_ ?_ | exact wkA) (by repeat' first | refine And.intro ?_ ?_ | exact wkB)
          · clear h; intro h189 h
            obtain rfl := Option.some.inj h
            refine run_to tmD 4000 [.br false] rfl (by repeat' first | refine And.intro ?_ ?_ | exact oblA) ?_
            refine SemK.weakTo [] (SemK.glue J) rfl (by repeat' first | refine And.intro ?_ ?_ | exact wkA) (by repeat' first | refine And.intro ?_ ?_ | exact wkB)

theorem late_Split_ok (a0 : (List GEvent)) (r : (List GRecord) × (List GRecord) × Int) (h : late_Split a0 = some r) : Pure Try.prog 17 [(AV.list false (List.map enc_GEvent a0))] (AV.tup [(AV.list true (List.map enc_GRecord r.1)), (AV.list true (List.map enc_GRecord r.2.1)), (aI .i64 r.2.2)]) := by
  refine Pure.sym tyTab_ok fn17 (nt := 47) rfl rfl ?_ (allCons .list allNil)
  unfold late_Split at h
  refine bindE h ?_
  clear h; intro v1 h2 h
  refine brE h ?_ ?_
  · clear h; intro h3 h
    obtain rfl := Option.some.inj h
    refine run_to tmD 4000 [.pure [(AV.list false (List.map enc_GEvent a0))] (aI .i64 v1), .br true] rfl (by repeat' first | refine And.intro ?_ ?_ | exact (PureCall.none (late_Check_ok _ _ h2) (Cvs.cons (cv_list (flat_map flat_GEvent a0)) Cvs.nil)) | exact oblA) ?_
    exact fin_ret rfl (cv_tup (Cvs.cons (cv_nils (es := List.map enc_GRecord ([] : List GRecord)) (by simp [*])) (Cvs.cons (cv_nils (es := List.map enc_GRecord ([] : List GRecord)) (by simp [*])) (Cvs.cons .sc Cvs.nil))))
  · clear h; intro h3 h
    refine run_to tmD 4000 [.pure [(AV.list false (List.map enc_GEvent a0))] (aI .i64 v1), .br false] rfl (by repeat' first | refine And.intro ?_ ?_ | exact (PureCall.none (late_Check_ok _ _ h2) (Cvs.cons (cv_list (flat_map flat_GEvent a0)) Cvs.nil)) | exact oblA) ?_
    refine SemK.inline tyTab_ok fn32 rfl rfl rfl rfl rfl trivial trivial rfl rfl ?_
    refine run_to tmD 4000 [] rfl (by repeat' first | refine And.intro ?_ ?_ | exact oblA) ?_
    refine SemK.back (by intro id h; cases h) rfl ?_
    refine bindE h ?_
    clear h; intro u4 h5 h
    have qh5 := lenOk_le h5
    refine bindE h ?_
    clear h; intro o271 h272 h
    refine run_to tmD 4000 [.el (aI .i64 (List.length a0 : Int))] rfl (by repeat' first | refine And.intro ?_ ?_ | exact oblA) ?_
    refine SemK.weakTo [(2, 0)] (SemK.cut (late_Split_L0_ok a0 qh5 a0 0 (by simp) _ _ _ _ h272 ?_)) rfl (by repeat' first | refine And.intro ?_ ?_ | exact wkA) (by repeat' first | refine And.intro ?_ ?_ | exact wkB)
    · intro z0_0_o0 z0_0_o1 eo271; subst eo271
      refine SemK.glue ?_
      try dsimp only at h
      rcases z0_0_o0 with _ | ⟨z0_0_o0_0, z0_0_o0_1⟩
      ·
        rcases z0_0_o1 with _ | ⟨z0_0_o1_0, z0_0_o1_1⟩
        ·
          obtain rfl := Option.some.inj h
          refine run_to tmD 4000 [] rfl (by repeat' first | refine And.intro ?_ ?_ | exact oblA) ?_
          exact fin_ret rfl (cv_tup (Cvs.cons (cv_nils (es := List.map enc_GRecord ([] : List GRecord)) (by simp [*])) (Cvs.cons (cv_nils (es := List.map enc_GRecord ([] : List GRecord)) (by simp [*])) (Cvs.cons .sc Cvs.nil))))
        ·
          obtain rfl := Option.some.inj h
          refine run_to tmD 4000 [] rfl (by repeat' first | refine And.intro ?_ ?_ | exact oblA) ?_
          exact fin_ret rfl (cv_tup (Cvs.cons (cv_nils (es := List.map enc_GRecord ([] : List GRecord)) (by simp [*])) (Cvs.cons (cv_ref (es := List.map enc_GRecord (z0_0_o1_0 :: z0_0_o1_1)) rfl (by first | rfl | (simp; done) | (simp; rfl) | (simp [h3]; done) | (simp [h3]; rfl) | (simp [h3, List.map_take, List.map_drop]; done) | (simp [h3, List.map_take, List.map_drop]; rfl)) (by first | rfl | (simp; done) | (simp; omega) | (simp [h3]; done) | (simp [h3]; omega)) (flat_map flat_GRecord (z0_0_o1_0 :: z0_0_o1_1))) (Cvs.cons .sc Cvs.nil))))
      ·
        rcases z0_0_o1 with _ | ⟨z0_0_o1_0, z0_0_o1_1⟩
        ·
          obtain rfl := Option.some.inj h
          refine run_to tmD 4000 [] rfl (by repeat' first | refine And.intro ?_ ?_ | exact oblA) ?_
          exact fin_ret rfl (cv_tup (Cvs.cons (cv_ref (es := List.map enc_GRecord (z0_0_o0_0 :: z0_0_o0_1)) rfl (by first | rfl | (simp; done) | (simp; rfl) | (simp [h3]; done) | (simp [h3]; rfl) | (simp [h3, List.map_take, List.map_drop]; done) | (simp [h3, List.map_take, List.map_drop]; rfl)) (by first | rfl | (simp; done) | (simp; omega) | (simp [h3]; done) | (simp [h3]; omega)) (flat_map flat_GRecord (z0_0_o0_0 :: z0_0_o0_1))) (Cvs.cons (cv_nils (es := List.map enc_GRecord ([] : List GRecord)) (by simp [*])) (Cvs.cons .sc Cvs.nil))))
        ·
          obtain rfl := Option.some.inj h
          refine run_to tmD 4000 [] rfl (by repeat' first | refine And.intro ?_ ?_ | exact oblA) ?_
          exact fin_ret rfl (cv_tup (Cvs.cons (cv_ref (es := List.map enc_GRecord (z0_0_o0_0 :: z0_0_o0_1)) rfl (by first | rfl | (simp; done) | (simp; rfl) | (simp [h3]; done) | (simp [h3]; rfl) | (simp [h3, List.map_take, List.map_drop]; done) | (simp [h3, List.map_take, List.map_drop]; rfl)) (by first | rfl | (simp; done) | (simp; omega) | (simp [h3]; done) | (simp [h3]; omega)) (flat_map flat_GRecord (z0_0_o0_0 :: z0_0_o0_1))) (Cvs.cons (cv_ref (es := List.map enc_GRecord (z0_0_o1_0 :: z0_0_o1_1)) rfl (by first | rfl | (simp; done) | (simp; rfl) | (simp [h3]; done) | (simp [h3]; rfl) | (simp [h3, List.map_take, List.map_drop]; done) | (simp [h3, List.map_take, List.map_drop]; rfl)) (by first | rfl | (simp; done) | (simp; omega) | (simp [h3]; done) | (simp [h3]; omega)) (flat_map flat_GRecord (z0_0_o1_0 :: z0_0_o1_1))) (Cvs.cons .sc Cvs.nil))))

theorem law20_times_L0_ok {Q : AExit → St → Mu → Prop} {μ : Mu} (y0_0 : (List GRecord)) (y0_1 : (List Int)) : ∀ (n : Nat) (y0_5 : Int) (o : law20_times_L0_o) (h : law20_times_L0 y0_0 y0_1 n y0_5 = some o)
    (C0 : o = law20_times_L0_o.x0 → SemK Try.prog 33 0 Q (.exit .ret) [] ⟨fr [(4, (aB false))], hp ([]), 0⟩ μ)
    (C1 : o = law20_times_L0_o.x1 → SemK Try.prog 33 0 Q (.exit (.exit 0)) [] ⟨fr [(0, (AV.list false (List.map enc_GRecord y0_0))), (1, (AV.list false (List.map (aI .i64) y0_1)))], hp ([]), 0⟩ μ),
    SemK Try.prog 33 0 Q (.loop (loopB 0 (bodyOf Try.f25))) [] ⟨fr [(0, (AV.list false (List.map enc_GRecord y0_0))), (1, (AV.list false (List.map (aI .i64) y0_1))), (5, (aI .i64 y0_5))], hp ([]), 0⟩ μ := by
  intro n
  induction n with
  | zero => intro y0_5 o h C0 C1; cases h
  | succ n ih =>
    intro y0_5 o h C0 C1
    rw [law20_times_L0] at h
    refine SemK.round ?_
    refine bindE h ?_
    clear h; intro j23_15 h25 h
    refine run_to tmD 4000 [.stop 2] rfl (by repeat' first | refine And.intro ?_ ?_ | exact oblA) ?_
    refine SemK.join (s' := ⟨fr [(0, (AV.list false (List.map enc_GRecord y0_0))), (1, (AV.list false (List.map (aI .i64) y0_1))), (5, (aI .i64 y0_5)), (15, (aB j23_15))], hp ([]), 0⟩) ?_ (fun J => SemK.cut ?_)
    ·
      refine brE h ?_ ?_
      · clear h; intro h26 h
        refine bindE h ?_
        clear h; intro e27 h28 h
        have qh28 := getI_lt h28
        refine bindE h ?_
        clear h; intro e29 h30 h
        have qh30 := getI_lt h30
        refine brE h ?_ ?_
        · clear h; intro h31 h
          obtain rfl := Option.some.inj h
          refine run_to tmD 4000 [.br true, .el (enc_GRecord e27), .el (aI .i64 e29), .br true] rfl (by repeat' first | refine And.intro ?_ ?_ | exact oblA) ?_
          refine SemK.weakTo [] (C0 rfl) rfl (by repeat' first | refine And.intro ?_ ?_ | exact wkA) (by repeat' first | refine And.intro ?_ ?_ | exact wkB)
        · clear h; intro h31 h
          refine run_to tmD 4000 [.br true, .el (enc_GRecord e27), .el (aI .i64 e29), .br false, .wrap] rfl (by repeat' first | refine And.intro ?_ ?_ | exact oblA) ?_
          refine SemK.weakTo [] (ih  _ o h C0 C1) rfl (by repeat' first | refine And.intro ?_ ?_ | exact wkA) (by repeat' first | refine And.intro ?_ ?_ | exact wkB)
      · clear h; intro h26 h
        obtain rfl := Option.some.inj h
        refine run_to tmD 4000 [.br false] rfl (by repeat' first | refine And.intro ?_ ?_ | exact oblA) ?_
        refine SemK.weakTo [] (C1 rfl) rfl (by repeat' first | refine And.intro ?_ ?_ | exact wkA) (by repeat' first | refine And.intro ?_ ?_ | exact wkB)
    ·
      clear h
      have h := h25
      refine brE h ?_ ?_
      · clear h; intro h24 h
        obtain rfl := Option.some.inj h
        refine run_to tmD 4000 [.el (aI .i64 (List.length y0_0 : Int)), .go true, .go true, .go true, .el (aI .i64 (List.length y0_1 : Int)), .go true] rfl (by repeat' first | refine And.intro ?_ ?_ | exact oblA) ?_
        refine SemK.weakTo [] (SemK.glue J) rfl (by repeat' first | refine And.intro ?_ ?_ | exact wkA) (by repeat' first | refine And.intro ?_ ?_ | exact wkB)
      · clear h; intro h24 h
        obtain rfl := Option.some.inj h
        refine run_to tmD 4000 [.el (aI .i64 (List.length y0_0 : Int)), .go false, .go false, .go false, .go false] rfl (by repeat' first | refine And.intro ?_ ?_ | exact oblA) ?_
        refine SemK.weakTo [] (SemK.glue J) rfl (by repeat' first | refine And.intro ?_ ?_ | exact wkA) (by repeat' first | refine And.intro ?_ ?_ | exact wkB)

theorem law20_times_ok (a0 : (List GRecord)) (a1 : (List Int)) (r : Bool) (h : law20_times a0 a1 = some r) : Pure Try.prog 25 [(AV.list false (List.map enc_GRecord a0)), (AV.list false (List.map (aI .i64) a1))] (aB r) := by
  refine Pure.sym tyTab_ok fn25 (nt := 33) rfl rfl ?_ (allCons .list (allCons .list allNil))
  unfold law20_times at h
  refine bindE h ?_
  clear h; intro o32 h33 h
  refine run_to tmD 4000 [] rfl (by repeat' first | refine And.intro ?_ ?_ | exact oblA) ?_
  refine SemK.weakTo [] (SemK.cut (law20_times_L0_ok a0 a1 _ _ _ h33 ?_ ?_)) rfl (by repeat' first | refine And.intro ?_ ?_ | exact wkA) (by repeat' first | refine And.intro ?_ ?_ | exact wkB)
  · intro eo32; subst eo32
    refine SemK.glue ?_
    try dsimp only at h
    obtain rfl := Option.some.inj h
    refine run_to tmD 4000 [] rfl (by repeat' first | refine And.intro ?_ ?_ | exact oblA) ?_
    exact fin_ret rfl .sc
  · intro eo32; subst eo32
    refine SemK.glue ?_
    try dsimp only at h
    obtain rfl := Option.some.inj h
    refine run_to tmD 4000 [.el (aI .i64 (List.length a0 : Int)), .el (aI .i64 (List.length a1 : Int))] rfl (by repeat' first | refine And.intro ?_ ?_ | exact oblA) ?_
    exact fin_ret rfl (cv_scE (by first | rfl | (simp [*]; done)))

theorem law20_alive_ok (r : Bool) (h : law20_alive = some r) : Pure Try.prog 24 [] (aB r) := by
  refine Pure.sym tyTab_ok fn24 (nt := 45) rfl rfl ?_ allNil
  unfold law20_alive at h
  refine bindE h ?_
  clear h; intro v1 h2 h
  refine bindE h ?_
  clear h; intro v3 h4 h
  refine bindE h ?_
  clear h; intro v5 h6 h
  refine bindE h ?_
  clear h; intro v7 h8 h
  refine bindE h ?_
  clear h; intro v9 h10 h
  refine bindE h ?_
  clear h; intro v11 h12 h
  refine bindE h ?_
  clear h; intro v13 h14 h
  refine bindE h ?_
  clear h; intro v15 h16 h
  refine bindE h ?_
  clear h; intro j25_0 h34 h
  refine run_to tmD 4000 [.pure [(aI .i64 5)] (enc_GEvent v1), .pure [(aI .i64 10)] (enc_GEvent v3), .pure [(aI .i64 8)] (enc_GEvent v5), .pure [(aI .i64 7)] (enc_GEvent v7), .pure [(aI .i64 9)] (enc_GEvent v9), .pure [(aI .i64 10)] (enc_GEvent v11), .pure [(AV.list false (List.map enc_GEvent [v1, v3, v5, v7, v9, v11]))] (AV.tup [(aI .i64 v13.1), (aI .i64 v13.2)]), .pure [(AV.list false (List.map enc_GEvent [v1, v3, v5, v7, v9, v11]))] (AV.tup [(AV.list true (List.map enc_GRecord v15.1)), (AV.list true (List.map enc_GRecord v15.2.1)), (aI .i64 v15.2.2)]), .stop 4] rfl (by repeat' first | refine And.intro ?_ ?_ | exact (PureCall.none (law20_at_ok _ _ h2) (Cvs.cons .sc Cvs.nil)) | exact (PureCall.none (law20_mark_ok _ _ h4) (Cvs.cons .sc Cvs.nil)) | exact (PureCall.none (law20_at_ok _ _ h6) (Cvs.cons .sc Cvs.nil)) | exact (PureCall.none (law20_mark_ok _ _ h8) (Cvs.cons .sc Cvs.nil)) | exact (PureCall.none (law20_at_ok _ _ h10) (Cvs.cons .sc Cvs.nil)) | exact (PureCall.none (law20_at_ok _ _ h12) (Cvs.cons .sc Cvs.nil)) | exact (PureCall.lent (late_Mark_ok _ _ h14) (Cvs.cons (cv_ref (es := List.map enc_GEvent [v1, v3, v5, v7, v9, v11]) rfl (by first | rfl | (simp; done) | (simp; rfl) | (simp []; done) | (simp []; rfl) | (simp [List.map_take, List.map_drop]; done) | (simp [List.map_take, List.map_drop]; rfl)) (by first | rfl | (simp; done) | (simp; omega) | (simp []; done) | (simp []; omega)) (flat_map flat_GEvent [v1, v3, v5, v7, v9, v11])) Cvs.nil) (ownTup (allCons .sc (allCons .sc allNil)))) | exact (PureCall.lent (late_Split_ok _ _ h16) (Cvs.cons (cv_ref (es := List.map enc_GEvent [v1, v3, v5, v7, v9, v11]) rfl (by first | rfl | (simp; done) | (simp; rfl) | (simp []; done) | (simp []; rfl) | (simp [List.map_take, List.map_drop]; done) | (simp [List.map_take, List.map_drop]; rfl)) (by first | rfl | (simp; done) | (simp; omega) | (simp []; done) | (simp []; omega)) (flat_map flat_GEvent [v1, v3, v5, v7, v9, v11])) Cvs.nil) (ownTup (allCons (ownO_list (flat_map flat_GRecord _)) (allCons (ownO_list (flat_map flat_GRecord _)) (allCons .sc allNil))))) | exact oblA) ?_
  refine SemK.join (s' := ⟨fr [(0, (aB j25_0))], hp ([]), 0⟩) ?_ (fun J => SemK.cut ?_)
  ·
    obtain rfl := Option.some.inj h
    refine run_to tmD 4000 [] rfl (by repeat' first | refine And.intro ?_ ?_ | exact oblA) ?_
    exact fin_ret rfl .sc
  ·
    clear h
    have h := h34
    refine brE h ?_ ?_
    · clear h; intro h26 h
      refine brE h ?_ ?_
      · clear h; intro h27 h
        refine brE h ?_ ?_
        · clear h; intro h28 h
          refine bindE h ?_
          clear h; intro v29 h30 h
          refine brE h ?_ ?_
          · clear h; intro h31 h
            refine bindE h ?_
            clear h; intro v32 h33 h
            obtain rfl := Option.some.inj h
            refine run_to tmD 4000 [.go true, .go true, .go true, .go true, .go true, .go true, .go true, .pure [(AV.list false (List.map enc_GRecord v15.1)), (AV.list false (List.map (aI .i64) [5, 10]))] (aB v29), .go true, .go true, .go true, .pure [(AV.list false (List.map enc_GRecord v15.2.1)), (AV.list false (List.map (aI .i64) [8, 9]))] (aB v32)] rfl (by repeat' first | refine And.intro ?_ ?_ | exact (PureCall.none (law20_at_ok _ _ h2) (Cvs.cons .sc Cvs.nil)) | exact (PureCall.none (law20_mark_ok _ _ h4) (Cvs.cons .sc Cvs.nil)) | exact (PureCall.none (law20_at_ok _ _ h6) (Cvs.cons .sc Cvs.nil)) | exact (PureCall.none (law20_mark_ok _ _ h8) (Cvs.cons .sc Cvs.nil)) | exact (PureCall.none (law20_at_ok _ _ h10) (Cvs.cons .sc Cvs.nil)) | exact (PureCall.none (law20_at_ok _ _ h12) (Cvs.cons .sc Cvs.nil)) | exact (PureCall.lent (late_Mark_ok _ _ h14) (Cvs.cons (cv_ref (es := List.map enc_GEvent [v1, v3, v5, v7, v9, v11]) rfl (by first | rfl | (simp; done) | (simp; rfl) | (simp []; done) | (simp []; rfl) | (simp [List.map_take, List.map_drop]; done) | (simp [List.map_take, List.map_drop]; rfl)) (by first | rfl | (simp; done) | (simp; omega) | (simp []; done) | (simp []; omega)) (flat_map flat_GEvent [v1, v3, v5, v7, v9, v11])) Cvs.nil) (ownTup (allCons .sc (allCons .sc allNil)))) | exact (PureCall.lent (late_Split_ok _ _ h16) (Cvs.cons (cv_ref (es := List.map enc_GEvent [v1, v3, v5, v7, v9, v11]) rfl (by first | rfl | (simp; done) | (simp; rfl) | (simp []; done) | (simp []; rfl) | (simp [List.map_take, List.map_drop]; done) | (simp [List.map_take, List.map_drop]; rfl)) (by first | rfl | (simp; done) | (simp; omega) | (simp []; done) | (simp []; omega)) (flat_map flat_GEvent [v1, v3, v5, v7, v9, v11])) Cvs.nil) (ownTup (allCons (ownO_list (flat_map flat_GRecord _)) (allCons (ownO_list (flat_map flat_GRecord _)) (allCons .sc allNil))))) | exact ((bif_t h26 h27)) | exact (bnot_of (bif_t h26 h27)) | exact (absN (bif_t h26 h27)) | exact ((bif_t (bif_t h26 h27) h28)) | exact (bnot_of (bif_t (bif_t h26 h27) h28)) | exact (PureCall.lent (law20_times_ok _ _ _ h30) (Cvs.cons (cv_list (flat_map flat_GRecord v15.1)) (Cvs.cons (cv_ref (es := List.map (aI .i64) [5, 10]) rfl (by first | rfl | (simp; done) | (simp; rfl) | (simp [h26, h27, h28]; done) | (simp [h26, h27, h28]; rfl) | (simp [h26, h27, h28, List.map_take, List.map_drop]; done) | (simp [h26, h27, h28, List.map_take, List.map_drop]; rfl)) (by first | rfl | (simp; done) | (simp; omega) | (simp [h26, h27, h28]; done) | (simp [h26, h27, h28]; omega)) (flat_map (fun _ => flatSc) [5, 10])) Cvs.nil)) .sc) | exact (absN (bif_t (bif_t h26 h27) h28)) | exact ((bif_t (bif_t (bif_t h26 h27) h28) h31)) | exact (bnot_of (bif_t (bif_t (bif_t h26 h27) h28) h31)) | exact (PureCall.lent (law20_times_ok _ _ _ h33) (Cvs.cons (cv_list (flat_map flat_GRecord v15.2.1)) (Cvs.cons (cv_ref (es := List.map (aI .i64) [8, 9]) rfl (by first | rfl | (simp; done) | (simp; rfl) | (simp [h26, h27, h28, h31]; done) | (simp [h26, h27, h28, h31]; rfl) | (simp [h26, h27, h28, h31, List.map_take, List.map_drop]; done) | (simp [h26, h27, h28, h31, List.map_take, List.map_drop]; rfl)) (by first | rfl | (simp; done) | (simp; omega) | (simp [h26, h27, h28, h31]; done) | (simp [h26, h27, h28, h31]; omega)) (flat_map (fun _ => flatSc) [8, 9])) Cvs.nil)) .sc) | exact (absN (bif_t (bif_t (bif_t h26 h27) h28) h31)) | exact oblA) ?_
            refine SemK.weakTo [] (SemK.glue J) rfl (by repeat' first | refine And.intro ?_ ?_ | exact wkA) (by repeat' first | refine And.intro ?_ ?_ | exact wkB)
          · clear h; intro h31 h
            obtain rfl := Option.some.inj h
            refine run_to tmD 4000 [.go true, .go true, .go true, .go true, .go true, .go true, .go true, .pure [(AV.list false (List.map enc_GRecord v15.1)), (AV.list false (List.map (aI .i64) [5, 10]))] (aB v29), .go false, .go false, .go false] rfl (by repeat' first | refine And.intro ?_ ?_ | exact (PureCall.none (law20_at_ok _ _ h2) (Cvs.cons .sc Cvs.nil)) | exact (PureCall.none (law20_mark_ok _ _ h4) (Cvs.cons .sc Cvs.nil)) | exact (PureCall.none (law20_at_ok _ _ h6) (Cvs.cons .sc Cvs.nil)) | exact (PureCall.none (law20_mark_ok _ _ h8) (Cvs.cons .sc Cvs.nil)) | exact (PureCall.none (law20_at_ok _ _ h10) (Cvs.cons .sc Cvs.nil)) | exact (PureCall.none (law20_at_ok _ _ h12) (Cvs.cons .sc Cvs.nil)) | exact (PureCall.lent (late_Mark_ok _ _ h14) (Cvs.cons (cv_ref (es := List.map enc_GEvent [v1, v3, v5, v7, v9, v11]) rfl (by first | rfl | (simp; done) | (simp; rfl) | (simp []; done) | (simp []; rfl) | (simp [List.map_take, List.map_drop]; done) | (simp [List.map_take, List.map_drop]; rfl)) (by first | rfl | (simp; done) | (simp; omega) | (simp []; done) | (simp []; omega)) (flat_map flat_GEvent [v1, v3, v5, v7, v9, v11])) Cvs.nil) (ownTup (allCons .sc (allCons .sc allNil)))) | exact (PureCall.lent (late_Split_ok _ _ h16) (Cvs.cons (cv_ref (es := List.map enc_GEvent [v1, v3, v5, v7, v9, v11]) rfl (by first | rfl | (simp; done) | (simp; rfl) | (simp []; done) | (simp []; rfl) | (simp [List.map_take, List.map_drop]; done) | (simp [List.map_take, List.map_drop]; rfl)) (by first | rfl | (simp; done) | (simp; omega) | (simp []; done) | (simp []; omega)) (flat_map flat_GEvent [v1, v3, v5, v7, v9, v11])) Cvs.nil) (ownTup (allCons (ownO_list (flat_map flat_GRecord _)) (allCons (ownO_list (flat_map flat_GRecord _)) (allCons .sc allNil))))) | exact ((bif_t h26 h27)) | exact (bnot_of (bif_t h26 h27)) | exact (absN (bif_t h26 h27)) | exact ((bif_t (bif_t h26 h27) h28)) | exact (bnot_of (bif_t (bif_t h26 h27) h28)) | exact (PureCall.lent (law20_times_ok _ _ _ h30) (Cvs.cons (cv_list (flat_map flat_GRecord v15.1)) (Cvs.cons (cv_ref (es := List.map (aI .i64) [5, 10]) rfl (by first | rfl | (simp; done) | (simp; rfl) | (simp [h26, h27, h28]; done) | (simp [h26, h27, h28]; rfl) | (simp [h26, h27, h28, List.map_take, List.map_drop]; done) | (simp [h26, h27, h28, List.map_take, List.map_drop]; rfl)) (by first | rfl | (simp; done) | (simp; omega) | (simp [h26, h27, h28]; done) | (simp [h26, h27, h28]; omega)) (flat_map (fun _ => flatSc) [5, 10])) Cvs.nil)) .sc) | exact (absN (bif_t (bif_t h26 h27) h28)) | exact ((bif_t (bif_t (bif_t h26 h27) h28) h31)) | exact (bnot_of (bif_t (bif_t (bif_t h26 h27) h28) h31)) | exact (absT (bif_t (bif_t (bif_t h26 h27) h28) h31)) | exact oblA) ?_
            refine SemK.weakTo [] (SemK.glue J) rfl (by repeat' first | refine And.intro ?_ ?_ | exact wkA) (by repeat' first | refine And.intro ?_ ?_ | exact wkB)
        · clear h; intro h28 h
          obtain rfl := Option.some.inj h
          refine run_to tmD 4000 [.go true, .go true, .go true, .go true, .go false, .go false, .go false, .go false, .go false, .go false] rfl (by repeat' first | refine And.intro ?_ ?_ | exact (PureCall.none (law20_at_ok _ _ h2) (Cvs.cons .sc Cvs.nil)) | exact (PureCall.none (law20_mark_ok _ _ h4) (Cvs.cons .sc Cvs.nil)) | exact (PureCall.none (law20_at_ok _ _ h6) (Cvs.cons .sc Cvs.nil)) | exact (PureCall.none (law20_mark_ok _ _ h8) (Cvs.cons .sc Cvs.nil)) | exact (PureCall.none (law20_at_ok _ _ h10) (Cvs.cons .sc Cvs.nil)) | exact (PureCall.none (law20_at_ok _ _ h12) (Cvs.cons .sc Cvs.nil)) | exact (PureCall.lent (late_Mark_ok _ _ h14) (Cvs.cons (cv_ref (es := List.map enc_GEvent [v1, v3, v5, v7, v9, v11]) rfl (by first | rfl | (simp; done) | (simp; rfl) | (simp []; done) | (simp []; rfl) | (simp [List.map_take, List.map_drop]; done) | (simp [List.map_take, List.map_drop]; rfl)) (by first | rfl | (simp; done) | (simp; omega) | (simp []; done) | (simp []; omega)) (flat_map flat_GEvent [v1, v3, v5, v7, v9, v11])) Cvs.nil) (ownTup (allCons .sc (allCons .sc allNil)))) | exact (PureCall.lent (late_Split_ok _ _ h16) (Cvs.cons (cv_ref (es := List.map enc_GEvent [v1, v3, v5, v7, v9, v11]) rfl (by first | rfl | (simp; done) | (simp; rfl) | (simp []; done) | (simp []; rfl) | (simp [List.map_take, List.map_drop]; done) | (simp [List.map_take, List.map_drop]; rfl)) (by first | rfl | (simp; done) | (simp; omega) | (simp []; done) | (simp []; omega)) (flat_map flat_GEvent [v1, v3, v5, v7, v9, v11])) Cvs.nil) (ownTup (allCons (ownO_list (flat_map flat_GRecord _)) (allCons (ownO_list (flat_map flat_GRecord _)) (allCons .sc allNil))))) | exact ((bif_t h26 h27)) | exact (bnot_of (bif_t h26 h27)) | exact (absN (bif_t h26 h27)) | exact ((bif_t (bif_t h26 h27) h28)) | exact (bnot_of (bif_t (bif_t h26 h27) h28)) | exact (absT (bif_t (bif_t h26 h27) h28)) | exact ((bif_f (bif_t (bif_t h26 h27) h28) rfl)) | exact (bnot_of (bif_f (bif_t (bif_t h26 h27) h28) rfl)) | exact (absT (bif_f (bif_t (bif_t h26 h27) h28) rfl)) | exact oblA) ?_
          refine SemK.weakTo [] (SemK.glue J) rfl (by repeat' first | refine And.intro ?_ ?_ | exact wkA) (by repeat' first | refine And.intro ?_ ?_ | exact wkB)
      · clear h; intro h27 h
        obtain rfl := Option.some.inj h
        refine run_to tmD 4000 [.go true, .go true, .go false, .go false, .go false, .go false, .go false, .go false, .go false, .go false] rfl (by repeat' first | refine And.intro ?_ ?_ | exact (PureCall.none (law20_at_ok _ _ h2) (Cvs.cons .sc Cvs.nil)) | exact (PureCall.none (law20_mark_ok _ _ h4) (Cvs.cons .sc Cvs.nil)) | exact (PureCall.none (law20_at_ok _ _ h6) (Cvs.cons .sc Cvs.nil)) | exact (PureCall.none (law20_mark_ok _ _ h8) (Cvs.cons .sc Cvs.nil)) | exact (PureCall.none (law20_at_ok _ _ h10) (Cvs.cons .sc Cvs.nil)) | exact (PureCall.none (law20_at_ok _ _ h12) (Cvs.cons .sc Cvs.nil)) | exact (PureCall.lent (late_Mark_ok _ _ h14) (Cvs.cons (cv_ref (es := List.map enc_GEvent [v1, v3, v5, v7, v9, v11]) rfl (by first | rfl | (simp; done) | (simp; rfl) | (simp []; done) | (simp []; rfl) | (simp [List.map_take, List.map_drop]; done) | (simp [List.map_take, List.map_drop]; rfl)) (by first | rfl | (simp; done) | (simp; omega) | (simp []; done) | (simp []; omega)) (flat_map flat_GEvent [v1, v3, v5, v7, v9, v11])) Cvs.nil) (ownTup (allCons .sc (allCons .sc allNil)))) | exact (PureCall.lent (late_Split_ok _ _ h16) (Cvs.cons (cv_ref (es := List.map enc_GEvent [v1, v3, v5, v7, v9, v11]) rfl (by first | rfl | (simp; done) | (simp; rfl) | (simp []; done) | (simp []; rfl) | (simp [List.map_take, List.map_drop]; done) | (simp [List.map_take, List.map_drop]; rfl)) (by first | rfl | (simp; done) | (simp; omega) | (simp []; done) | (simp []; omega)) (flat_map flat_GEvent [v1, v3, v5, v7, v9, v11])) Cvs.nil) (ownTup (allCons (ownO_list (flat_map flat_GRecord _)) (allCons (ownO_list (flat_map flat_GRecord _)) (allCons .sc allNil))))) | exact ((bif_t h26 h27)) | exact (bnot_of (bif_t h26 h27)) | exact (absT (bif_t h26 h27)) | exact ((bif_f (bif_t h26 h27) rfl)) | exact (bnot_of (bif_f (bif_t h26 h27) rfl)) | exact (absT (bif_f (bif_t h26 h27) rfl)) | exact ((bif_f (bif_f (bif_t h26 h27) rfl) rfl)) | exact (bnot_of (bif_f (bif_f (bif_t h26 h27) rfl) rfl)) | exact (absT (bif_f (bif_f (bif_t h26 h27) rfl) rfl)) | exact oblA) ?_
        refine SemK.weakTo [] (SemK.glue J) rfl (by repeat' first | refine And.intro ?_ ?_ | exact wkA) (by repeat' first | refine And.intro ?_ ?_ | exact wkB)
    · clear h; intro h26 h
      obtain rfl := Option.some.inj h
      refine run_to tmD 4000 [.go false, .go false, .go false, .go false, .go false, .go false, .go false, .go false, .go false, .go false] rfl (by repeat' first | refine And.intro ?_ ?_ | exact (PureCall.none (law20_at_ok _ _ h2) (Cvs.cons .sc Cvs.nil)) | exact (PureCall.none (law20_mark_ok _ _ h4) (Cvs.cons .sc Cvs.nil)) | exact (PureCall.none (law20_at_ok _ _ h6) (Cvs.cons .sc Cvs.nil)) | exact (PureCall.none (law20_mark_ok _ _ h8) (Cvs.cons .sc Cvs.nil)) | exact (PureCall.none (law20_at_ok _ _ h10) (Cvs.cons .sc Cvs.nil)) | exact (PureCall.none (law20_at_ok _ _ h12) (Cvs.cons .sc Cvs.nil)) | exact (PureCall.lent (late_Mark_ok _ _ h14) (Cvs.cons (cv_ref (es := List.map enc_GEvent [v1, v3, v5, v7, v9, v11]) rfl (by first | rfl | (simp; done) | (simp; rfl) | (simp []; done) | (simp []; rfl) | (simp [List.map_take, List.map_drop]; done) | (simp [List.map_take, List.map_drop]; rfl)) (by first | rfl | (simp; done) | (simp; omega) | (simp []; done) | (simp []; omega)) (flat_map flat_GEvent [v1, v3, v5, v7, v9, v11])) Cvs.nil) (ownTup (allCons .sc (allCons .sc allNil)))) | exact (PureCall.lent (late_Split_ok _ _ h16) (Cvs.cons (cv_ref (es := List.map enc_GEvent [v1, v3, v5, v7, v9, v11]) rfl (by first | rfl | (simp; done) | (simp; rfl) | (simp []; done) | (simp []; rfl) | (simp [List.map_take, List.map_drop]; done) | (simp [List.map_take, List.map_drop]; rfl)) (by first | rfl | (simp; done) | (simp; omega) | (simp []; done) | (simp []; omega)) (flat_map flat_GEvent [v1, v3, v5, v7, v9, v11])) Cvs.nil) (ownTup (allCons (ownO_list (flat_map flat_GRecord _)) (allCons (ownO_list (flat_map flat_GRecord _)) (allCons .sc allNil))))) | exact ((bif_f h26 rfl)) | exact (bnot_of (bif_f h26 rfl)) | exact (absT (bif_f h26 rfl)) | exact ((bif_f (bif_f h26 rfl) rfl)) | exact (bnot_of (bif_f (bif_f h26 rfl) rfl)) | exact (absT (bif_f (bif_f h26 rfl) rfl)) | exact ((bif_f (bif_f (bif_f h26 rfl) rfl) rfl)) | exact (bnot_of (bif_f (bif_f (bif_f h26 rfl) rfl) rfl)) | exact (absT (bif_f (bif_f (bif_f h26 rfl) rfl) rfl)) | exact oblA) ?_
      refine SemK.weakTo [] (SemK.glue J) rfl (by repeat' first | refine And.intro ?_ ?_ | exact wkA) (by repeat' first | refine And.intro ?_ ?_ | exact wkB)

theorem ref13_Check_ok (a0 : Int) (a1 : Int) (r : Int) (h : ref13_Check a0 a1 = some r) : Pure Try.prog 36 [(aI .i64 a0), (aI .i64 a1)] (aI .i64 r) := by
  refine Pure.sym tyTab_ok fn36 (nt := 17) rfl rfl ?_ (allCons .sc (allCons .sc allNil))
  unfold ref13_Check at h
  refine brE h ?_ ?_
  · clear h; intro h1 h
    obtain rfl := Option.some.inj h
    refine run_to tmD 4000 [.br true] rfl (by repeat' first | refine And.intro ?_ ?_ | exact oblA) ?_
    exact fin_ret rfl .sc
  · clear h; intro h1 h
    refine brE h ?_ ?_
    · clear h; intro h2 h
      obtain rfl := Option.some.inj h
      refine run_to tmD 4000 [.br false, .br true] rfl (by repeat' first | refine And.intro ?_ ?_ | exact oblA) ?_
      exact fin_ret rfl .sc
    · clear h; intro h2 h
      obtain rfl := Option.some.inj h
      refine run_to tmD 4000 [.br false, .br false] rfl (by repeat' first | refine And.intro ?_ ?_ | exact oblA) ?_
      exact fin_ret rfl .sc

theorem ref20_Valid_ok (a0 : GEvent) (r : Bool) (h : ref20_Valid a0 = some r) : Pure Try.prog 26 [(enc_GEvent a0)] (aB r) := by
  refine Pure.sym tyTab_ok fn26 (nt := 30) rfl rfl ?_ (allCons (free_GEvent _ _).1 allNil)
  unfold ref20_Valid at h
  refine brE h ?_ ?_
  · clear h; intro h1 h
    refine bindE h ?_
    clear h; intro j6_2 h11 h
    refine run_to tmD 4000 [.br true, .stop 2] rfl (by repeat' first | refine And.intro ?_ ?_ | exact oblA) ?_
    refine SemK.join (s' := ⟨fr [(2, (aB j6_2))], hp ([]), 0⟩) ?_ (fun J => SemK.cut ?_)
    ·
      obtain rfl := Option.some.inj h
      refine run_to tmD 4000 [] rfl (by repeat' first | refine And.intro ?_ ?_ | exact oblA) ?_
      exact fin_ret rfl .sc
    ·
      clear h
      have h := h11
      refine brE h ?_ ?_
      · clear h; intro h7 h
        refine brE h ?_ ?_
        · clear h; intro h8 h
          obtain rfl := Option.some.inj h
          refine run_to tmD 4000 [.go true, .go true, .go true, .go true, .go false, .go false, .go false, .go false, .go true] rfl (by repeat' first | refine And.intro ?_ ?_ | exact oblA) ?_
          refine SemK.weakTo [] (SemK.glue J) rfl (by repeat' first | refine And.intro ?_ ?_ | exact wkA) (by repeat' first | refine And.intro ?_ ?_ | exact wkB)
        · clear h; intro h8 h
          refine bindE h ?_
          clear h; intro v9 h10 h
          obtain rfl := Option.some.inj h
          refine run_to tmD 4000 [.go true, .go true, .go true, .go true, .go true, .go true, .go true, .pure [(aI .i64 a0.Time), (aI .i64 1)] (aI .i64 v9), .go true, .go true] rfl (by repeat' first | refine And.intro ?_ ?_ | exact (PureCall.none (ref13_Check_ok _ _ _ h10) (Cvs.cons .sc (Cvs.cons .sc Cvs.nil))) | exact oblA) ?_
          refine SemK.weakTo [] (SemK.glue J) rfl (by repeat' first | refine And.intro ?_ ?_ | exact wkA) (by repeat' first | refine And.intro ?_ ?_ | exact wkB)
      · clear h; intro h7 h
        obtain rfl := Option.some.inj h
        refine run_to tmD 4000 [.go false, .go false, .go false, .go false, .go false, .go false, .go false, .go false, .go false] rfl (by repeat' first | refine And.intro ?_ ?_ | exact oblA) ?_
        refine SemK.weakTo [] (SemK.glue J) rfl (by repeat' first | refine And.intro ?_ ?_ | exact wkA) (by repeat' first | refine And.intro ?_ ?_ | exact wkB)
  · clear h; intro h1 h
    refine bindE h ?_
    clear h; intro j15_2 h19 h
    refine run_to tmD 4000 [.br false, .stop 3] rfl (by repeat' first | refine And.intro ?_ ?_ | exact oblA) ?_
    refine SemK.join (s' := ⟨fr [(2, (aB j15_2))], hp ([]), 0⟩) ?_ (fun J => SemK.cut ?_)
    ·
      obtain rfl := Option.some.inj h
      refine run_to tmD 4000 [] rfl (by repeat' first | refine And.intro ?_ ?_ | exact oblA) ?_
      exact fin_ret rfl .sc
    ·
      clear h
      have h := h19
      refine brE h ?_ ?_
      · clear h; intro h16 h
        refine bindE h ?_
        clear h; intro v17 h18 h
        obtain rfl := Option.some.inj h
        refine run_to tmD 4000 [.go true, .go true, .go true, .go true, .pure [(aI .i64 a0.Record.Time), (aI .i64 1)] (aI .i64 v17), .go true] rfl (by repeat' first | refine And.intro ?_ ?_ | exact (PureCall.none (ref13_Check_ok _ _ _ h18) (Cvs.cons .sc (Cvs.cons .sc Cvs.nil))) | exact oblA) ?_
        refine SemK.weakTo [] (SemK.glue J) rfl (by repeat' first | refine And.intro ?_ ?_ | exact wkA) (by repeat' first | refine And.intro ?_ ?_ | exact wkB)
      · clear h; intro h16 h
        obtain rfl := Option.some.inj h
        refine run_to tmD 4000 [.go false, .go false, .go false, .go false, .go false] rfl (by repeat' first | refine And.intro ?_ ?_ | exact oblA) ?_
        refine SemK.weakTo [] (SemK.glue J) rfl (by repeat' first | refine And.intro ?_ ?_ | exact wkA) (by repeat' first | refine And.intro ?_ ?_ | exact wkB)

theorem ref20_Check_L0_ok {Q : AExit → St → Mu → Prop} {μ : Mu} (y0_0 : (List GEvent)) (hl : List.length y0_0 ≤ 140737488355328) : ∀ (xs : List GEvent) (k : Nat) (hx : y0_0.drop k = xs) (o : ref20_Check_L0_o) (h : ref20_Check_L0 y0_0 xs k  = some o)
    (C0 : o = ref20_Check_L0_o.x0 → SemK Try.prog 19 0 Q (.exit (.exit 0)) [] ⟨fr [], hp ([]), 0⟩ μ)
    (C1 : o = ref20_Check_L0_o.x1 → SemK Try.prog 19 0 Q (.exit .ret) [] ⟨fr [(2, (aI .i64 8))], hp ([]), 0⟩ μ),
    SemK Try.prog 19 0 Q (.loop (loopB 0 (bodyOf Try.f21))) [] ⟨fr [(0, (AV.list false (List.map enc_GEvent y0_0))), (3, (aI .i64 (k : Int)))], hp ([]), 0⟩ μ := by
  intro xs
  induction xs with
  | nil =>
    intro k hx  o h C0 C1
    have hk := drop_nil hx
    have hc : decide ((k : Int) < (List.length y0_0 : Int)) = false := decide_eq_false (by omega)
    rw [ref20_Check_L0] at h
    refine SemK.round ?_
    obtain rfl := Option.some.inj h
    refine run_to tmD 4000 [.el (aI .i64 (List.length y0_0 : Int)), .br false] rfl (by repeat' first | refine And.intro ?_ ?_ | exact oblA) ?_
    refine SemK.weakTo [] (C0 rfl) rfl (by repeat' first | refine And.intro ?_ ?_ | exact wkA) (by repeat' first | refine And.intro ?_ ?_ | exact wkB)
  | cons x xs ih =>
    intro k hx  o h C0 C1
    obtain ⟨hk, hg, hx1⟩ := drop_cons hx
    have hc : decide ((k : Int) < (List.length y0_0 : Int)) = true := decide_eq_true (by omega)
    rw [ref20_Check_L0] at h
    refine SemK.round ?_
    refine bindE h ?_
    clear h; intro v11 h12 h
    refine brE h ?_ ?_
    · clear h; intro h13 h
      obtain rfl := Option.some.inj h
      refine run_to tmD 4000 [.el (aI .i64 (List.length y0_0 : Int)), .br true, .el (enc_GEvent x), .pure [(enc_GEvent x)] (aB v11), .br true] rfl (by repeat' first | refine And.intro ?_ ?_ | exact (PureCall.none (ref20_Valid_ok _ _ h12) (Cvs.cons (cvf_GEvent (x := x)) Cvs.nil)) | exact oblA) ?_
      refine SemK.weakTo [] (C1 rfl) rfl (by repeat' first | refine And.intro ?_ ?_ | exact wkA) (by repeat' first | refine And.intro ?_ ?_ | exact wkB)
    · clear h; intro h13 h
      refine run_to tmD 4000 [.el (aI .i64 (List.length y0_0 : Int)), .br true, .el (enc_GEvent x), .pure [(enc_GEvent x)] (aB v11), .br false] rfl (by repeat' first | refine And.intro ?_ ?_ | exact (PureCall.none (ref20_Valid_ok _ _ h12) (Cvs.cons (cvf_GEvent (x := x)) Cvs.nil)) | exact oblA) ?_
      refine SemK.weakTo [] (ih (k + 1) hx1  o h C0 C1) rfl (by repeat' first | refine And.intro ?_ ?_ | exact wkA) (by repeat' first | refine And.intro ?_ ?_ | exact wkB)

theorem ref20_Check_ok (a0 : (List GEvent)) (r : Int) (h : ref20_Check a0 = some r) : Pure Try.prog 21 [(AV.list false (List.map enc_GEvent a0))] (aI .i64 r) := by
  refine Pure.sym tyTab_ok fn21 (nt := 19) rfl rfl ?_ (allCons .list allNil)
  unfold ref20_Check at h
  refine brE h ?_ ?_
  · clear h; intro h1 h
    obtain rfl := Option.some.inj h
    refine run_to tmD 4000 [.el (aI .i64 (List.length a0 : Int)), .br true] rfl (by repeat' first | refine And.intro ?_ ?_ | exact oblA) ?_
    exact fin_ret rfl .sc
  · clear h; intro h1 h
    refine bindE h ?_
    clear h; intro u2 h3 h
    have qh3 := lenOk_le h3
    refine bindE h ?_
    clear h; intro o14 h15 h
    refine run_to tmD 4000 [.el (aI .i64 (List.length a0 : Int)), .br false] rfl (by repeat' first | refine And.intro ?_ ?_ | exact oblA) ?_
    refine SemK.weakTo [] (SemK.cut (ref20_Check_L0_ok a0 qh3 a0 0 (by simp) _ h15 ?_ ?_)) rfl (by repeat' first | refine And.intro ?_ ?_ | exact wkA) (by repeat' first | refine And.intro ?_ ?_ | exact wkB)
    · intro eo14; subst eo14
      refine SemK.glue ?_
      try dsimp only at h
      obtain rfl := Option.some.inj h
      refine run_to tmD 4000 [] rfl (by repeat' first | refine And.intro ?_ ?_ | exact oblA) ?_
      exact fin_ret rfl .sc
    · intro eo14; subst eo14
      refine SemK.glue ?_
      try dsimp only at h
      obtain rfl := Option.some.inj h
      refine run_to tmD 4000 [] rfl (by repeat' first | refine And.intro ?_ ?_ | exact oblA) ?_
      exact fin_ret rfl .sc

theorem law20_LateOwn_L0_ok {Q : AExit → St → Mu → Prop} {μ : Mu} (y0_0 : (List GEvent)) (y0_3 : Bool) (y0_4 : (List GRecord)) (y0_5 : (List GRecord)) (hl : List.length y0_0 ≤ 140737488355328) : ∀ (xs : List GEvent) (k : Nat) (hx : y0_0.drop k = xs) (y0_7 : Int) (y0_8 : Int) (y0_o0 : (List GEvent)) (o : law20_LateOwn_L0_o) (h : law20_LateOwn_L0 y0_0 y0_3 y0_4 y0_5 xs k y0_7 y0_8 y0_o0 = some o)
    (C0 : ∀ (z0_0_7 : Int) (z0_0_8 : Int), o = law20_LateOwn_L0_o.x0 z0_0_7 z0_0_8 → SemK Try.prog 125 0 Q (.exit (.exit 0)) [] ⟨fr [(3, (aB y0_3)), (4, (AV.list true (List.map enc_GRecord y0_4))), (5, (AV.list true (List.map enc_GRecord y0_5))), (7, (aI .i64 z0_0_7)), (8, (aI .i64 z0_0_8))], hp ([]), 0⟩ μ)
    (C1 : o = law20_LateOwn_L0_o.x1 → SemK Try.prog 125 0 Q (.exit .ret) [] ⟨fr [(2, (aB false))], hp ([]), 0⟩ μ),
    SemK Try.prog 125 0 Q (.loop (loopB 0 (bodyOf Try.f6))) [] ⟨fr [(0, (AV.list false (List.map enc_GEvent y0_0))), (3, (aB y0_3)), (4, (AV.list true (List.map enc_GRecord y0_4))), (5, (AV.list true (List.map enc_GRecord y0_5))), (7, (aI .i64 y0_7)), (8, (aI .i64 y0_8)), (9, (slB 0 (List.map enc_GEvent y0_o0))), (10, (aI .i64 (k : Int)))], hp ([] ++ opG 0 5 (List.map enc_GEvent y0_o0)), 1⟩ μ := by
  intro xs
  induction xs with
  | nil =>
    intro k hx y0_7 y0_8 y0_o0 o h C0 C1
    have hk := drop_nil hx
    have hc : decide ((k : Int) < (List.length y0_0 : Int)) = false := decide_eq_false (by omega)
    rw [law20_LateOwn_L0] at h
    rcases y0_o0 with _ | ⟨y0_o0_0, y0_o0_1⟩
    ·
      refine SemK.round ?_
      obtain rfl := Option.some.inj h
      refine run_to tmD 4000 [.el (aI .i64 (List.length y0_0 : Int)), .br false] rfl (by repeat' first | refine And.intro ?_ ?_ | exact oblA) ?_
      refine SemK.weakTo [] (C0 _ _ rfl) rfl (by repeat' first | refine And.intro ?_ ?_ | exact wkA) (by repeat' first | refine And.intro ?_ ?_ | exact wkB)
    ·
      refine SemK.round ?_
      obtain rfl := Option.some.inj h
      refine run_to tmD 4000 [.el (aI .i64 (List.length y0_0 : Int)), .br false] rfl (by repeat' first | refine And.intro ?_ ?_ | exact oblA) ?_
      refine SemK.weakTo [] (C0 _ _ rfl) rfl (by repeat' first | refine And.intro ?_ ?_ | exact wkA) (by repeat' first | refine And.intro ?_ ?_ | exact wkB)
  | cons x xs ih =>
    intro k hx y0_7 y0_8 y0_o0 o h C0 C1
    obtain ⟨hk, hg, hx1⟩ := drop_cons hx
    have hc : decide ((k : Int) < (List.length y0_0 : Int)) = true := decide_eq_true (by omega)
    rw [law20_LateOwn_L0] at h
    rcases y0_o0 with _ | ⟨y0_o0_0, y0_o0_1⟩
    ·
      refine SemK.round ?_
      refine brE h ?_ ?_
      · clear h; intro h322 h
        refine bindE h ?_
        clear h; intro u323 h324 h
        refine run_to tmD 4000 [.el (aI .i64 (List.length y0_0 : Int)), .br true, .el (enc_GEvent x), .br true, .el (enc_GEvent x), .no] rfl (by repeat' first | refine And.intro ?_ ?_ | (refine capLe h324 rfl ?_; first | (simp; done) | (simp; omega) | (simp [hc, h322]; done) | (simp [hc, h322]; omega)) | (refine capMax h324 (by decide) ?_; first | (simp; done) | (simp; omega) | (simp [hc, h322]; done) | (simp [hc, h322]; omega)) | exact oblA) ?_
        refine SemK.weakTo [(0, 2)] (ih (k + 1) hx1 _ _ _ o h C0 C1) rfl (by repeat' first | refine And.intro ?_ ?_ | exact wkA) (by repeat' first | refine And.intro ?_ ?_ | exact wkB)
      · clear h; intro h322 h
        refine brE h ?_ ?_
        · clear h; intro q h
          have h325 : ([] : List GEvent) = [] := List.isEmpty_iff.1 q
          refine bindE h ?_
          clear h; intro u326 h327 h
          refine bindE h ?_
          clear h; intro v328 h329 h
          refine bindE h ?_
          clear h; intro j331_72 h333 h
          refine run_to tmD 4000 [.el (aI .i64 (List.length y0_0 : Int)), .br true, .el (enc_GEvent x), .br false, .ne false, .el (enc_GEvent x), .no, .pure [(AV.list false (List.map enc_GEvent (([] : List GEvent) ++ [x])))] (AV.tup [(AV.list true (List.map enc_GRecord v328.1)), (AV.list true (List.map enc_GRecord v328.2.1)), (aI .i64 v328.2.2)]), .stop 15] rfl (by repeat' first | refine And.intro ?_ ?_ | (refine capLe h327 rfl ?_; first | (simp; done) | (simp; omega) | (simp [hc, h322, h325]; done) | (simp [hc, h322, h325]; omega)) | (refine capMax h327 (by decide) ?_; first | (simp; done) | (simp; omega) | (simp [hc, h322, h325]; done) | (simp [hc, h322, h325]; omega)) | exact (PureCall.lent (late_Split_ok _ _ h329) (Cvs.cons (cv_ref (es := List.map enc_GEvent (([] : List GEvent) ++ [x])) rfl (by first | rfl | (simp; done) | (simp; rfl) | (simp [hc, h322, h325]; done) | (simp [hc, h322, h325]; rfl) | (simp [hc, h322, h325, List.map_take, List.map_drop]; done) | (simp [hc, h322, h325, List.map_take, List.map_drop]; rfl)) (by first | rfl | (simp; done) | (simp; omega) | (simp [hc, h322, h325]; done) | (simp [hc, h322, h325]; omega)) (flat_map flat_GEvent (([] : List GEvent) ++ [x]))) Cvs.nil) (ownTup (allCons (ownO_list (flat_map flat_GRecord _)) (allCons (ownO_list (flat_map flat_GRecord _)) (allCons .sc allNil))))) | exact oblA) ?_
          refine SemK.join (s' := ⟨fr [(0, (AV.list false (List.map enc_GEvent y0_0))), (3, (aB y0_3)), (4, (AV.list true (List.map enc_GRecord y0_4))), (5, (AV.list true (List.map enc_GRecord y0_5))), (7, (aI .i64 y0_7)), (8, (aI .i64 y0_8)), (9, AV.nils), (10, (aI .i64 (k : Int))), (11, (AV.list true (List.map enc_GRecord v328.1))), (72, (aB j331_72))], hp ([]), 1⟩) ?_ (fun J => SemK.cut ?_)
          ·
            refine brE h ?_ ?_
            · clear h; intro h334 h
              obtain rfl := Option.some.inj h
              refine run_to tmD 4000 [.br true] rfl (by repeat' first | refine And.intro ?_ ?_ | (refine capLe h327 rfl ?_; first | (simp; done) | (simp; omega) | (simp [hc, h322, h325, h334]; done) | (simp [hc, h322, h325, h334]; omega)) | (refine capMax h327 (by decide) ?_; first | (simp; done) | (simp; omega) | (simp [hc, h322, h325, h334]; done) | (simp [hc, h322, h325, h334]; omega)) | exact oblA) ?_
              refine SemK.weakTo [] (C1 rfl) rfl (by repeat' first | refine And.intro ?_ ?_ | exact wkA) (by repeat' first | refine And.intro ?_ ?_ | exact wkB)
            · clear h; intro h334 h
              refine brE h ?_ ?_
              · clear h; intro h335 h
                refine bindE h ?_
                clear h; intro j339_91 h343 h
                refine run_to tmD 4000 [.br false, .el (aI .i64 (List.length v328.1 : Int)), .br true, .stop 18] rfl (by repeat' first | refine And.intro ?_ ?_ | (refine capLe h327 rfl ?_; first | (simp; done) | (simp; omega) | (simp [hc, h322, h325, h334, h335]; done) | (simp [hc, h322, h325, h334, h335]; omega)) | (refine capMax h327 (by decide) ?_; first | (simp; done) | (simp; omega) | (simp [hc, h322, h325, h334, h335]; done) | (simp [hc, h322, h325, h334, h335]; omega)) | exact oblA) ?_
                refine SemK.join (s' := ⟨fr [(0, (AV.list false (List.map enc_GEvent y0_0))), (3, (aB y0_3)), (4, (AV.list true (List.map enc_GRecord y0_4))), (5, (AV.list true (List.map enc_GRecord y0_5))), (7, (aI .i64 y0_7)), (8, (aI .i64 y0_8)), (9, AV.nils), (10, (aI .i64 (k : Int))), (91, (aB j339_91))], hp ([]), 1⟩) ?_ (fun J => SemK.cut ?_)
                ·
                  refine brE h ?_ ?_
                  · clear h; intro h344 h
                    obtain rfl := Option.some.inj h
                    refine run_to tmD 4000 [.br true] rfl (by repeat' first | refine And.intro ?_ ?_ | (refine capLe h327 rfl ?_; first | (simp; done) | (simp; omega) | (simp [hc, h322, h325, h334, h335, h344]; done) | (simp [hc, h322, h325, h334, h335, h344]; omega)) | (refine capMax h327 (by decide) ?_; first | (simp; done) | (simp; omega) | (simp [hc, h322, h325, h334, h335, h344]; done) | (simp [hc, h322, h325, h334, h335, h344]; omega)) | exact oblA) ?_
                    refine SemK.weakTo [] (C1 rfl) rfl (by repeat' first | refine And.intro ?_ ?_ | exact wkA) (by repeat' first | refine And.intro ?_ ?_ | exact wkB)
                  · clear h; intro h344 h
                    refine run_to tmD 4000 [.br false, .wrap] rfl (by repeat' first | refine And.intro ?_ ?_ | (refine capLe h327 rfl ?_; first | (simp; done) | (simp; omega) | (simp [hc, h322, h325, h334, h335, h344]; done) | (simp [hc, h322, h325, h334, h335, h344]; omega)) | (refine capMax h327 (by decide) ?_; first | (simp; done) | (simp; omega) | (simp [hc, h322, h325, h334, h335, h344]; done) | (simp [hc, h322, h325, h334, h335, h344]; omega)) | exact oblA) ?_
                    refine SemK.weakTo [] (ih (k + 1) hx1 _ _ _ o h C0 C1) rfl (by repeat' first | refine And.intro ?_ ?_ | exact wkA) (by repeat' first | refine And.intro ?_ ?_ | exact wkB)
                ·
                  clear h
                  have h := h343
                  refine brE h ?_ ?_
                  · clear h; intro h340 h
                    obtain rfl := Option.some.inj h
                    refine run_to tmD 4000 [.el (aI .i64 (List.length y0_4 : Int)), .go false, .go false, .go false, .go false, .go false, .go false, .go false, .go false, .go false, .go false, .go true] rfl (by repeat' first | refine And.intro ?_ ?_ | (refine capLe h327 rfl ?_; first | (simp; done) | (simp; omega) | (simp [hc, h322, h325, h334, h335, h340]; done) | (simp [hc, h322, h325, h334, h335, h340]; omega)) | (refine capMax h327 (by decide) ?_; first | (simp; done) | (simp; omega) | (simp [hc, h322, h325, h334, h335, h340]; done) | (simp [hc, h322, h325, h334, h335, h340]; omega)) | exact oblA) ?_
                    refine SemK.weakTo [] (SemK.glue J) rfl (by repeat' first | refine And.intro ?_ ?_ | exact wkA) (by repeat' first | refine And.intro ?_ ?_ | exact wkB)
                  · clear h; intro h340 h
                    refine bindE h ?_
                    clear h; intro e341 h342 h
                    have qh342 := getI_lt h342
                    obtain rfl := Option.some.inj h
                    refine run_to tmD 4000 [.el (aI .i64 (List.length y0_4 : Int)), .go true, .go true, .go true, .el (enc_GRecord e341), .go true, .go true, .go true, .go true, .el (enc_GEvent x), .go true, .go true, .go true] rfl (by repeat' first | refine And.intro ?_ ?_ | (refine capLe h327 rfl ?_; first | (simp; done) | (simp; omega) | (simp [hc, h322, h325, h334, h335, h340]; done) | (simp [hc, h322, h325, h334, h335, h340]; omega)) | (refine capMax h327 (by decide) ?_; first | (simp; done) | (simp; omega) | (simp [hc, h322, h325, h334, h335, h340]; done) | (simp [hc, h322, h325, h334, h335, h340]; omega)) | exact oblA) ?_
                    refine SemK.weakTo [] (SemK.glue J) rfl (by repeat' first | refine And.intro ?_ ?_ | exact wkA) (by repeat' first | refine And.intro ?_ ?_ | exact wkB)
              · clear h; intro h335 h
                refine bindE h ?_
                clear h; intro j348_109 h352 h
                refine run_to tmD 4000 [.br false, .el (aI .i64 (List.length v328.1 : Int)), .br false, .stop 21] rfl (by repeat' first | refine And.intro ?_ ?_ | (refine capLe h327 rfl ?_; first | (simp; done) | (simp; omega) | (simp [hc, h322, h325, h334, h335]; done) | (simp [hc, h322, h325, h334, h335]; omega)) | (refine capMax h327 (by decide) ?_; first | (simp; done) | (simp; omega) | (simp [hc, h322, h325, h334, h335]; done) | (simp [hc, h322, h325, h334, h335]; omega)) | exact oblA) ?_
                refine SemK.join (s' := ⟨fr [(0, (AV.list false (List.map enc_GEvent y0_0))), (3, (aB y0_3)), (4, (AV.list true (List.map enc_GRecord y0_4))), (5, (AV.list true (List.map enc_GRecord y0_5))), (7, (aI .i64 y0_7)), (8, (aI .i64 y0_8)), (9, AV.nils), (10, (aI .i64 (k : Int))), (109, (aB j348_109))], hp ([]), 1⟩) ?_ (fun J => SemK.cut ?_)
                ·
                  refine brE h ?_ ?_
                  · clear h; intro h353 h
                    obtain rfl := Option.some.inj h
                    refine run_to tmD 4000 [.br true] rfl (by repeat' first | refine And.intro ?_ ?_ | (refine capLe h327 rfl ?_; first | (simp; done) | (simp; omega) | (simp [hc, h322, h325, h334, h335, h353]; done) | (simp [hc, h322, h325, h334, h335, h353]; omega)) | (refine capMax h327 (by decide) ?_; first | (simp; done) | (simp; omega) | (simp [hc, h322, h325, h334, h335, h353]; done) | (simp [hc, h322, h325, h334, h335, h353]; omega)) | exact oblA) ?_
                    refine SemK.weakTo [] (C1 rfl) rfl (by repeat' first | refine And.intro ?_ ?_ | exact wkA) (by repeat' first | refine And.intro ?_ ?_ | exact wkB)
                  · clear h; intro h353 h
                    refine run_to tmD 4000 [.br false, .wrap] rfl (by repeat' first | refine And.intro ?_ ?_ | (refine capLe h327 rfl ?_; first | (simp; done) | (simp; omega) | (simp [hc, h322, h325, h334, h335, h353]; done) | (simp [hc, h322, h325, h334, h335, h353]; omega)) | (refine capMax h327 (by decide) ?_; first | (simp; done) | (simp; omega) | (simp [hc, h322, h325, h334, h335, h353]; done) | (simp [hc, h322, h325, h334, h335, h353]; omega)) | exact oblA) ?_
                    refine SemK.weakTo [] (ih (k + 1) hx1 _ _ _ o h C0 C1) rfl (by repeat' first | refine And.intro ?_ ?_ | exact wkA) (by repeat' first | refine And.intro ?_ ?_ | exact wkB)
                ·
                  clear h
                  have h := h352
                  refine brE h ?_ ?_
                  · clear h; intro h349 h
                    obtain rfl := Option.some.inj h
                    refine run_to tmD 4000 [.el (aI .i64 (List.length y0_5 : Int)), .go false, .go false, .go false, .go false, .go false, .go false, .go false, .go false, .go false, .go false, .go true] rfl (by repeat' first | refine And.intro ?_ ?_ | (refine capLe h327 rfl ?_; first | (simp; done) | (simp; omega) | (simp [hc, h322, h325, h334, h335, h349]; done) | (simp [hc, h322, h325, h334, h335, h349]; omega)) | (refine capMax h327 (by decide) ?_; first | (simp; done) | (simp; omega) | (simp [hc, h322, h325, h334, h335, h349]; done) | (simp [hc, h322, h325, h334, h335, h349]; omega)) | exact oblA) ?_
                    refine SemK.weakTo [] (SemK.glue J) rfl (by repeat' first | refine And.intro ?_ ?_ | exact wkA) (by repeat' first | refine And.intro ?_ ?_ | exact wkB)
                  · clear h; intro h349 h
                    refine bindE h ?_
                    clear h; intro e350 h351 h
                    have qh351 := getI_lt h351
                    obtain rfl := Option.some.inj h
                    refine run_to tmD 4000 [.el (aI .i64 (List.length y0_5 : Int)), .go true, .go true, .go true, .el (enc_GRecord e350), .go true, .go true, .go true, .go true, .el (enc_GEvent x), .go true, .go true, .go true] rfl (by repeat' first | refine And.intro ?_ ?_ | (refine capLe h327 rfl ?_; first | (simp; done) | (simp; omega) | (simp [hc, h322, h325, h334, h335, h349]; done) | (simp [hc, h322, h325, h334, h335, h349]; omega)) | (refine capMax h327 (by decide) ?_; first | (simp; done) | (simp; omega) | (simp [hc, h322, h325, h334, h335, h349]; done) | (simp [hc, h322, h325, h334, h335, h349]; omega)) | exact oblA) ?_
                    refine SemK.weakTo [] (SemK.glue J) rfl (by repeat' first | refine And.intro ?_ ?_ | exact wkA) (by repeat' first | refine And.intro ?_ ?_ | exact wkB)
          ·
            clear h
            have h := h333
            refine brE h ?_ ?_
            · clear h; intro h332 h
              obtain rfl := Option.some.inj h
              refine run_to tmD 4000 [.go false, .go false, .go false, .go false, .go false, .go false] rfl (by repeat' first | refine And.intro ?_ ?_ | (refine capLe h327 rfl ?_; first | (simp; done) | (simp; omega) | (simp [hc, h322, h325, h332]; done) | (simp [hc, h322, h325, h332]; omega)) | (refine capMax h327 (by decide) ?_; first | (simp; done) | (simp; omega) | (simp [hc, h322, h325, h332]; done) | (simp [hc, h322, h325, h332]; omega)) | exact (PureCall.lent (late_Split_ok _ _ h329) (Cvs.cons (cv_ref (es := List.map enc_GEvent (([] : List GEvent) ++ [x])) rfl (by first | rfl | (simp; done) | (simp; rfl) | (simp [hc, h322, h325]; done) | (simp [hc, h322, h325]; rfl) | (simp [hc, h322, h325, List.map_take, List.map_drop]; done) | (simp [hc, h322, h325, List.map_take, List.map_drop]; rfl)) (by first | rfl | (simp; done) | (simp; omega) | (simp [hc, h322, h325]; done) | (simp [hc, h322, h325]; omega)) (flat_map flat_GEvent (([] : List GEvent) ++ [x]))) Cvs.nil) (ownTup (allCons (ownO_list (flat_map flat_GRecord _)) (allCons (ownO_list (flat_map flat_GRecord _)) (allCons .sc allNil))))) | exact oblA) ?_
              refine SemK.weakTo [] (SemK.glue J) rfl (by repeat' first | refine And.intro ?_ ?_ | exact wkA) (by repeat' first | refine And.intro ?_ ?_ | exact wkB)
            · clear h; intro h332 h
              obtain rfl := Option.some.inj h
              refine run_to tmD 4000 [.go true, .go true, .el (aI .i64 (List.length v328.1 : Int)), .go true, .go true, .el (aI .i64 (List.length v328.2.1 : Int)), .go true, .wrap, .go true] rfl (by repeat' first | refine And.intro ?_ ?_ | (refine capLe h327 rfl ?_; first | (simp; done) | (simp; omega) | (simp [hc, h322, h325, h332]; done) | (simp [hc, h322, h325, h332]; omega)) | (refine capMax h327 (by decide) ?_; first | (simp; done) | (simp; omega) | (simp [hc, h322, h325, h332]; done) | (simp [hc, h322, h325, h332]; omega)) | exact (PureCall.lent (late_Split_ok _ _ h329) (Cvs.cons (cv_ref (es := List.map enc_GEvent (([] : List GEvent) ++ [x])) rfl (by first | rfl | (simp; done) | (simp; rfl) | (simp [hc, h322, h325]; done) | (simp [hc, h322, h325]; rfl) | (simp [hc, h322, h325, List.map_take, List.map_drop]; done) | (simp [hc, h322, h325, List.map_take, List.map_drop]; rfl)) (by first | rfl | (simp; done) | (simp; omega) | (simp [hc, h322, h325]; done) | (simp [hc, h322, h325]; omega)) (flat_map flat_GEvent (([] : List GEvent) ++ [x]))) Cvs.nil) (ownTup (allCons (ownO_list (flat_map flat_GRecord _)) (allCons (ownO_list (flat_map flat_GRecord _)) (allCons .sc allNil))))) | exact oblA) ?_
              refine SemK.weakTo [] (SemK.glue J) rfl (by repeat' first | refine And.intro ?_ ?_ | exact wkA) (by repeat' first | refine And.intro ?_ ?_ | exact wkB)
        · clear h; intro q h
          have h325 : ¬ (([] : List GEvent) = []) := (fun e => by rw [e] at q; cases q)
          refine bindE h ?_
          clear h; intro u354 h355 h
          refine bindE h ?_
          clear h; intro u356 h357 h
          refine bindE h ?_
          clear h; intro v358 h359 h
          refine bindE h ?_
          clear h; intro j361_72 h363 h
          refine run_to tmD 4000 [.el (aI .i64 (List.length y0_0 : Int)), .br true, .el (enc_GEvent x), .br false, .ld (AV.list true (List.map enc_GEvent ([] : List GEvent))), .el (enc_GEvent x), .no, .pure [(AV.list false (List.map enc_GEvent (([] : List GEvent) ++ [x])))] (AV.tup [(AV.list true (List.map enc_GRecord v358.1)), (AV.list true (List.map enc_GRecord v358.2.1)), (aI .i64 v358.2.2)]), .stop 15] rfl (by repeat' first | refine And.intro ?_ ?_ | (refine capLe h355 rfl ?_; first | (simp; done) | (simp; omega) | (simp [hc, h322, h325]; done) | (simp [hc, h322, h325]; omega)) | (refine capMax h355 (by decide) ?_; first | (simp; done) | (simp; omega) | (simp [hc, h322, h325]; done) | (simp [hc, h322, h325]; omega)) | (refine capLe h357 rfl ?_; first | (simp; done) | (simp; omega) | (simp [hc, h322, h325]; done) | (simp [hc, h322, h325]; omega)) | (refine capMax h357 (by decide) ?_; first | (simp; done) | (simp; omega) | (simp [hc, h322, h325]; done) | (simp [hc, h322, h325]; omega)) | exact (PureCall.lent (late_Split_ok _ _ h359) (Cvs.cons (cv_ref (es := List.map enc_GEvent (([] : List GEvent) ++ [x])) rfl (by first | rfl | (simp; done) | (simp; rfl) | (simp [hc, h322, h325]; done) | (simp [hc, h322, h325]; rfl) | (simp [hc, h322, h325, List.map_take, List.map_drop]; done) | (simp [hc, h322, h325, List.map_take, List.map_drop]; rfl)) (by first | rfl | (simp; done) | (simp; omega) | (simp [hc, h322, h325]; done) | (simp [hc, h322, h325]; omega)) (flat_map flat_GEvent (([] : List GEvent) ++ [x]))) Cvs.nil) (ownTup (allCons (ownO_list (flat_map flat_GRecord _)) (allCons (ownO_list (flat_map flat_GRecord _)) (allCons .sc allNil))))) | exact oblA) ?_
          refine SemK.join (s' := ⟨fr [(0, (AV.list false (List.map enc_GEvent y0_0))), (3, (aB y0_3)), (4, (AV.list true (List.map enc_GRecord y0_4))), (5, (AV.list true (List.map enc_GRecord y0_5))), (7, (aI .i64 y0_7)), (8, (aI .i64 y0_8)), (9, AV.nils), (10, (aI .i64 (k : Int))), (11, (AV.list true (List.map enc_GRecord v358.1))), (72, (aB j361_72))], hp ([]), 1⟩) ?_ (fun J => SemK.cut ?_)
          ·
            refine brE h ?_ ?_
            · clear h; intro h364 h
              obtain rfl := Option.some.inj h
              refine run_to tmD 4000 [.br true] rfl (by repeat' first | refine And.intro ?_ ?_ | (refine capLe h355 rfl ?_; first | (simp; done) | (simp; omega) | (simp [hc, h322, h325, h364]; done) | (simp [hc, h322, h325, h364]; omega)) | (refine capMax h355 (by decide) ?_; first | (simp; done) | (simp; omega) | (simp [hc, h322, h325, h364]; done) | (simp [hc, h322, h325, h364]; omega)) | (refine capLe h357 rfl ?_; first | (simp; done) | (simp; omega) | (simp [hc, h322, h325, h364]; done) | (simp [hc, h322, h325, h364]; omega)) | (refine capMax h357 (by decide) ?_; first | (simp; done) | (simp; omega) | (simp [hc, h322, h325, h364]; done) | (simp [hc, h322, h325, h364]; omega)) | exact oblA) ?_
              refine SemK.weakTo [] (C1 rfl) rfl (by repeat' first | refine And.intro ?_ ?_ | exact wkA) (by repeat' first | refine And.intro ?_ ?_ | exact wkB)
            · clear h; intro h364 h
              refine brE h ?_ ?_
              · clear h; intro h365 h
                refine bindE h ?_
                clear h; intro j369_91 h373 h
                refine run_to tmD 4000 [.br false, .el (aI .i64 (List.length v358.1 : Int)), .br true, .stop 18] rfl (by repeat' first | refine And.intro ?_ ?_ | (refine capLe h355 rfl ?_; first | (simp; done) | (simp; omega) | (simp [hc, h322, h325, h364, h365]; done) | (simp [hc, h322, h325, h364, h365]; omega)) | (refine capMax h355 (by decide) ?_; first | (simp; done) | (simp; omega) | (simp [hc, h322, h325, h364, h365]; done) | (simp [hc, h322, h325, h364, h365]; omega)) | (refine capLe h357 rfl ?_; first | (simp; done) | (simp; omega) | (simp [hc, h322, h325, h364, h365]; done) | (simp [hc, h322, h325, h364, h365]; omega)) | (refine capMax h357 (by decide) ?_; first | (simp; done) | (simp; omega) | (simp [hc, h322, h325, h364, h365]; done) | (simp [hc, h322, h325, h364, h365]; omega)) | exact oblA) ?_
                refine SemK.join (s' := ⟨fr [(0, (AV.list false (List.map enc_GEvent y0_0))), (3, (aB y0_3)), (4, (AV.list true (List.map enc_GRecord y0_4))), (5, (AV.list true (List.map enc_GRecord y0_5))), (7, (aI .i64 y0_7)), (8, (aI .i64 y0_8)), (9, AV.nils), (10, (aI .i64 (k : Int))), (91, (aB j369_91))], hp ([]), 1⟩) ?_ (fun J => SemK.cut ?_)
                ·
                  refine brE h ?_ ?_
                  · clear h; intro h374 h
                    obtain rfl := Option.some.inj h
                    refine run_to tmD 4000 [.br true] rfl (by repeat' first | refine And.intro ?_ ?_ | (refine capLe h355 rfl ?_; first | (simp; done) | (simp; omega) | (simp [hc, h322, h325, h364, h365, h374]; done) | (simp [hc, h322, h325, h364, h365, h374]; omega)) | (refine capMax h355 (by decide) ?_; first | (simp; done) | (simp; omega) | (simp [hc, h322, h325, h364, h365, h374]; done) | (simp [hc, h322, h325, h364, h365, h374]; omega)) | (refine capLe h357 rfl ?_; first | (simp; done) | (simp; omega) | (simp [hc, h322, h325, h364, h365, h374]; done) | (simp [hc, h322, h325, h364, h365, h374]; omega)) | (refine capMax h357 (by decide) ?_; first | (simp; done) | (simp; omega) | (simp [hc, h322, h325, h364, h365, h374]; done) | (simp [hc, h322, h325, h364, h365, h374]; omega)) | exact oblA) ?_
                    refine SemK.weakTo [] (C1 rfl) rfl (by repeat' first | refine And.intro ?_ ?_ | exact wkA) (by repeat' first | refine And.intro ?_ ?_ | exact wkB)
                  · clear h; intro h374 h
                    refine run_to tmD 4000 [.br false, .wrap] rfl (by repeat' first | refine And.intro ?_ ?_ | (refine capLe h355 rfl ?_; first | (simp; done) | (simp; omega) | (simp [hc, h322, h325, h364, h365, h374]; done) | (simp [hc, h322, h325, h364, h365, h374]; omega)) | (refine capMax h355 (by decide) ?_; first | (simp; done) | (simp; omega) | (simp [hc, h322, h325, h364, h365, h374]; done) | (simp [hc, h322, h325, h364, h365, h374]; omega)) | (refine capLe h357 rfl ?_; first | (simp; done) | (simp; omega) | (simp [hc, h322, h325, h364, h365, h374]; done) | (simp [hc, h322, h325, h364, h365, h374]; omega)) | (refine capMax h357 (by decide) ?_; first | (simp; done) | (simp; omega) | (simp [hc, h322, h325, h364, h365, h374]; done) | (simp [hc, h322, h325, h364, h365, h374]; omega)) | exact oblA) ?_
                    refine SemK.weakTo [] (ih (k + 1) hx1 _ _ _ o h C0 C1) rfl (by repeat' first | refine And.intro ?_ ?_ | exact wkA) (by repeat' first | refine And.intro ?_ ?_ | exact wkB)
                ·
                  clear h
                  have h := h373
                  refine brE h ?_ ?_
                  · clear h; intro h370 h
                    obtain rfl := Option.some.inj h
                    refine run_to tmD 4000 [.el (aI .i64 (List.length y0_4 : Int)), .go false, .go false, .go false, .go false, .go false, .go false, .go false, .go false, .go false, .go false, .go true] rfl (by repeat' first | refine And.intro ?_ ?_ | (refine capLe h355 rfl ?_; first | (simp; done) | (simp; omega) | (simp [hc, h322, h325, h364, h365, h370]; done) | (simp [hc, h322, h325, h364, h365, h370]; omega)) | (refine capMax h355 (by decide) ?_; first | (simp; done) | (simp; omega) | (simp [hc, h322, h325, h364, h365, h370]; done) | (simp [hc, h322, h325, h364, h365, h370]; omega)) | (refine capLe h357 rfl ?_; first | (simp; done) | (simp; omega) | (simp [hc, h322, h325, h364, h365, h370]; done) | (simp [hc, h322, h325, h364, h365, h370]; omega)) | (refine capMax h357 (by decide) ?_; first | (simp; done) | (simp; omega) | (simp [hc, h322, h325, h364, h365, h370]; done) | (simp [hc, h322, h325, h364, h365, h370]; omega)) | exact oblA) ?_
                    refine SemK.weakTo [] (SemK.glue J) rfl (by repeat' first | refine And.intro ?_ ?_ | exact wkA) (by repeat' first | refine And.intro ?_ ?_ | exact wkB)
                  · clear h; intro h370 h
                    refine bindE h ?_
                    clear h; intro e371 h372 h
                    have qh372 := getI_lt h372
                    obtain rfl := Option.some.inj h
                    refine run_to tmD 4000 [.el (aI .i64 (List.length y0_4 : Int)), .go true, .go true, .go true, .el (enc_GRecord e371), .go true, .go true, .go true, .go true, .el (enc_GEvent x), .go true, .go true, .go true] rfl (by repeat' first | refine And.intro ?_ ?_ | (refine capLe h355 rfl ?_; first | (simp; done) | (simp; omega) | (simp [hc, h322, h325, h364, h365, h370]; done) | (simp [hc, h322, h325, h364, h365, h370]; omega)) | (refine capMax h355 (by decide) ?_; first | (simp; done) | (simp; omega) | (simp [hc, h322, h325, h364, h365, h370]; done) | (simp [hc, h322, h325, h364, h365, h370]; omega)) | (refine capLe h357 rfl ?_; first | (simp; done) | (simp; omega) | (simp [hc, h322, h325, h364, h365, h370]; done) | (simp [hc, h322, h325, h364, h365, h370]; omega)) | (refine capMax h357 (by decide) ?_; first | (simp; done) | (simp; omega) | (simp [hc, h322, h325, h364, h365, h370]; done) | (simp [hc, h322, h325, h364, h365, h370]; omega)) | exact oblA) ?_
                    refine SemK.weakTo [] (SemK.glue J) rfl (by repeat' first | refine And.intro ?_ ?_ | exact wkA) (by repeat' first | refine And.intro ?_ ?_ | exact wkB)
              · clear h; intro h365 h
                refine bindE h ?_
                clear h; intro j378_109 h382 h
                refine run_to tmD 4000 [.br false, .el (aI .i64 (List.length v358.1 : Int)), .br false, .stop 21] rfl (by repeat' first | refine And.intro ?_ ?_ | (refine capLe h355 rfl ?_; first | (simp; done) | (simp; omega) | (simp [hc, h322, h325, h364, h365]; done) | (simp [hc, h322, h325, h364, h365]; omega)) | (refine capMax h355 (by decide) ?_; first | (simp; done) | (simp; omega) | (simp [hc, h322, h325, h364, h365]; done) | (simp [hc, h322, h325, h364, h365]; omega)) | (refine capLe h357 rfl ?_; first | (simp; done) | (simp; omega) | (simp [hc, h322, h325, h364, h365]; done) | (simp [hc, h322, h325, h364, h365]; omega)) | (refine capMax h357 (by decide) ?_; first | (simp; done) | (simp; omega) | (simp [hc, h322, h325, h364, h365]; done) | (simp [hc, h322, h325, h364, h365]; omega)) | exact oblA) ?_
                refine SemK.join (s' := ⟨fr [(0, (AV.list false (List.map enc_GEvent y0_0))), (3, (aB y0_3)), (4, (AV.list true (List.map enc_GRecord y0_4))), (5, (AV.list true (List.map enc_GRecord y0_5))), (7, (aI .i64 y0_7)), (8, (aI .i64 y0_8)), (9, AV.nils), (10, (aI .i64 (k : Int))), (109, (aB j378_109))], hp ([]), 1⟩) ?_ (fun J => SemK.cut ?_)
                ·
                  refine brE h ?_ ?_
                  · clear h; intro h383 h
                    obtain rfl := Option.some.inj h
                    refine run_to tmD 4000 [.br true] rfl (by repeat' first | refine And.intro ?_ ?_ | (refine capLe h355 rfl ?_; first | (simp; done) | (simp; omega) | (simp [hc, h322, h325, h364, h365, h383]; done) | (simp [hc, h322, h325, h364, h365, h383]; omega)) | (refine capMax h355 (by decide) ?_; first | (simp; done) | (simp; omega) | (simp [hc, h322, h325, h364, h365, h383]; done) | (simp [hc, h322, h325, h364, h365, h383]; omega)) | (refine capLe h357 rfl ?_; first | (simp; done) | (simp; omega) | (simp [hc, h322, h325, h364, h365, h383]; done) | (simp [hc, h322, h325, h364, h365, h383]; omega)) | (refine capMax h357 (by decide) ?_; first | (simp; done) | (simp; omega) | (simp [hc, h322, h325, h364, h365, h383]; done) | (simp [hc, h322, h325, h364, h365, h383]; omega)) | exact oblA) ?_
                    refine SemK.weakTo [] (C1 rfl) rfl (by repeat' first | refine And.intro ?_ ?_ | exact wkA) (by repeat' first | refine And.intro ?_ ?_ | exact wkB)
                  · clear h; intro h383 h
                    refine run_to tmD 4000 [.br false, .wrap] rfl (by repeat' first | refine And.intro ?_ ?_ | (refine capLe h355 rfl ?_; first | (simp; done) | (simp; omega) | (simp [hc, h322, h325, h364, h365, h383]; done) | (simp [hc, h322, h325, h364, h365, h383]; omega)) | (refine capMax h355 (by decide) ?_; first | (simp; done) | (simp; omega) | (simp [hc, h322, h325, h364, h365, h383]; done) | (simp [hc, h322, h325, h364, h365, h383]; omega)) | (refine capLe h357 rfl ?_; first | (simp; done) | (simp; omega) | (simp [hc, h322, h325, h364, h365, h383]; done) | (simp [hc, h322, h325, h364, h365, h383]; omega)) | (refine capMax h357 (by decide) ?_; first | (simp; done) | (simp; omega) | (simp [hc, h322, h325, h364, h365, h383]; done) | (simp [hc, h322, h325, h364, h365, h383]; omega)) | exact oblA) ?_
                    refine SemK.weakTo [] (ih (k + 1) hx1 _ _ _ o h C0 C1) rfl (by repeat' first | refine And.intro ?_ ?_ | exact wkA) (by repeat' first | refine And.intro ?_ ?_ | exact wkB)
                ·
                  clear h
                  have h := h382
                  refine brE h ?_ ?_
                  · clear h; intro h379 h
                    obtain rfl := Option.some.inj h
                    refine run_to tmD 4000 [.el (aI .i64 (List.length y0_5 : Int)), .go false, .go false, .go false, .go false, .go false, .go false, .go false, .go false, .go false, .go false, .go true] rfl (by repeat' first | refine And.intro ?_ ?_ | (refine capLe h355 rfl ?_; first | (simp; done) | (simp; omega) | (simp [hc, h322, h325, h364, h365, h379]; done) | (simp [hc, h322, h325, h364, h365, h379]; omega)) | (refine capMax h355 (by decide) ?_; first | (simp; done) | (simp; omega) | (simp [hc, h322, h325, h364, h365, h379]; done) | (simp [hc, h322, h325, h364, h365, h379]; omega)) | (refine capLe h357 rfl ?_; first | (simp; done) | (simp; omega) | (simp [hc, h322, h325, h364, h365, h379]; done) | (simp [hc, h322, h325, h364, h365, h379]; omega)) | (refine capMax h357 (by decide) ?_; first | (simp; done) | (simp; omega) | (simp [hc, h322, h325, h364, h365, h379]; done) | (simp [hc, h322, h325, h364, h365, h379]; omega)) | exact oblA) ?_
                    refine SemK.weakTo [] (SemK.glue J) rfl (by repeat' first | refine And.intro ?_ ?_ | exact wkA) (by repeat' first | refine And.intro ?_ ?_ | exact wkB)
                  · clear h; intro h379 h
                    refine bindE h ?_
                    clear h; intro e380 h381 h
                    have qh381 := getI_lt h381
                    obtain rfl := Option.some.inj h
                    refine run_to tmD 4000 [.el (aI .i64 (List.length y0_5 : Int)), .go true, .go true, .go true, .el (enc_GRecord e380), .go true, .go true, .go true, .go true, .el (enc_GEvent x), .go true, .go true, .go true] rfl (by repeat' first | refine And.intro ?_ ?_ | (refine capLe h355 rfl ?_; first | (simp; done) | (simp; omega) | (simp [hc, h322, h325, h364, h365, h379]; done) | (simp [hc, h322, h325, h364, h365, h379]; omega)) | (refine capMax h355 (by decide) ?_; first | (simp; done) | (simp; omega) | (simp [hc, h322, h325, h364, h365, h379]; done) | (simp [hc, h322, h325, h364, h365, h379]; omega)) | (refine capLe h357 rfl ?_; first | (simp; done) | (simp; omega) | (simp [hc, h322, h325, h364, h365, h379]; done) | (simp [hc, h322, h325, h364, h365, h379]; omega)) | (refine capMax h357 (by decide) ?_; first | (simp; done) | (simp; omega) | (simp [hc, h322, h325, h364, h365, h379]; done) | (simp [hc, h322, h325, h364, h365, h379]; omega)) | exact oblA) ?_
                    refine SemK.weakTo [] (SemK.glue J) rfl (by repeat' first | refine And.intro ?_ ?_ | exact wkA) (by repeat' first | refine And.intro ?_ ?_ | exact wkB)
          ·
            clear h
            have h := h363
            refine brE h ?_ ?_
            · clear h; intro h362 h
              obtain rfl := Option.some.inj h
              refine run_to tmD 4000 [.go false, .go false, .go false, .go false, .go false, .go false] rfl (by repeat' first | refine And.intro ?_ ?_ | (refine capLe h355 rfl ?_; first | (simp; done) | (simp; omega) | (simp [hc, h322, h325, h362]; done) | (simp [hc, h322, h325, h362]; omega)) | (refine capMax h355 (by decide) ?_; first | (simp; done) | (simp; omega) | (simp [hc, h322, h325, h362]; done) | (simp [hc, h322, h325, h362]; omega)) | (refine capLe h357 rfl ?_; first | (simp; done) | (simp; omega) | (simp [hc, h322, h325, h362]; done) | (simp [hc, h322, h325, h362]; omega)) | (refine capMax h357 (by decide) ?_; first | (simp; done) | (simp; omega) | (simp [hc, h322, h325, h362]; done) | (simp [hc, h322, h325, h362]; omega)) | exact (PureCall.lent (late_Split_ok _ _ h359) (Cvs.cons (cv_ref (es := List.map enc_GEvent (([] : List GEvent) ++ [x])) rfl (by first | rfl | (simp; done) | (simp; rfl) | (simp [hc, h322, h325]; done) | (simp [hc, h322, h325]; rfl) | (simp [hc, h322, h325, List.map_take, List.map_drop]; done) | (simp [hc, h322, h325, List.map_take, List.map_drop]; rfl)) (by first | rfl | (simp; done) | (simp; omega) | (simp [hc, h322, h325]; done) | (simp [hc, h322, h325]; omega)) (flat_map flat_GEvent (([] : List GEvent) ++ [x]))) Cvs.nil) (ownTup (allCons (ownO_list (flat_map flat_GRecord _)) (allCons (ownO_list (flat_map flat_GRecord _)) (allCons .sc allNil))))) | exact oblA) ?_
              refine SemK.weakTo [] (SemK.glue J) rfl (by repeat' first | refine And.intro ?_ ?_ | exact wkA) (by repeat' first | refine And.intro ?_ ?_ | exact wkB)
            · clear h; intro h362 h
              obtain rfl := Option.some.inj h
              refine run_to tmD 4000 [.go true, .go true, .el (aI .i64 (List.length v358.1 : Int)), .go true, .go true, .el (aI .i64 (List.length v358.2.1 : Int)), .go true, .wrap, .go true] rfl (by repeat' first | refine And.intro ?_ ?_ | (refine capLe h355 rfl ?_; first | (simp; done) | (simp; omega) | (simp [hc, h322, h325, h362]; done) | (simp [hc, h322, h325, h362]; omega)) | (refine capMax h355 (by decide) ?_; first | (simp; done) | (simp; omega) | (simp [hc, h322, h325, h362]; done) | (simp [hc, h322, h325, h362]; omega)) | (refine capLe h357 rfl ?_; first | (simp; done) | (simp; omega) | (simp [hc, h322, h325, h362]; done) | (simp [hc, h322, h325, h362]; omega)) | (refine capMax h357 (by decide) ?_; first | (simp; done) | (simp; omega) | (simp [hc, h322, h325, h362]; done) | (simp [hc, h322, h325, h362]; omega)) | exact (PureCall.lent (late_Split_ok _ _ h359) (Cvs.cons (cv_ref (es := List.map enc_GEvent (([] : List GEvent) ++ [x])) rfl (by first | rfl | (simp; done) | (simp; rfl) | (simp [hc, h322, h325]; done) | (simp [hc, h322, h325]; rfl) | (simp [hc, h322, h325, List.map_take, List.map_drop]; done) | (simp [hc, h322, h325, List.map_take, List.map_drop]; rfl)) (by first | rfl | (simp; done) | (simp; omega) | (simp [hc, h322, h325]; done) | (simp [hc, h322, h325]; omega)) (flat_map flat_GEvent (([] : List GEvent) ++ [x]))) Cvs.nil) (ownTup (allCons (ownO_list (flat_map flat_GRecord _)) (allCons (ownO_list (flat_map flat_GRecord _)) (allCons .sc allNil))))) | exact oblA) ?_
              refine SemK.weakTo [] (SemK.glue J) rfl (by repeat' first | refine And.intro ?_ ?_ | exact wkA) (by repeat' first | refine And.intro ?_ ?_ | exact wkB)
    ·
      refine SemK.round ?_
      refine brE h ?_ ?_
      · clear h; intro h260 h
        refine bindE h ?_
        clear h; intro u261 h262 h
        refine run_to tmD 4000 [.el (aI .i64 (List.length y0_0 : Int)), .br true, .el (enc_GEvent x), .br true, .el (enc_GEvent x), .no] rfl (by repeat' first | refine And.intro ?_ ?_ | (refine capLe h262 rfl ?_; first | (simp; done) | (simp; omega) | (simp [hc, h260]; done) | (simp [hc, h260]; omega)) | (refine capMax h262 (by decide) ?_; first | (simp; done) | (simp; omega) | (simp [hc, h260]; done) | (simp [hc, h260]; omega)) | exact oblA) ?_
        refine SemK.weakTo [(0, 2)] (ih (k + 1) hx1 _ _ _ o h C0 C1) rfl (by repeat' first | refine And.intro ?_ ?_ | exact wkA) (by repeat' first | refine And.intro ?_ ?_ | exact wkB)
      · clear h; intro h260 h
        refine brE h ?_ ?_
        · clear h; intro q h
          have h263 : (y0_o0_0 :: y0_o0_1) = [] := List.isEmpty_iff.1 q
          refine bindE h ?_
          clear h; intro u264 h265 h
          refine bindE h ?_
          clear h; intro v266 h267 h
          refine bindE h ?_
          clear h; intro j269_72 h271 h
          refine run_to tmD 4000 [.el (aI .i64 (List.length y0_0 : Int)), .br true, .el (enc_GEvent x), .br false, .ne false, .el (enc_GEvent x), .no, .pure [(AV.list false (List.map enc_GEvent ((y0_o0_0 :: y0_o0_1) ++ [x])))] (AV.tup [(AV.list true (List.map enc_GRecord v266.1)), (AV.list true (List.map enc_GRecord v266.2.1)), (aI .i64 v266.2.2)]), .stop 15] rfl (by repeat' first | refine And.intro ?_ ?_ | (refine capLe h265 rfl ?_; first | (simp; done) | (simp; omega) | (simp [hc, h260, h263]; done) | (simp [hc, h260, h263]; omega)) | (refine capMax h265 (by decide) ?_; first | (simp; done) | (simp; omega) | (simp [hc, h260, h263]; done) | (simp [hc, h260, h263]; omega)) | exact (PureCall.lent (late_Split_ok _ _ h267) (Cvs.cons (cv_ref (es := List.map enc_GEvent ((y0_o0_0 :: y0_o0_1) ++ [x])) rfl (by first | rfl | (simp; done) | (simp; rfl) | (simp [hc, h260, h263]; done) | (simp [hc, h260, h263]; rfl) | (simp [hc, h260, h263, List.map_take, List.map_drop]; done) | (simp [hc, h260, h263, List.map_take, List.map_drop]; rfl)) (by first | rfl | (simp; done) | (simp; omega) | (simp [hc, h260, h263]; done) | (simp [hc, h260, h263]; omega)) (flat_map flat_GEvent ((y0_o0_0 :: y0_o0_1) ++ [x]))) Cvs.nil) (ownTup (allCons (ownO_list (flat_map flat_GRecord _)) (allCons (ownO_list (flat_map flat_GRecord _)) (allCons .sc allNil))))) | exact oblA) ?_
          refine SemK.join (s' := ⟨fr [(0, (AV.list false (List.map enc_GEvent y0_0))), (3, (aB y0_3)), (4, (AV.list true (List.map enc_GRecord y0_4))), (5, (AV.list true (List.map enc_GRecord y0_5))), (7, (aI .i64 y0_7)), (8, (aI .i64 y0_8)), (9, (AV.ref 0 0 (List.length (y0_o0_0 :: y0_o0_1)))), (10, (aI .i64 (k : Int))), (11, (AV.list true (List.map enc_GRecord v266.1))), (72, (aB j269_72))], hp ([(0, { es := List.map enc_GEvent (y0_o0_0 :: y0_o0_1), esz := 5 })]), 1⟩) ?_ (fun J => SemK.cut ?_)
          ·
            refine brE h ?_ ?_
            · clear h; intro h272 h
              obtain rfl := Option.some.inj h
              refine run_to tmD 4000 [.br true] rfl (by repeat' first | refine And.intro ?_ ?_ | (refine capLe h265 rfl ?_; first | (simp; done) | (simp; omega) | (simp [hc, h260, h263, h272]; done) | (simp [hc, h260, h263, h272]; omega)) | (refine capMax h265 (by decide) ?_; first | (simp; done) | (simp; omega) | (simp [hc, h260, h263, h272]; done) | (simp [hc, h260, h263, h272]; omega)) | exact oblA) ?_
              refine SemK.weakTo [] (C1 rfl) rfl (by repeat' first | refine And.intro ?_ ?_ | exact wkA) (by repeat' first | refine And.intro ?_ ?_ | exact wkB)
            · clear h; intro h272 h
              refine brE h ?_ ?_
              · clear h; intro h273 h
                refine bindE h ?_
                clear h; intro j277_91 h281 h
                refine run_to tmD 4000 [.br false, .el (aI .i64 (List.length v266.1 : Int)), .br true, .stop 18] rfl (by repeat' first | refine And.intro ?_ ?_ | (refine capLe h265 rfl ?_; first | (simp; done) | (simp; omega) | (simp [hc, h260, h263, h272, h273]; done) | (simp [hc, h260, h263, h272, h273]; omega)) | (refine capMax h265 (by decide) ?_; first | (simp; done) | (simp; omega) | (simp [hc, h260, h263, h272, h273]; done) | (simp [hc, h260, h263, h272, h273]; omega)) | exact oblA) ?_
                refine SemK.join (s' := ⟨fr [(0, (AV.list false (List.map enc_GEvent y0_0))), (3, (aB y0_3)), (4, (AV.list true (List.map enc_GRecord y0_4))), (5, (AV.list true (List.map enc_GRecord y0_5))), (7, (aI .i64 y0_7)), (8, (aI .i64 y0_8)), (9, (AV.ref 0 0 (List.length (y0_o0_0 :: y0_o0_1)))), (10, (aI .i64 (k : Int))), (91, (aB j277_91))], hp ([(0, { es := List.map enc_GEvent (y0_o0_0 :: y0_o0_1), esz := 5 })]), 1⟩) ?_ (fun J => SemK.cut ?_)
                ·
                  refine brE h ?_ ?_
                  · clear h; intro h282 h
                    obtain rfl := Option.some.inj h
                    refine run_to tmD 4000 [.br true] rfl (by repeat' first | refine And.intro ?_ ?_ | (refine capLe h265 rfl ?_; first | (simp; done) | (simp; omega) | (simp [hc, h260, h263, h272, h273, h282]; done) | (simp [hc, h260, h263, h272, h273, h282]; omega)) | (refine capMax h265 (by decide) ?_; first | (simp; done) | (simp; omega) | (simp [hc, h260, h263, h272, h273, h282]; done) | (simp [hc, h260, h263, h272, h273, h282]; omega)) | exact oblA) ?_
                    refine SemK.weakTo [] (C1 rfl) rfl (by repeat' first | refine And.intro ?_ ?_ | exact wkA) (by repeat' first | refine And.intro ?_ ?_ | exact wkB)
                  · clear h; intro h282 h
                    refine run_to tmD 4000 [.br false, .wrap] rfl (by repeat' first | refine And.intro ?_ ?_ | (refine capLe h265 rfl ?_; first | (simp; done) | (simp; omega) | (simp [hc, h260, h263, h272, h273, h282]; done) | (simp [hc, h260, h263, h272, h273, h282]; omega)) | (refine capMax h265 (by decide) ?_; first | (simp; done) | (simp; omega) | (simp [hc, h260, h263, h272, h273, h282]; done) | (simp [hc, h260, h263, h272, h273, h282]; omega)) | exact oblA) ?_
                    refine SemK.weakTo [] (ih (k + 1) hx1 _ _ _ o h C0 C1) rfl (by repeat' first | refine And.intro ?_ ?_ | exact wkA) (by repeat' first | refine And.intro ?_ ?_ | exact wkB)
                ·
                  clear h
                  have h := h281
                  refine brE h ?_ ?_
                  · clear h; intro h278 h
                    obtain rfl := Option.some.inj h
                    refine run_to tmD 4000 [.el (aI .i64 (List.length y0_4 : Int)), .go false, .go false, .go false, .go false, .go false, .go false, .go false, .go false, .go false, .go false, .go true] rfl (by repeat' first | refine And.intro ?_ ?_ | (refine capLe h265 rfl ?_; first | (simp; done) | (simp; omega) | (simp [hc, h260, h263, h272, h273, h278]; done) | (simp [hc, h260, h263, h272, h273, h278]; omega)) | (refine capMax h265 (by decide) ?_; first | (simp; done) | (simp; omega) | (simp [hc, h260, h263, h272, h273, h278]; done) | (simp [hc, h260, h263, h272, h273, h278]; omega)) | exact oblA) ?_
                    refine SemK.weakTo [] (SemK.glue J) rfl (by repeat' first | refine And.intro ?_ ?_ | exact wkA) (by repeat' first | refine And.intro ?_ ?_ | exact wkB)
                  · clear h; intro h278 h
                    refine bindE h ?_
                    clear h; intro e279 h280 h
                    have qh280 := getI_lt h280
                    obtain rfl := Option.some.inj h
                    refine run_to tmD 4000 [.el (aI .i64 (List.length y0_4 : Int)), .go true, .go true, .go true, .el (enc_GRecord e279), .go true, .go true, .go true, .go true, .el (enc_GEvent x), .go true, .go true, .go true] rfl (by repeat' first | refine And.intro ?_ ?_ | (refine capLe h265 rfl ?_; first | (simp; done) | (simp; omega) | (simp [hc, h260, h263, h272, h273, h278]; done) | (simp [hc, h260, h263, h272, h273, h278]; omega)) | (refine capMax h265 (by decide) ?_; first | (simp; done) | (simp; omega) | (simp [hc, h260, h263, h272, h273, h278]; done) | (simp [hc, h260, h263, h272, h273, h278]; omega)) | exact oblA) ?_
                    refine SemK.weakTo [] (SemK.glue J) rfl (by repeat' first | refine And.intro ?_ ?_ | exact wkA) (by repeat' first | refine And.intro ?_ ?_ | exact wkB)
              · clear h; intro h273 h
                refine bindE h ?_
                clear h; intro j286_109 h290 h
                refine run_to tmD 4000 [.br false, .el (aI .i64 (List.length v266.1 : Int)), .br false, .stop 21] rfl (by repeat' first | refine And.intro ?_ ?_ | (refine capLe h265 rfl ?_; first | (simp; done) | (simp; omega) | (simp [hc, h260, h263, h272, h273]; done) | (simp [hc, h260, h263, h272, h273]; omega)) | (refine capMax h265 (by decide) ?_; first | (simp; done) | (simp; omega) | (simp [hc, h260, h263, h272, h273]; done) | (simp [hc, h260, h263, h272, h273]; omega)) | exact oblA) ?_
                refine SemK.join (s' := ⟨fr [(0, (AV.list false (List.map enc_GEvent y0_0))), (3, (aB y0_3)), (4, (AV.list true (List.map enc_GRecord y0_4))), (5, (AV.list true (List.map enc_GRecord y0_5))), (7, (aI .i64 y0_7)), (8, (aI .i64 y0_8)), (9, (AV.ref 0 0 (List.length (y0_o0_0 :: y0_o0_1)))), (10, (aI .i64 (k : Int))), (109, (aB j286_109))], hp ([(0, { es := List.map enc_GEvent (y0_o0_0 :: y0_o0_1), esz := 5 })]), 1⟩) ?_ (fun J => SemK.cut ?_)
                ·
                  refine brE h ?_ ?_
                  · clear h; intro h291 h
                    obtain rfl := Option.some.inj h
                    refine run_to tmD 4000 [.br true] rfl (by repeat' first | refine And.intro ?_ ?_ | (refine capLe h265 rfl ?_; first | (simp; done) | (simp; omega) | (simp [hc, h260, h263, h272, h273, h291]; done) | (simp [hc, h260, h263, h272, h273, h291]; omega)) | (refine capMax h265 (by decide) ?_; first | (simp; done) | (simp; omega) | (simp [hc, h260, h263, h272, h273, h291]; done) | (simp [hc, h260, h263, h272, h273, h291]; omega)) | exact oblA) ?_
                    refine SemK.weakTo [] (C1 rfl) rfl (by repeat' first | refine And.intro ?_ ?_ | exact wkA) (by repeat' first | refine And.intro ?_ ?_ | exact wkB)
                  · clear h; intro h291 h
                    refine run_to tmD 4000 [.br false, .wrap] rfl (by repeat' first | refine And.intro ?_ ?_ | (refine capLe h265 rfl ?_; first | (simp; done) | (simp; omega) | (simp [hc, h260, h263, h272, h273, h291]; done) | (simp [hc, h260, h263, h272, h273, h291]; omega)) | (refine capMax h265 (by decide) ?_; first | (simp; done) | (simp; omega) | (simp [hc, h260, h263, h272, h273, h291]; done) | (simp [hc, h260, h263, h272, h273, h291]; omega)) | exact oblA) ?_
                    refine SemK.weakTo [] (ih (k + 1) hx1 _ _ _ o h C0 C1) rfl (by repeat' first | refine And.intro ?_ ?_ | exact wkA) (by repeat' first | refine And.intro ?_ ?_ | exact wkB)
                ·
                  clear h
                  have h := h290
                  refine brE h ?_ ?_
                  · clear h; intro h287 h
                    obtain rfl := Option.some.inj h
                    refine run_to tmD 4000 [.el (aI .i64 (List.length y0_5 : Int)), .go false, .go false, .go false, .go false, .go false, .go false, .go false, .go false, .go false, .go false, .go true] rfl (by repeat' first | refine And.intro ?_ ?_ | (refine capLe h265 rfl ?_; first | (simp; done) | (simp; omega) | (simp [hc, h260, h263, h272, h273, h287]; done) | (simp [hc, h260, h263, h272, h273, h287]; omega)) | (refine capMax h265 (by decide) ?_; first | (simp; done) | (simp; omega) | (simp [hc, h260, h263, h272, h273, h287]; done) | (simp [hc, h260, h263, h272, h273, h287]; omega)) | exact oblA) ?_
                    refine SemK.weakTo [] (SemK.glue J) rfl (by repeat' first | refine And.intro ?_ ?_ | exact wkA) (by repeat' first | refine And.intro ?_ ?_ | exact wkB)
                  · clear h; intro h287 h
                    refine bindE h ?_
                    clear h; intro e288 h289 h
                    have qh289 := getI_lt h289
                    obtain rfl := Option.some.inj h
                    refine run_to tmD 4000 [.el (aI .i64 (List.length y0_5 : Int)), .go true, .go true, .go true, .el (enc_GRecord e288), .go true, .go true, .go true, .go true, .el (enc_GEvent x), .go true, .go true, .go true] rfl (by repeat' first | refine And.intro ?_ ?_ | (refine capLe h265 rfl ?_; first | (simp; done) | (simp; omega) | (simp [hc, h260, h263, h272, h273, h287]; done) | (simp [hc, h260, h263, h272, h273, h287]; omega)) | (refine capMax h265 (by decide) ?_; first | (simp; done) | (simp; omega) | (simp [hc, h260, h263, h272, h273, h287]; done) | (simp [hc, h260, h263, h272, h273, h287]; omega)) | exact oblA) ?_
                    refine SemK.weakTo [] (SemK.glue J) rfl (by repeat' first | refine And.intro ?_ ?_ | exact wkA) (by repeat' first | refine And.intro ?_ ?_ | exact wkB)
          ·
            clear h
            have h := h271
            refine brE h ?_ ?_
            · clear h; intro h270 h
              obtain rfl := Option.some.inj h
              refine run_to tmD 4000 [.go false, .go false, .go false, .go false, .go false, .go false] rfl (by repeat' first | refine And.intro ?_ ?_ | (refine capLe h265 rfl ?_; first | (simp; done) | (simp; omega) | (simp [hc, h260, h263, h270]; done) | (simp [hc, h260, h263, h270]; omega)) | (refine capMax h265 (by decide) ?_; first | (simp; done) | (simp; omega) | (simp [hc, h260, h263, h270]; done) | (simp [hc, h260, h263, h270]; omega)) | exact (PureCall.lent (late_Split_ok _ _ h267) (Cvs.cons (cv_ref (es := List.map enc_GEvent ((y0_o0_0 :: y0_o0_1) ++ [x])) rfl (by first | rfl | (simp; done) | (simp; rfl) | (simp [hc, h260, h263]; done) | (simp [hc, h260, h263]; rfl) | (simp [hc, h260, h263, List.map_take, List.map_drop]; done) | (simp [hc, h260, h263, List.map_take, List.map_drop]; rfl)) (by first | rfl | (simp; done) | (simp; omega) | (simp [hc, h260, h263]; done) | (simp [hc, h260, h263]; omega)) (flat_map flat_GEvent ((y0_o0_0 :: y0_o0_1) ++ [x]))) Cvs.nil) (ownTup (allCons (ownO_list (flat_map flat_GRecord _)) (allCons (ownO_list (flat_map flat_GRecord _)) (allCons .sc allNil))))) | exact oblA) ?_
              refine SemK.weakTo [] (SemK.glue J) rfl (by repeat' first | refine And.intro ?_ ?_ | exact wkA) (by repeat' first | refine And.intro ?_ ?_ | exact wkB)
            · clear h; intro h270 h
              obtain rfl := Option.some.inj h
              refine run_to tmD 4000 [.go true, .go true, .el (aI .i64 (List.length v266.1 : Int)), .go true, .go true, .el (aI .i64 (List.length v266.2.1 : Int)), .go true, .wrap, .go true] rfl (by repeat' first | refine And.intro ?_ ?_ | (refine capLe h265 rfl ?_; first | (simp; done) | (simp; omega) | (simp [hc, h260, h263, h270]; done) | (simp [hc, h260, h263, h270]; omega)) | (refine capMax h265 (by decide) ?_; first | (simp; done) | (simp; omega) | (simp [hc, h260, h263, h270]; done) | (simp [hc, h260, h263, h270]; omega)) | exact (PureCall.lent (late_Split_ok _ _ h267) (Cvs.cons (cv_ref (es := List.map enc_GEvent ((y0_o0_0 :: y0_o0_1) ++ [x])) rfl (by first | rfl | (simp; done) | (simp; rfl) | (simp [hc, h260, h263]; done) | (simp [hc, h260, h263]; rfl) | (simp [hc, h260, h263, List.map_take, List.map_drop]; done) | (simp [hc, h260, h263, List.map_take, List.map_drop]; rfl)) (by first | rfl | (simp; done) | (simp; omega) | (simp [hc, h260, h263]; done) | (simp [hc, h260, h263]; omega)) (flat_map flat_GEvent ((y0_o0_0 :: y0_o0_1) ++ [x]))) Cvs.nil) (ownTup (allCons (ownO_list (flat_map flat_GRecord _)) (allCons (ownO_list (flat_map flat_GRecord _)) (allCons .sc allNil))))) | exact oblA) ?_
              refine SemK.weakTo [] (SemK.glue J) rfl (by repeat' first | refine And.intro ?_ ?_ | exact wkA) (by repeat' first | refine And.intro ?_ ?_ | exact wkB)
        · clear h; intro q h
          have h263 : ¬ ((y0_o0_0 :: y0_o0_1) = []) := (fun e => by rw [e] at q; cases q)
          refine bindE h ?_
          clear h; intro u292 h293 h
          refine bindE h ?_
          clear h; intro u294 h295 h
          refine bindE h ?_
          clear h; intro v296 h297 h
          refine bindE h ?_
          clear h; intro j299_72 h301 h
          refine run_to tmD 4000 [.el (aI .i64 (List.length y0_0 : Int)), .br true, .el (enc_GEvent x), .br false, .ld (AV.list true (List.map enc_GEvent (y0_o0_0 :: y0_o0_1))), .el (enc_GEvent x), .no, .pure [(AV.list false (List.map enc_GEvent ((y0_o0_0 :: y0_o0_1) ++ [x])))] (AV.tup [(AV.list true (List.map enc_GRecord v296.1)), (AV.list true (List.map enc_GRecord v296.2.1)), (aI .i64 v296.2.2)]), .stop 15] rfl (by repeat' first | refine And.intro ?_ ?_ | (refine capLe h293 rfl ?_; first | (simp; done) | (simp; omega) | (simp [hc, h260, h263]; done) | (simp [hc, h260, h263]; omega)) | (refine capMax h293 (by decide) ?_; first | (simp; done) | (simp; omega) | (simp [hc, h260, h263]; done) | (simp [hc, h260, h263]; omega)) | (refine capLe h295 rfl ?_; first | (simp; done) | (simp; omega) | (simp [hc, h260, h263]; done) | (simp [hc, h260, h263]; omega)) | (refine capMax h295 (by decide) ?_; first | (simp; done) | (simp; omega) | (simp [hc, h260, h263]; done) | (simp [hc, h260, h263]; omega)) | exact (PureCall.lent (late_Split_ok _ _ h297) (Cvs.cons (cv_ref (es := List.map enc_GEvent ((y0_o0_0 :: y0_o0_1) ++ [x])) rfl (by first | rfl | (simp; done) | (simp; rfl) | (simp [hc, h260, h263]; done) | (simp [hc, h260, h263]; rfl) | (simp [hc, h260, h263, List.map_take, List.map_drop]; done) | (simp [hc, h260, h263, List.map_take, List.map_drop]; rfl)) (by first | rfl | (simp; done) | (simp; omega) | (simp [hc, h260, h263]; done) | (simp [hc, h260, h263]; omega)) (flat_map flat_GEvent ((y0_o0_0 :: y0_o0_1) ++ [x]))) Cvs.nil) (ownTup (allCons (ownO_list (flat_map flat_GRecord _)) (allCons (ownO_list (flat_map flat_GRecord _)) (allCons .sc allNil))))) | exact oblA) ?_
          refine SemK.join (s' := ⟨fr [(0, (AV.list false (List.map enc_GEvent y0_0))), (3, (aB y0_3)), (4, (AV.list true (List.map enc_GRecord y0_4))), (5, (AV.list true (List.map enc_GRecord y0_5))), (7, (aI .i64 y0_7)), (8, (aI .i64 y0_8)), (9, (AV.ref 0 0 (List.length (y0_o0_0 :: y0_o0_1)))), (10, (aI .i64 (k : Int))), (11, (AV.list true (List.map enc_GRecord v296.1))), (72, (aB j299_72))], hp ([(0, { es := List.map enc_GEvent (y0_o0_0 :: y0_o0_1), esz := 5 })]), 1⟩) ?_ (fun J => SemK.cut ?_)
          ·
            refine brE h ?_ ?_
            · clear h; intro h302 h
              obtain rfl := Option.some.inj h
              refine run_to tmD 4000 [.br true] rfl (by repeat' first | refine And.intro ?_ ?_ | (refine capLe h293 rfl ?_; first | (simp; done) | (simp; omega) | (simp [hc, h260, h263, h302]; done) | (simp [hc, h260, h263, h302]; omega)) | (refine capMax h293 (by decide) ?_; first | (simp; done) | (simp; omega) | (simp [hc, h260, h263, h302]; done) | (simp [hc, h260, h263, h302]; omega)) | (refine capLe h295 rfl ?_; first | (simp; done) | (simp; omega) | (simp [hc, h260, h263, h302]; done) | (simp [hc, h260, h263, h302]; omega)) | (refine capMax h295 (by decide) ?_; first | (simp; done) | (simp; omega) | (simp [hc, h260, h263, h302]; done) | (simp [hc, h260, h263, h302]; omega)) | exact oblA) ?_
              refine SemK.weakTo [] (C1 rfl) rfl (by repeat' first | refine And.intro ?_ ?_ | exact wkA) (by repeat' first | refine And.intro ?_ ?_ | exact wkB)
            · clear h; intro h302 h
              refine brE h ?_ ?_
              · clear h; intro h303 h
                refine bindE h ?_
                clear h; intro j307_91 h311 h
                refine run_to tmD 4000 [.br false, .el (aI .i64 (List.length v296.1 : Int)), .br true, .stop 18] rfl (by repeat' first | refine And.intro ?_ ?_ | (refine capLe h293 rfl ?_; first | (simp; done) | (simp; omega) | (simp [hc, h260, h263, h302, h303]; done) | (simp [hc, h260, h263, h302, h303]; omega)) | (refine capMax h293 (by decide) ?_; first | (simp; done) | (simp; omega) | (simp [hc, h260, h263, h302, h303]; done) | (simp [hc, h260, h263, h302, h303]; omega)) | (refine capLe h295 rfl ?_; first | (simp; done) | (simp; omega) | (simp [hc, h260, h263, h302, h303]; done) | (simp [hc, h260, h263, h302, h303]; omega)) | (refine capMax h295 (by decide) ?_; first | (simp; done) | (simp; omega) | (simp [hc, h260, h263, h302, h303]; done) | (simp [hc, h260, h263, h302, h303]; omega)) | exact oblA) ?_
                refine SemK.join (s' := ⟨fr [(0, (AV.list false (List.map enc_GEvent y0_0))), (3, (aB y0_3)), (4, (AV.list true (List.map enc_GRecord y0_4))), (5, (AV.list true (List.map enc_GRecord y0_5))), (7, (aI .i64 y0_7)), (8, (aI .i64 y0_8)), (9, (AV.ref 0 0 (List.length (y0_o0_0 :: y0_o0_1)))), (10, (aI .i64 (k : Int))), (91, (aB j307_91))], hp ([(0, { es := List.map enc_GEvent (y0_o0_0 :: y0_o0_1), esz := 5 })]), 1⟩) ?_ (fun J => SemK.cut ?_)
                ·
                  refine brE h ?_ ?_
                  · clear h; intro h312 h
                    obtain rfl := Option.some.inj h
                    refine run_to tmD 4000 [.br true] rfl (by repeat' first | refine And.intro ?_ ?_ | (refine capLe h293 rfl ?_; first | (simp; done) | (simp; omega) | (simp [hc, h260, h263, h302, h303, h312]; done) | (simp [hc, h260, h263, h302, h303, h312]; omega)) | (refine capMax h293 (by decide) ?_; first | (simp; done) | (simp; omega) | (simp [hc, h260, h263, h302, h303, h312]; done) | (simp [hc, h260, h263, h302, h303, h312]; omega)) | (refine capLe h295 rfl ?_; first | (simp; done) | (simp; omega) | (simp [hc, h260, h263, h302, h303, h312]; done) | (simp [hc, h260, h263, h302, h303, h312]; omega)) | (refine capMax h295 (by decide) ?_; first | (simp; done) | (simp; omega) | (simp [hc, h260, h263, h302, h303, h312]; done) | (simp [hc, h260, h263, h302, h303, h312]; omega)) | exact oblA) ?_
                    refine SemK.weakTo [] (C1 rfl) rfl (by repeat' first | refine And.intro ?_ ?_ | exact wkA) (by repeat' first | refine And.intro ?_ ?_ | exact wkB)
                  · clear h; intro h312 h
                    refine run_to tmD 4000 [.br false, .wrap] rfl (by repeat' first | refine And.intro ?_ ?_ | (refine capLe h293 rfl ?_; first | (simp; done) | (simp; omega) | (simp [hc, h260, h263, h302, h303, h312]; done) | (simp [hc, h260, h263, h302, h303, h312]; omega)) | (refine capMax h293 (by decide) ?_; first | (simp; done) | (simp; omega) | (simp [hc, h260, h263, h302, h303, h312]; done) | (simp [hc, h260, h263, h302, h303, h312]; omega)) | (refine capLe h295 rfl ?_; first | (simp; done) | (simp; omega) | (simp [hc, h260, h263, h302, h303, h312]; done) | (simp [hc, h260, h263, h302, h303, h312]; omega)) | (refine capMax h295 (by decide) ?_; first | (simp; done) | (simp; omega) | (simp [hc, h260, h263, h302, h303, h312]; done) | (simp [hc, h260, h263, h302, h303, h312]; omega)) | exact oblA) ?_
                    refine SemK.weakTo [] (ih (k + 1) hx1 _ _ _ o h C0 C1) rfl (by repeat' first | refine And.intro ?_ ?_ | exact wkA) (by repeat' first | refine And.intro ?_ ?_ | exact wkB)
                ·
                  clear h
                  have h := h311
                  refine brE h ?_ ?_
                  · clear h; intro h308 h
                    obtain rfl := Option.some.inj h
                    refine run_to tmD 4000 [.el (aI .i64 (List.length y0_4 : Int)), .go false, .go false, .go false, .go false, .go false, .go false, .go false, .go false, .go false, .go false, .go true] rfl (by repeat' first | refine And.intro ?_ ?_ | (refine capLe h293 rfl ?_; first | (simp; done) | (simp; omega) | (simp [hc, h260, h263, h302, h303, h308]; done) | (simp [hc, h260, h263, h302, h303, h308]; omega)) | (refine capMax h293 (by decide) ?_; first | (simp; done) | (simp; omega) | (simp [hc, h260, h263, h302, h303, h308]; done) | (simp [hc, h260, h263, h302, h303, h308]; omega)) | (refine capLe h295 rfl ?_; first | (simp; done) | (simp; omega) | (simp [hc, h260, h263, h302, h303, h308]; done) | (simp [hc, h260, h263, h302, h303, h308]; omega)) | (refine capMax h295 (by decide) ?_; first | (simp; done) | (simp; omega) | (simp [hc, h260, h263, h302, h303, h308]; done) | (simp [hc, h260, h263, h302, h303, h308]; omega)) | exact oblA) ?_
                    refine SemK.weakTo [] (SemK.glue J) rfl (by repeat' first | refine And.intro ?_ ?_ | exact wkA) (by repeat' first | refine And.intro ?_ ?_ | exact wkB)
                  · clear h; intro h308 h
                    refine bindE h ?_
                    clear h; intro e309 h310 h
                    have qh310 := getI_lt h310
                    obtain rfl := Option.some.inj h
                    refine run_to tmD 4000 [.el (aI .i64 (List.length y0_4 : Int)), .go true, .go true, .go true, .el (enc_GRecord e309), .go true, .go true, .go true, .go true, .el (enc_GEvent x), .go true, .go true, .go true] rfl (by repeat' first | refine And.intro ?_ ?_ | (refine capLe h293 rfl ?_; first | (simp; done) | (simp; omega) | (simp [hc, h260, h263, h302, h303, h308]; done) | (simp [hc, h260, h263, h302, h303, h308]; omega)) | (refine capMax h293 (by decide) ?_; first | (simp; done) | (simp; omega) | (simp [hc, h260, h263, h302, h303, h308]; done) | (simp [hc, h260, h263, h302, h303, h308]; omega)) | (refine capLe h295 rfl ?_; first | (simp; done) | (simp; omega) | (simp [hc, h260, h263, h302, h303, h308]; done) | (simp [hc, h260, h263, h302, h303, h308]; omega)) | (refine capMax h295 (by decide) ?_; first | (simp; done) | (simp; omega) | (simp [hc, h260, h263, h302, h303, h308]; done) | (simp [hc, h260, h263, h302, h303, h308]; omega)) | exact oblA) ?_
                    refine SemK.weakTo [] (SemK.glue J) rfl (by repeat' first | refine And.intro ?_ ?_ | exact wkA) (by repeat' first | refine And.intro ?_ ?_ | exact wkB)
              · clear h; intro h303 h
                refine bindE h ?_
                clear h; intro j316_109 h320 h
                refine run_to tmD 4000 [.br false, .el (aI .i64 (List.length v296.1 : Int)), .br false, .stop 21] rfl (by repeat' first | refine And.intro ?_ ?_ | (refine capLe h293 rfl ?_; first | (simp; done) | (simp; omega) | (simp [hc, h260, h263, h302, h303]; done) | (simp [hc, h260, h263, h302, h303]; omega)) | (refine capMax h293 (by decide) ?_; first | (simp; done) | (simp; omega) | (simp [hc, h260, h263, h302, h303]; done) | (simp [hc, h260, h263, h302, h303]; omega)) | (refine capLe h295 rfl ?_; first | (simp; done) | (simp; omega) | (simp [hc, h260, h263, h302, h303]; done) | (simp [hc, h260, h263, h302, h303]; omega)) | (refine capMax h295 (by decide) ?_; first | (simp; done) | (simp; omega) | (simp [hc, h260, h263, h302, h303]; done) | (simp [hc, h260, h263, h302, h303]; omega)) | exact oblA) ?_
                refine SemK.join (s' := ⟨fr [(0, (AV.list false (List.map enc_GEvent y0_0))), (3, (aB y0_3)), (4, (AV.list true (List.map enc_GRecord y0_4))), (5, (AV.list true (List.map enc_GRecord y0_5))), (7, (aI .i64 y0_7)), (8, (aI .i64 y0_8)), (9, (AV.ref 0 0 (List.length (y0_o0_0 :: y0_o0_1)))), (10, (aI .i64 (k : Int))), (109, (aB j316_109))], hp ([(0, { es := List.map enc_GEvent (y0_o0_0 :: y0_o0_1), esz := 5 })]), 1⟩) ?_ (fun J => SemK.cut ?_)
                ·
                  refine brE h ?_ ?_
                  · clear h; intro h321 h
                    obtain rfl := Option.some.inj h
                    refine run_to tmD 4000 [.br true] rfl (by repeat' first | refine And.intro ?_ ?_ | (refine capLe h293 rfl ?_; first | (simp; done) | (simp; omega) | (simp [hc, h260, h263, h302, h303, h321]; done) | (simp [hc, h260, h263, h302, h303, h321]; omega)) | (refine capMax h293 (by decide) ?_; first | (simp; done) | (simp; omega) | (simp [hc, h260, h263, h302, h303, h321]; done) | (simp [hc, h260, h263, h302, h303, h321]; omega)) | (refine capLe h295 rfl ?_; first | (simp; done) | (simp; omega) | (simp [hc, h260, h263, h302, h303, h321]; done) | (simp [hc, h260, h263, h302, h303, h321]; omega)) | (refine capMax h295 (by decide) ?_; first | (simp; done) | (simp; omega) | (simp [hc, h260, h263, h302, h303, h321]; done) | (simp [hc, h260, h263, h302, h303, h321]; omega)) | exact oblA) ?_
                    refine SemK.weakTo [] (C1 rfl) rfl (by repeat' first | refine And.intro ?_ ?_ | exact wkA) (by repeat' first | refine And.intro ?_ ?_ | exact wkB)
                  · clear h; intro h321 h
                    refine run_to tmD 4000 [.br false, .wrap] rfl (by repeat' first | refine And.intro ?_ ?_ | (refine capLe h293 rfl ?_; first | (simp; done) | (simp; omega) | (simp [hc, h260, h263, h302, h303, h321]; done) | (simp [hc, h260, h263, h302, h303, h321]; omega)) | (refine capMax h293 (by decide) ?_; first | (simp; done) | (simp; omega) | (simp [hc, h260, h263, h302, h303, h321]; done) | (simp [hc, h260, h263, h302, h303, h321]; omega)) | (refine capLe h295 rfl ?_; first | (simp; done) | (simp; omega) | (simp [hc, h260, h263, h302, h303, h321]; done) | (simp [hc, h260, h263, h302, h303, h321]; omega)) | (refine capMax h295 (by decide) ?_; first | (simp; done) | (simp; omega) | (simp [hc, h260, h263, h302, h303, h321]; done) | (simp [hc, h260, h263, h302, h303, h321]; omega)) | exact oblA) ?_
                    refine SemK.weakTo [] (ih (k + 1) hx1 _ _ _ o h C0 C1) rfl (by repeat' first | refine And.intro ?_ ?_ | exact wkA) (by repeat' first | refine And.intro ?_ ?_ | exact wkB)
                ·
                  clear h
                  have h := h320
                  refine brE h ?_ ?_
                  · clear h; intro h317 h
                    obtain rfl := Option.some.inj h
                    refine run_to tmD 4000 [.el (aI .i64 (List.length y0_5 : Int)), .go false, .go false, .go false, .go false, .go false, .go false, .go false, .go false, .go false, .go false, .go true] rfl (by repeat' first | refine And.intro ?_ ?_ | (refine capLe h293 rfl ?_; first | (simp; done) | (simp; omega) | (simp [hc, h260, h263, h302, h303, h317]; done) | (simp [hc, h260, h263, h302, h303, h317]; omega)) | (refine capMax h293 (by decide) ?_; first | (simp; done) | (simp; omega) | (simp [hc, h260, h263, h302, h303, h317]; done) | (simp [hc, h260, h263, h302, h303, h317]; omega)) | (refine capLe h295 rfl ?_; first | (simp; done) | (simp; omega) | (simp [hc, h260, h263, h302, h303, h317]; done) | (simp [hc, h260, h263, h302, h303, h317]; omega)) | (refine capMax h295 (by decide) ?_; first | (simp; done) | (simp; omega) | (simp [hc, h260, h263, h302, h303, h317]; done) | (simp [hc, h260, h263, h302, h303, h317]; omega)) | exact oblA) ?_
                    refine SemK.weakTo [] (SemK.glue J) rfl (by repeat' first | refine And.intro ?_ ?_ | exact wkA) (by repeat' first | refine And.intro ?_ ?_ | exact wkB)
                  · clear h; intro h317 h
                    refine bindE h ?_
                    clear h; intro e318 h319 h
                    have qh319 := getI_lt h319
                    obtain rfl := Option.some.inj h
                    refine run_to tmD 4000 [.el (aI .i64 (List.length y0_5 : Int)), .go true, .go true, .go true, .el (enc_GRecord e318), .go true, .go true, .go true, .go true, .el (enc_GEvent x), .go true, .go true, .go true] rfl (by repeat' first | refine And.intro ?_ ?_ | (refine capLe h293 rfl ?_; first | (simp; done) | (simp; omega) | (simp [hc, h260, h263, h302, h303, h317]; done) | (simp [hc, h260, h263, h302, h303, h317]; omega)) | (refine capMax h293 (by decide) ?_; first | (simp; done) | (simp; omega) | (simp [hc, h260, h263, h302, h303, h317]; done) | (simp [hc, h260, h263, h302, h303, h317]; omega)) | (refine capLe h295 rfl ?_; first | (simp; done) | (simp; omega) | (simp [hc, h260, h263, h302, h303, h317]; done) | (simp [hc, h260, h263, h302, h303, h317]; omega)) | (refine capMax h295 (by decide) ?_; first | (simp; done) | (simp; omega) | (simp [hc, h260, h263, h302, h303, h317]; done) | (simp [hc, h260, h263, h302, h303, h317]; omega)) | exact oblA) ?_
                    refine SemK.weakTo [] (SemK.glue J) rfl (by repeat' first | refine And.intro ?_ ?_ | exact wkA) (by repeat' first | refine And.intro ?_ ?_ | exact wkB)
          ·
            clear h
            have h := h301
            refine brE h ?_ ?_
            · clear h; intro h300 h
              obtain rfl := Option.some.inj h
              refine run_to tmD 4000 [.go false, .go false, .go false, .go false, .go false, .go false] rfl (by repeat' first | refine And.intro ?_ ?_ | (refine capLe h293 rfl ?_; first | (simp; done) | (simp; omega) | (simp [hc, h260, h263, h300]; done) | (simp [hc, h260, h263, h300]; omega)) | (refine capMax h293 (by decide) ?_; first | (simp; done) | (simp; omega) | (simp [hc, h260, h263, h300]; done) | (simp [hc, h260, h263, h300]; omega)) | (refine capLe h295 rfl ?_; first | (simp; done) | (simp; omega) | (simp [hc, h260, h263, h300]; done) | (simp [hc, h260, h263, h300]; omega)) | (refine capMax h295 (by decide) ?_; first | (simp; done) | (simp; omega) | (simp [hc, h260, h263, h300]; done) | (simp [hc, h260, h263, h300]; omega)) | exact (PureCall.lent (late_Split_ok _ _ h297) (Cvs.cons (cv_ref (es := List.map enc_GEvent ((y0_o0_0 :: y0_o0_1) ++ [x])) rfl (by first | rfl | (simp; done) | (simp; rfl) | (simp [hc, h260, h263]; done) | (simp [hc, h260, h263]; rfl) | (simp [hc, h260, h263, List.map_take, List.map_drop]; done) | (simp [hc, h260, h263, List.map_take, List.map_drop]; rfl)) (by first | rfl | (simp; done) | (simp; omega) | (simp [hc, h260, h263]; done) | (simp [hc, h260, h263]; omega)) (flat_map flat_GEvent ((y0_o0_0 :: y0_o0_1) ++ [x]))) Cvs.nil) (ownTup (allCons (ownO_list (flat_map flat_GRecord _)) (allCons (ownO_list (flat_map flat_GRecord _)) (allCons .sc allNil))))) | exact oblA) ?_
              refine SemK.weakTo [] (SemK.glue J) rfl (by repeat' first | refine And.intro ?_ ?_ | exact wkA) (by repeat' first | refine And.intro ?_ ?_ | exact wkB)
            · clear h; intro h300 h
              obtain rfl := Option.some.inj h
              refine run_to tmD 4000 [.go true, .go true, .el (aI .i64 (List.length v296.1 : Int)), .go true, .go true, .el (aI .i64 (List.length v296.2.1 : Int)), .go true, .wrap, .go true] rfl (by repeat' first | refine And.intro ?_ ?_ | (refine capLe h293 rfl ?_; first | (simp; done) | (simp; omega) | (simp [hc, h260, h263, h300]; done) | (simp [hc, h260, h263, h300]; omega)) | (refine capMax h293 (by decide) ?_; first | (simp; done) | (simp; omega) | (simp [hc, h260, h263, h300]; done) | (simp [hc, h260, h263, h300]; omega)) | (refine capLe h295 rfl ?_; first | (simp; done) | (simp; omega) | (simp [hc, h260, h263, h300]; done) | (simp [hc, h260, h263, h300]; omega)) | (refine capMax h295 (by decide) ?_; first | (simp; done) | (simp; omega) | (simp [hc, h260, h263, h300]; done) | (simp [hc, h260, h263, h300]; omega)) | exact (PureCall.lent (late_Split_ok _ _ h297) (Cvs.cons (cv_ref (es := List.map enc_GEvent ((y0_o0_0 :: y0_o0_1) ++ [x])) rfl (by first | rfl | (simp; done) | (simp; rfl) | (simp [hc, h260, h263]; done) | (simp [hc, h260, h263]; rfl) | (simp [hc, h260, h263, List.map_take, List.map_drop]; done) | (simp [hc, h260, h263, List.map_take, List.map_drop]; rfl)) (by first | rfl | (simp; done) | (simp; omega) | (simp [hc, h260, h263]; done) | (simp [hc, h260, h263]; omega)) (flat_map flat_GEvent ((y0_o0_0 :: y0_o0_1) ++ [x]))) Cvs.nil) (ownTup (allCons (ownO_list (flat_map flat_GRecord _)) (allCons (ownO_list (flat_map flat_GRecord _)) (allCons .sc allNil))))) | exact oblA) ?_
              refine SemK.weakTo [] (SemK.glue J) rfl (by repeat' first | refine And.intro ?_ ?_ | exact wkA) (by repeat' first | refine And.intro ?_ ?_ | exact wkB)

theorem law20_LateOwn_ok (a0 : (List GEvent)) (r : Bool) (h : law20_LateOwn a0 = some r) : Pure Try.prog 6 [(AV.list false (List.map enc_GEvent a0))] (aB r) := by
  refine Pure.sym tyTab_ok fn6 (nt := 125) rfl rfl ?_ (allCons .list allNil)
  unfold law20_LateOwn at h
  refine bindE h ?_
  clear h; intro v1 h2 h
  refine bindE h ?_
  clear h; intro v3 h4 h
  refine brE h ?_ ?_
  · clear h; intro h5 h
    obtain rfl := Option.some.inj h
    refine run_to tmD 4000 [.pure [] (aB v1), .pure [(AV.list false (List.map enc_GEvent a0))] (aI .i64 v3), .br true] rfl (by repeat' first | refine And.intro ?_ ?_ | exact (PureCall.none (law20_alive_ok _ h2) Cvs.nil) | exact (PureCall.none (ref20_Check_ok _ _ h4) (Cvs.cons (cv_list (flat_map flat_GEvent a0)) Cvs.nil)) | exact oblA) ?_
    exact fin_ret rfl .sc
  · clear h; intro h5 h
    refine bindE h ?_
    clear h; intro v6 h7 h
    refine brE h ?_ ?_
    · clear h; intro h8 h
      obtain rfl := Option.some.inj h
      refine run_to tmD 4000 [.pure [] (aB v1), .pure [(AV.list false (List.map enc_GEvent a0))] (aI .i64 v3), .br false, .pure [(AV.list false (List.map enc_GEvent a0))] (AV.tup [(AV.list true (List.map enc_GRecord v6.1)), (AV.list true (List.map enc_GRecord v6.2.1)), (aI .i64 v6.2.2)]), .br true] rfl (by repeat' first | refine And.intro ?_ ?_ | exact (PureCall.none (law20_alive_ok _ h2) Cvs.nil) | exact (PureCall.none (ref20_Check_ok _ _ h4) (Cvs.cons (cv_list (flat_map flat_GEvent a0)) Cvs.nil)) | exact (PureCall.none (late_Split_ok _ _ h7) (Cvs.cons (cv_list (flat_map flat_GEvent a0)) Cvs.nil)) | exact oblA) ?_
      exact fin_ret rfl .sc
    · clear h; intro h8 h
      refine bindE h ?_
      clear h; intro u9 h10 h
      have qh10 := lenOk_le h10
      refine bindE h ?_
      clear h; intro o384 h385 h
      refine run_to tmD 4000 [.pure [] (aB v1), .pure [(AV.list false (List.map enc_GEvent a0))] (aI .i64 v3), .br false, .pure [(AV.list false (List.map enc_GEvent a0))] (AV.tup [(AV.list true (List.map enc_GRecord v6.1)), (AV.list true (List.map enc_GRecord v6.2.1)), (aI .i64 v6.2.2)]), .br false] rfl (by repeat' first | refine And.intro ?_ ?_ | exact (PureCall.none (law20_alive_ok _ h2) Cvs.nil) | exact (PureCall.none (ref20_Check_ok _ _ h4) (Cvs.cons (cv_list (flat_map flat_GEvent a0)) Cvs.nil)) | exact (PureCall.none (late_Split_ok _ _ h7) (Cvs.cons (cv_list (flat_map flat_GEvent a0)) Cvs.nil)) | exact oblA) ?_
      refine SemK.weakTo [] (SemK.cut (law20_LateOwn_L0_ok a0 v1 v6.1 v6.2.1 qh10 a0 0 (by simp) _ _ _ _ h385 ?_ ?_)) rfl (by repeat' first | refine And.intro ?_ ?_ | exact wkA) (by repeat' first | refine And.intro ?_ ?_ | exact wkB)
      · intro z0_0_7 z0_0_8 eo384; subst eo384
        refine SemK.glue ?_
        try dsimp only at h
        refine bindE h ?_
        clear h; intro j388_2 h391 h
        refine run_to tmD 4000 [.stop 24] rfl (by repeat' first | refine And.intro ?_ ?_ | exact oblA) ?_
        refine SemK.join (s' := ⟨fr [(2, (aB j388_2))], hp ([]), 0⟩) ?_ (fun J => SemK.cut ?_)
        ·
          obtain rfl := Option.some.inj h
          refine run_to tmD 4000 [] rfl (by repeat' first | refine And.intro ?_ ?_ | exact oblA) ?_
          exact fin_ret rfl .sc
        ·
          clear h
          have h := h391
          refine brE h ?_ ?_
          · clear h; intro h389 h
            refine brE h ?_ ?_
            · clear h; intro h390 h
              obtain rfl := Option.some.inj h
              refine run_to tmD 4000 [.go true, .go true, .go true, .el (aI .i64 (List.length v6.1 : Int)), .go true, .go true, .go true, .go true, .el (aI .i64 (List.length v6.2.1 : Int)), .go true] rfl (by repeat' first | refine And.intro ?_ ?_ | exact ((bif_t h389 h390)) | exact (bnot_of (bif_t h389 h390)) | exact (absN (bif_t h389 h390)) | exact oblA) ?_
              refine SemK.weakTo [] (SemK.glue J) rfl (by repeat' first | refine And.intro ?_ ?_ | exact wkA) (by repeat' first | refine And.intro ?_ ?_ | exact wkB)
            · clear h; intro h390 h
              obtain rfl := Option.some.inj h
              refine run_to tmD 4000 [.go true, .go true, .go true, .el (aI .i64 (List.length v6.1 : Int)), .go true, .go false, .go false, .go false, .go false] rfl (by repeat' first | refine And.intro ?_ ?_ | exact ((bif_t h389 h390)) | exact (bnot_of (bif_t h389 h390)) | exact (absT (bif_t h389 h390)) | exact oblA) ?_
              refine SemK.weakTo [] (SemK.glue J) rfl (by repeat' first | refine And.intro ?_ ?_ | exact wkA) (by repeat' first | refine And.intro ?_ ?_ | exact wkB)
          · clear h; intro h389 h
            obtain rfl := Option.some.inj h
            refine run_to tmD 4000 [.go false, .go false, .go false, .go false, .go false, .go false, .go false, .go false] rfl (by repeat' first | refine And.intro ?_ ?_ | exact ((bif_f h389 rfl)) | exact (bnot_of (bif_f h389 rfl)) | exact (absT (bif_f h389 rfl)) | exact oblA) ?_
            refine SemK.weakTo [] (SemK.glue J) rfl (by repeat' first | refine And.intro ?_ ?_ | exact wkA) (by repeat' first | refine And.intro ?_ ?_ | exact wkB)
      · intro eo384; subst eo384
        refine SemK.glue ?_
        try dsimp only at h
        obtain rfl := Option.some.inj h
        refine run_to tmD 4000 [] rfl (by repeat' first | refine And.intro ?_ ?_ | exact oblA) ?_
        exact fin_ret rfl .sc

theorem ref20_Same_L0_ok {Q : AExit → St → Mu → Prop} {μ : Mu} (y0_0 : (List GRecord)) (y0_1 : (List GRecord)) (hl : List.length y0_0 ≤ 140737488355328) : ∀ (xs : List GRecord) (k : Nat) (hx : y0_0.drop k = xs) (o : ref20_Same_L0_o) (h : ref20_Same_L0 y0_0 y0_1 xs k  = some o)
    (C0 : o = ref20_Same_L0_o.x0 → SemK Try.prog 26 0 Q (.exit (.exit 0)) [] ⟨fr [], hp ([]), 0⟩ μ)
    (C1 : o = ref20_Same_L0_o.x1 → SemK Try.prog 26 0 Q (.exit .ret) [] ⟨fr [(4, (aB false))], hp ([]), 0⟩ μ),
    SemK Try.prog 26 0 Q (.loop (loopB 0 (bodyOf Try.f19))) [] ⟨fr [(0, (AV.list false (List.map enc_GRecord y0_0))), (1, (AV.list false (List.map enc_GRecord y0_1))), (5, (aI .i64 (k : Int)))], hp ([]), 0⟩ μ := by
  intro xs
  induction xs with
  | nil =>
    intro k hx  o h C0 C1
    have hk := drop_nil hx
    have hc : decide ((k : Int) < (List.length y0_0 : Int)) = false := decide_eq_false (by omega)
    rw [ref20_Same_L0] at h
    refine SemK.round ?_
    obtain rfl := Option.some.inj h
    refine run_to tmD 4000 [.el (aI .i64 (List.length y0_0 : Int)), .br false] rfl (by repeat' first | refine And.intro ?_ ?_ | exact oblA) ?_
    refine SemK.weakTo [] (C0 rfl) rfl (by repeat' first | refine And.intro ?_ ?_ | exact wkA) (by repeat' first | refine And.intro ?_ ?_ | exact wkB)
  | cons x xs ih =>
    intro k hx  o h C0 C1
    obtain ⟨hk, hg, hx1⟩ := drop_cons hx
    have hc : decide ((k : Int) < (List.length y0_0 : Int)) = true := decide_eq_true (by omega)
    rw [ref20_Same_L0] at h
    refine SemK.round ?_
    refine bindE h ?_
    clear h; intro e11 h12 h
    have qh12 := getI_lt h12
    refine brE h ?_ ?_
    · clear h; intro h13 h
      obtain rfl := Option.some.inj h
      refine run_to tmD 4000 [.el (aI .i64 (List.length y0_0 : Int)), .br true, .el (enc_GRecord x), .el (enc_GRecord e11), .br true] rfl (by repeat' first | refine And.intro ?_ ?_ | exact oblA) ?_
      refine SemK.weakTo [] (C1 rfl) rfl (by repeat' first | refine And.intro ?_ ?_ | exact wkA) (by repeat' first | refine And.intro ?_ ?_ | exact wkB)
    · clear h; intro h13 h
      refine run_to tmD 4000 [.el (aI .i64 (List.length y0_0 : Int)), .br true, .el (enc_GRecord x), .el (enc_GRecord e11), .br false] rfl (by repeat' first | refine And.intro ?_ ?_ | exact oblA) ?_
      refine SemK.weakTo [] (ih (k + 1) hx1  o h C0 C1) rfl (by repeat' first | refine And.intro ?_ ?_ | exact wkA) (by repeat' first | refine And.intro ?_ ?_ | exact wkB)

theorem ref20_Same_ok (a0 : (List GRecord)) (a1 : (List GRecord)) (r : Bool) (h : ref20_Same a0 a1 = some r) : Pure Try.prog 19 [(AV.list false (List.map enc_GRecord a0)), (AV.list false (List.map enc_GRecord a1))] (aB r) := by
  refine Pure.sym tyTab_ok fn19 (nt := 26) rfl rfl ?_ (allCons .list (allCons .list allNil))
  unfold ref20_Same at h
  refine brE h ?_ ?_
  · clear h; intro h1 h
    obtain rfl := Option.some.inj h
    refine run_to tmD 4000 [.el (aI .i64 (List.length a0 : Int)), .el (aI .i64 (List.length a1 : Int)), .br true] rfl (by repeat' first | refine And.intro ?_ ?_ | exact oblA) ?_
    exact fin_ret rfl .sc
  · clear h; intro h1 h
    refine bindE h ?_
    clear h; intro u2 h3 h
    have qh3 := lenOk_le h3
    refine bindE h ?_
    clear h; intro o14 h15 h
    refine run_to tmD 4000 [.el (aI .i64 (List.length a0 : Int)), .el (aI .i64 (List.length a1 : Int)), .br false] rfl (by repeat' first | refine And.intro ?_ ?_ | exact oblA) ?_
    refine SemK.weakTo [] (SemK.cut (ref20_Same_L0_ok a0 a1 qh3 a0 0 (by simp) _ h15 ?_ ?_)) rfl (by repeat' first | refine And.intro ?_ ?_ | exact wkA) (by repeat' first | refine And.intro ?_ ?_ | exact wkB)
    · intro eo14; subst eo14
      refine SemK.glue ?_
      try dsimp only at h
      obtain rfl := Option.some.inj h
      refine run_to tmD 4000 [] rfl (by repeat' first | refine And.intro ?_ ?_ | exact oblA) ?_
      exact fin_ret rfl .sc
    · intro eo14; subst eo14
      refine SemK.glue ?_
      try dsimp only at h
      obtain rfl := Option.some.inj h
      refine run_to tmD 4000 [] rfl (by repeat' first | refine And.intro ?_ ?_ | exact oblA) ?_
      exact fin_ret rfl .sc

theorem law20_LateGrows_L0_ok {Q : AExit → St → Mu → Prop} {μ : Mu} (y0_0 : (List GEvent)) (y0_1 : Int) (y0_2 : Int) (y0_7 : Bool) : ∀ (n : Nat) (y0_8 : Int) (y0_9 : Int) (o : law20_LateGrows_L0_o) (h : law20_LateGrows_L0 y0_0 y0_1 y0_2 y0_7 n y0_8 y0_9 = some o)
    (C0 : o = law20_LateGrows_L0_o.x0 → SemK Try.prog 151 0 Q (.exit .ret) [] ⟨fr [(6, (aB false))], hp ([]), 0⟩ μ)
    (C1 : ∀ (z0_1_8 : Int), o = law20_LateGrows_L0_o.x1 z0_1_8 → SemK Try.prog 151 0 Q (.exit (.exit 0)) [] ⟨fr [(0, (AV.list false (List.map enc_GEvent y0_0))), (1, (aI .i64 y0_1)), (2, (aI .i64 y0_2)), (7, (aB y0_7)), (8, (aI .i64 z0_1_8))], hp ([]), 0⟩ μ),
    SemK Try.prog 151 0 Q (.loop (loopB 0 (bodyOf Try.f7))) [] ⟨fr [(0, (AV.list false (List.map enc_GEvent y0_0))), (1, (aI .i64 y0_1)), (2, (aI .i64 y0_2)), (7, (aB y0_7)), (8, (aI .i64 y0_8)), (9, (aI .i64 y0_9))], hp ([]), 0⟩ μ := by
  intro n
  induction n with
  | zero => intro y0_8 y0_9 o h C0 C1; cases h
  | succ n ih =>
    intro y0_8 y0_9 o h C0 C1
    rw [law20_LateGrows_L0] at h
    refine SemK.round ?_
    refine brE h ?_ ?_
    · clear h; intro h31 h
      refine bindE h ?_
      clear h; intro m32 h33 h
      obtain ⟨qah33, qbh33, qch33, qh33⟩ := sliceI_ok h33
      refine bindE h ?_
      clear h; intro v34 h35 h
      refine brE h ?_ ?_
      · clear h; intro h36 h
        obtain rfl := Option.some.inj h
        refine run_to tmD 4000 [.el (aI .i64 (List.length y0_0 : Int)), .br true, .ld (AV.list false (List.map enc_GEvent m32)), .pure [(AV.list false (List.map enc_GEvent m32))] (AV.tup [(aI .i64 v34.1), (aI .i64 v34.2)]), .br true] rfl (by repeat' first | refine And.intro ?_ ?_ | (simp at qah33 qbh33 qch33 ⊢; omega) | (rw [qh33]; simp [List.map_take, List.map_drop]; done) | exact (PureCall.none (late_Mark_ok _ _ h35) (Cvs.cons (cv_list (flat_map flat_GEvent m32)) Cvs.nil)) | exact oblA) ?_
        refine SemK.weakTo [] (C0 rfl) rfl (by repeat' first | refine And.intro ?_ ?_ | exact wkA) (by repeat' first | refine And.intro ?_ ?_ | exact wkB)
      · clear h; intro h36 h
        refine run_to tmD 4000 [.el (aI .i64 (List.length y0_0 : Int)), .br true, .ld (AV.list false (List.map enc_GEvent m32)), .pure [(AV.list false (List.map enc_GEvent m32))] (AV.tup [(aI .i64 v34.1), (aI .i64 v34.2)]), .br false, .wrap] rfl (by repeat' first | refine And.intro ?_ ?_ | (simp at qah33 qbh33 qch33 ⊢; omega) | (rw [qh33]; simp [List.map_take, List.map_drop]; done) | exact (PureCall.none (late_Mark_ok _ _ h35) (Cvs.cons (cv_list (flat_map flat_GEvent m32)) Cvs.nil)) | exact oblA) ?_
        refine SemK.weakTo [] (ih  _ _ o h C0 C1) rfl (by repeat' first | refine And.intro ?_ ?_ | exact wkA) (by repeat' first | refine And.intro ?_ ?_ | exact wkB)
    · clear h; intro h31 h
      obtain rfl := Option.some.inj h
      refine run_to tmD 4000 [.el (aI .i64 (List.length y0_0 : Int)), .br false] rfl (by repeat' first | refine And.intro ?_ ?_ | exact oblA) ?_
      refine SemK.weakTo [] (C1 _ rfl) rfl (by repeat' first | refine And.intro ?_ ?_ | exact wkA) (by repeat' first | refine And.intro ?_ ?_ | exact wkB)
end Go.Av.Try
