/- Printed by decomp.py: that the program computes the functions. -/
import Derived.Test.YtioookhnoobpgaaDFun
import Derived.Test.YtioookhnoobpgaaTabT
import Derived.Test.YtioookhnoobpgaaKeyR
set_option linter.all false
set_option linter.unusedVariables false
namespace Go.Av.Try
open Go.Proofs Go.D
set_option maxRecDepth 10000
set_option maxHeartbeats 4000000

theorem tmD : TyOk Try.prog tyTab.find ∧ Try.prog.follows .mixedOrders = true := ⟨tyTab_ok, by kernel_rfl⟩

theorem fn3 : FnOk Try.prog 3 Try.f3 (bodyOf Try.f3) := ⟨Try.func3, by kernel_rfl, rfl⟩
theorem fn10 : FnOk Try.prog 10 Try.f10 (bodyOf Try.f10) := ⟨Try.func10, by kernel_rfl, rfl⟩
theorem fn11 : FnOk Try.prog 11 Try.f11 (bodyOf Try.f11) := ⟨Try.func11, by kernel_rfl, rfl⟩
theorem fn12 : FnOk Try.prog 12 Try.f12 (bodyOf Try.f12) := ⟨Try.func12, by kernel_rfl, rfl⟩
theorem fn13 : FnOk Try.prog 13 Try.f13 (bodyOf Try.f13) := ⟨Try.func13, by kernel_rfl, rfl⟩
theorem fn14 : FnOk Try.prog 14 Try.f14 (bodyOf Try.f14) := ⟨Try.func14, by kernel_rfl, rfl⟩
theorem fn27 : FnOk Try.prog 27 Try.f27 (bodyOf Try.f27) := ⟨Try.func27, by kernel_rfl, rfl⟩
theorem fn28 : FnOk Try.prog 28 Try.f28 (bodyOf Try.f28) := ⟨Try.func28, by kernel_rfl, rfl⟩
theorem fn29 : FnOk Try.prog 29 Try.f29 (bodyOf Try.f29) := ⟨Try.func29, by kernel_rfl, rfl⟩
theorem fn30 : FnOk Try.prog 30 Try.f30 (bodyOf Try.f30) := ⟨Try.func30, by kernel_rfl, rfl⟩
theorem fn31 : FnOk Try.prog 31 Try.f31 (bodyOf Try.f31) := ⟨Try.func31, by kernel_rfl, rfl⟩
theorem ref40_Great_ok (a0 : GOutputs) (r : Bool) (h : ref40_Great a0 = some r) : Pure Try.prog 10 [(enc_GOutputs false a0)] (aB r) := by
  refine Pure.sym tyTab_ok fn10 (nt := 37) rfl rfl ?_ (allCons (free_GOutputs false _ _).1 allNil)
  unfold ref40_Great at h
  refine bindE h ?_
  clear h; intro j9_2 h18 h
  refine run_to tmD 4000 [.stop 1] rfl (by repeat' first | refine And.intro ?_ ?_ | exact oblA) ?_
  refine SemK.join (s' := ⟨fr [(2, (aB j9_2))], hp ([]), 0⟩) ?_ (fun J => SemK.cut ?_)
  ·
    obtain rfl := Option.some.inj h
    refine run_to tmD 4000 [] rfl (by repeat' first | refine And.intro ?_ ?_ | exact oblA) ?_
    refine fin_ret rfl ?_
    exact .sc
  ·
    clear h
    have h := h18
    refine brE h ?_ ?_
    · clear h; intro h10 h
      refine brE h ?_ ?_
      · clear h; intro h11 h
        obtain rfl := Option.some.inj h
        refine run_to tmD 4000 [.el (aI .i64 (List.length a0.Rows : Int)), .go true, .go true, .go true, .el (aI .i64 (List.length a0.Rows : Int)), .go true, .go false, .go false, .go false, .go false, .go false, .go false, .go false, .go false, .go false, .go false, .go false, .go false, .go false, .go false, .go false, .go false, .go false, .go false] rfl (by repeat' first | refine And.intro ?_ ?_ | exact ((bif_t h10 h11)) | exact (bnot_of (bif_t h10 h11)) | exact (absN (bif_t h10 h11)) | exact ((bif_t (bif_t h10 h11) rfl)) | exact (bnot_of (bif_t (bif_t h10 h11) rfl)) | exact (absN (bif_t (bif_t h10 h11) rfl)) | exact ((bif_t (bif_t (bif_t h10 h11) rfl) rfl)) | exact (bnot_of (bif_t (bif_t (bif_t h10 h11) rfl) rfl)) | exact (absN (bif_t (bif_t (bif_t h10 h11) rfl) rfl)) | exact oblA) ?_
        refine SemK.weakTo [] (SemK.glue J) rfl (by repeat' first | refine And.intro ?_ ?_ | exact wkA) (by repeat' first | refine And.intro ?_ ?_ | exact wkB)
      · clear h; intro h11 h
        refine run_to tmD 4000 [.el (aI .i64 (List.length a0.Rows : Int)), .go true, .go true, .go true, .el (aI .i64 (List.length a0.Rows : Int)), .go true, .go true, .go true, .go true, .el (aI .i64 (List.length a0.Rows : Int)), .go true, .stop 0] rfl (by repeat' first | refine And.intro ?_ ?_ | exact ((bif_t h10 h11)) | exact (bnot_of (bif_t h10 h11)) | exact (absT (bif_t h10 h11)) | exact oblA) ?_
        refine brE h ?_ ?_
        · clear h; intro h12 h
          obtain rfl := Option.some.inj h
          refine run_to tmD 4000 [.go false, .go false, .go false, .go false, .go false, .go false, .go false, .go false, .go false, .go false, .go false, .go false, .go false, .go false] rfl (by repeat' first | refine And.intro ?_ ?_ | exact ((bif_f (bif_t h10 h11) h12)) | exact (bnot_of (bif_f (bif_t h10 h11) h12)) | exact (absN (bif_f (bif_t h10 h11) h12)) | exact ((bif_t (bif_f (bif_t h10 h11) h12) rfl)) | exact (bnot_of (bif_t (bif_f (bif_t h10 h11) h12) rfl)) | exact (absN (bif_t (bif_f (bif_t h10 h11) h12) rfl)) | exact oblA) ?_
          refine SemK.weakTo [] (SemK.glue J) rfl (by repeat' first | refine And.intro ?_ ?_ | exact wkA) (by repeat' first | refine And.intro ?_ ?_ | exact wkB)
        · clear h; intro h12 h
          refine brE h ?_ ?_
          · clear h; intro h13 h
            refine run_to tmD 4000 [.go true, .go true, .go true, .el (aI .i64 (List.length a0.Late : Int)), .go true, .go true, .go true, .go true, .go true, .el (aI .i64 (List.length a0.Late : Int)), .go true, .go true, .stop 0] rfl (by repeat' first | refine And.intro ?_ ?_ | exact ((bif_f (bif_t h10 h11) h12)) | exact (bnot_of (bif_f (bif_t h10 h11) h12)) | exact (absT (bif_f (bif_t h10 h11) h12)) | exact oblA) ?_
            refine brE h ?_ ?_
            · clear h; intro h14 h
              obtain rfl := Option.some.inj h
              refine run_to tmD 4000 [.go false, .go false, .go false, .go false] rfl (by repeat' first | refine And.intro ?_ ?_ | exact ((bif_f (bif_f (bif_t h10 h11) h12) (bif_t h13 h14))) | exact (bnot_of (bif_f (bif_f (bif_t h10 h11) h12) (bif_t h13 h14))) | exact (absN (bif_f (bif_f (bif_t h10 h11) h12) (bif_t h13 h14))) | exact oblA) ?_
              refine SemK.weakTo [] (SemK.glue J) rfl (by repeat' first | refine And.intro ?_ ?_ | exact wkA) (by repeat' first | refine And.intro ?_ ?_ | exact wkB)
            · clear h; intro h14 h
              obtain rfl := Option.some.inj h
              refine run_to tmD 4000 [.go true, .go true, .go true, .el (aI .i64 (List.length a0.Late : Int)), .go true] rfl (by repeat' first | refine And.intro ?_ ?_ | exact ((bif_f (bif_f (bif_t h10 h11) h12) (bif_t h13 h14))) | exact (bnot_of (bif_f (bif_f (bif_t h10 h11) h12) (bif_t h13 h14))) | exact (absT (bif_f (bif_f (bif_t h10 h11) h12) (bif_t h13 h14))) | exact oblA) ?_
              refine SemK.weakTo [] (SemK.glue J) rfl (by repeat' first | refine And.intro ?_ ?_ | exact wkA) (by repeat' first | refine And.intro ?_ ?_ | exact wkB)
          · clear h; intro h13 h
            obtain rfl := Option.some.inj h
            refine run_to tmD 4000 [.go true, .go true, .go true, .el (aI .i64 (List.length a0.Late : Int)), .go true, .go true, .go false, .go false, .go false, .go false, .go true, .go true, .go true, .go true, .el (aI .i64 (List.length a0.Late : Int)), .go true] rfl (by repeat' first | refine And.intro ?_ ?_ | exact ((bif_f (bif_t h10 h11) h12)) | exact (bnot_of (bif_f (bif_t h10 h11) h12)) | exact (absT (bif_f (bif_t h10 h11) h12)) | exact ((bif_f (bif_f (bif_t h10 h11) h12) (bif_f h13 rfl))) | exact (bnot_of (bif_f (bif_f (bif_t h10 h11) h12) (bif_f h13 rfl))) | exact (absT (bif_f (bif_f (bif_t h10 h11) h12) (bif_f h13 rfl))) | exact oblA) ?_
            refine SemK.weakTo [] (SemK.glue J) rfl (by repeat' first | refine And.intro ?_ ?_ | exact wkA) (by repeat' first | refine And.intro ?_ ?_ | exact wkB)
    · clear h; intro h10 h
      refine run_to tmD 4000 [.el (aI .i64 (List.length a0.Rows : Int)), .go false, .go false, .go false, .go false, .go true, .go true, .go true, .el (aI .i64 (List.length a0.Rows : Int)), .go true, .stop 0] rfl (by repeat' first | refine And.intro ?_ ?_ | exact ((bif_f h10 rfl)) | exact (bnot_of (bif_f h10 rfl)) | exact (absT (bif_f h10 rfl)) | exact oblA) ?_
      refine brE h ?_ ?_
      · clear h; intro h15 h
        obtain rfl := Option.some.inj h
        refine run_to tmD 4000 [.go false, .go false, .go false, .go false, .go false, .go false, .go false, .go false, .go false, .go false, .go false, .go false, .go false, .go false] rfl (by repeat' first | refine And.intro ?_ ?_ | exact ((bif_f (bif_f h10 rfl) h15)) | exact (bnot_of (bif_f (bif_f h10 rfl) h15)) | exact (absN (bif_f (bif_f h10 rfl) h15)) | exact ((bif_t (bif_f (bif_f h10 rfl) h15) rfl)) | exact (bnot_of (bif_t (bif_f (bif_f h10 rfl) h15) rfl)) | exact (absN (bif_t (bif_f (bif_f h10 rfl) h15) rfl)) | exact oblA) ?_
        refine SemK.weakTo [] (SemK.glue J) rfl (by repeat' first | refine And.intro ?_ ?_ | exact wkA) (by repeat' first | refine And.intro ?_ ?_ | exact wkB)
      · clear h; intro h15 h
        refine brE h ?_ ?_
        · clear h; intro h16 h
          refine run_to tmD 4000 [.go true, .go true, .go true, .el (aI .i64 (List.length a0.Late : Int)), .go true, .go true, .go true, .go true, .go true, .el (aI .i64 (List.length a0.Late : Int)), .go true, .go true, .stop 0] rfl (by repeat' first | refine And.intro ?_ ?_ | exact ((bif_f (bif_f h10 rfl) h15)) | exact (bnot_of (bif_f (bif_f h10 rfl) h15)) | exact (absT (bif_f (bif_f h10 rfl) h15)) | exact oblA) ?_
          refine brE h ?_ ?_
          · clear h; intro h17 h
            obtain rfl := Option.some.inj h
            refine run_to tmD 4000 [.go false, .go false, .go false, .go false] rfl (by repeat' first | refine And.intro ?_ ?_ | exact ((bif_f (bif_f (bif_f h10 rfl) h15) (bif_t h16 h17))) | exact (bnot_of (bif_f (bif_f (bif_f h10 rfl) h15) (bif_t h16 h17))) | exact (absN (bif_f (bif_f (bif_f h10 rfl) h15) (bif_t h16 h17))) | exact oblA) ?_
            refine SemK.weakTo [] (SemK.glue J) rfl (by repeat' first | refine And.intro ?_ ?_ | exact wkA) (by repeat' first | refine And.intro ?_ ?_ | exact wkB)
          · clear h; intro h17 h
            obtain rfl := Option.some.inj h
            refine run_to tmD 4000 [.go true, .go true, .go true, .el (aI .i64 (List.length a0.Late : Int)), .go true] rfl (by repeat' first | refine And.intro ?_ ?_ | exact ((bif_f (bif_f (bif_f h10 rfl) h15) (bif_t h16 h17))) | exact (bnot_of (bif_f (bif_f (bif_f h10 rfl) h15) (bif_t h16 h17))) | exact (absT (bif_f (bif_f (bif_f h10 rfl) h15) (bif_t h16 h17))) | exact oblA) ?_
            refine SemK.weakTo [] (SemK.glue J) rfl (by repeat' first | refine And.intro ?_ ?_ | exact wkA) (by repeat' first | refine And.intro ?_ ?_ | exact wkB)
        · clear h; intro h16 h
          obtain rfl := Option.some.inj h
          refine run_to tmD 4000 [.go true, .go true, .go true, .el (aI .i64 (List.length a0.Late : Int)), .go true, .go true, .go false, .go false, .go false, .go false, .go true, .go true, .go true, .go true, .el (aI .i64 (List.length a0.Late : Int)), .go true] rfl (by repeat' first | refine And.intro ?_ ?_ | exact ((bif_f (bif_f h10 rfl) h15)) | exact (bnot_of (bif_f (bif_f h10 rfl) h15)) | exact (absT (bif_f (bif_f h10 rfl) h15)) | exact ((bif_f (bif_f (bif_f h10 rfl) h15) (bif_f h16 rfl))) | exact (bnot_of (bif_f (bif_f (bif_f h10 rfl) h15) (bif_f h16 rfl))) | exact (absT (bif_f (bif_f (bif_f h10 rfl) h15) (bif_f h16 rfl))) | exact oblA) ?_
          refine SemK.weakTo [] (SemK.glue J) rfl (by repeat' first | refine And.intro ?_ ?_ | exact wkA) (by repeat' first | refine And.intro ?_ ?_ | exact wkB)

theorem prefix_check_L0_ok {Q : AExit → St → Mu → Prop} {μ : Mu} (y0_5 : (List GOutputs)) (hl : List.length y0_5 ≤ 140737488355328) : ∀ (xs : List GOutputs) (k : Nat) (hx : y0_5.drop k = xs) (o : prefix_check_L0_o) (h : prefix_check_L0 y0_5 xs k  = some o)
    (C0 : o = prefix_check_L0_o.x0 → SemK Try.prog 22 0 Q (.exit (.exit 0)) [] ⟨fr [], hp ([]), 0⟩ μ)
    (C1 : o = prefix_check_L0_o.x1 → SemK Try.prog 22 0 Q (.exit .ret) [] ⟨fr [(2, (aI .i64 4))], hp ([]), 0⟩ μ),
    SemK Try.prog 22 0 Q (.loop (loopB 0 (bodyOf Try.f27))) [] ⟨fr [(5, (AV.list false (List.map (enc_GOutputs false) y0_5))), (6, (aI .i64 (List.length y0_5 : Int))), (7, (aI .i64 (k : Int)))], hp ([]), 0⟩ μ := by
  intro xs
  induction xs with
  | nil =>
    intro k hx  o h C0 C1
    have hk := drop_nil hx
    have hc : decide ((k : Int) < (List.length y0_5 : Int)) = false := decide_eq_false (by omega)
    rw [prefix_check_L0] at h
    refine SemK.round ?_
    obtain rfl := Option.some.inj h
    refine run_to tmD 4000 [.br false] rfl (by repeat' first | refine And.intro ?_ ?_ | exact oblA) ?_
    refine SemK.weakTo [] (C0  rfl) rfl (by repeat' first | refine And.intro ?_ ?_ | exact wkA) (by repeat' first | refine And.intro ?_ ?_ | exact wkB)
  | cons x xs ih =>
    intro k hx  o h C0 C1
    obtain ⟨hk, hg, hx1⟩ := drop_cons hx
    have hc : decide ((k : Int) < (List.length y0_5 : Int)) = true := decide_eq_true (by omega)
    rw [prefix_check_L0] at h
    refine SemK.round ?_
    refine bindE h ?_
    clear h; intro j15_20 h17 h
    refine run_to tmD 4000 [.br true, .el (enc_GOutputs false x), .stop 4] rfl (by repeat' first | refine And.intro ?_ ?_ | exact oblA) ?_
    refine SemK.join (s' := ⟨fr [(5, (AV.list false (List.map (enc_GOutputs false) y0_5))), (6, (aI .i64 (List.length y0_5 : Int))), (7, (aI .i64 (k : Int))), (20, (aB j15_20))], hp ([]), 0⟩) ?_ (fun J => SemK.cut ?_)
    ·
      refine brE h ?_ ?_
      · clear h; intro h18 h
        obtain rfl := Option.some.inj h
        refine run_to tmD 4000 [.br true] rfl (by repeat' first | refine And.intro ?_ ?_ | exact oblA) ?_
        refine SemK.weakTo [] (C1  rfl) rfl (by repeat' first | refine And.intro ?_ ?_ | exact wkA) (by repeat' first | refine And.intro ?_ ?_ | exact wkB)
      · clear h; intro h18 h
        refine run_to tmD 4000 [.br false] rfl (by repeat' first | refine And.intro ?_ ?_ | exact oblA) ?_
        refine SemK.weakTo [] (ih (k + 1) hx1  o h C0 C1) rfl (by repeat' first | refine And.intro ?_ ?_ | exact wkA) (by repeat' first | refine And.intro ?_ ?_ | exact wkB)
    ·
      clear h
      have h := h17
      refine brE h ?_ ?_
      · clear h; intro h16 h
        obtain rfl := Option.some.inj h
        refine run_to tmD 4000 [.el (aI .i64 (List.length x.Rows : Int)), .go false, .go false, .go false, .go false] rfl (by repeat' first | refine And.intro ?_ ?_ | exact oblA) ?_
        refine SemK.weakTo [] (SemK.glue J) rfl (by repeat' first | refine And.intro ?_ ?_ | exact wkA) (by repeat' first | refine And.intro ?_ ?_ | exact wkB)
      · clear h; intro h16 h
        obtain rfl := Option.some.inj h
        refine run_to tmD 4000 [.el (aI .i64 (List.length x.Rows : Int)), .go true, .go true, .go true, .el (aI .i64 (List.length x.Late : Int)), .go true] rfl (by repeat' first | refine And.intro ?_ ?_ | exact oblA) ?_
        refine SemK.weakTo [] (SemK.glue J) rfl (by repeat' first | refine And.intro ?_ ?_ | exact wkA) (by repeat' first | refine And.intro ?_ ?_ | exact wkB)

theorem prefix_check_ok (a0 : (List GOutputs)) (r : Int) (h : prefix_check a0 = some r) : Pure Try.prog 27 [(AV.list false (List.map (enc_GOutputs false) a0))] (aI .i64 r) := by
  refine Pure.sym tyTab_ok fn27 (nt := 22) rfl rfl ?_ (allCons .list allNil)
  unfold prefix_check at h
  refine bindE h ?_
  clear h; intro u1 h2 h
  have qh2 := lenOk_le h2
  refine bindE h ?_
  clear h; intro o19 h20 h
  refine run_to tmD 4000 [.el (aI .i64 (List.length a0 : Int))] rfl (by repeat' first | refine And.intro ?_ ?_ | exact oblA) ?_
  refine SemK.weakTo [] (SemK.cut (prefix_check_L0_ok a0 qh2 a0 0 (by simp) _ h20 ?_ ?_)) rfl (by repeat' first | refine And.intro ?_ ?_ | exact wkA) (by repeat' first | refine And.intro ?_ ?_ | exact wkB)
  · intro eo19; subst eo19
    refine SemK.glue ?_
    try dsimp only at h
    obtain rfl := Option.some.inj h
    refine run_to tmD 4000 [] rfl (by repeat' first | refine And.intro ?_ ?_ | exact oblA) ?_
    refine fin_ret rfl ?_
    exact .sc
  · intro eo19; subst eo19
    refine SemK.glue ?_
    try dsimp only at h
    obtain rfl := Option.some.inj h
    refine run_to tmD 4000 [] rfl (by repeat' first | refine And.intro ?_ ?_ | exact oblA) ?_
    refine fin_ret rfl ?_
    exact .sc

theorem prefix_within_Row_L0 {Q : AExit → St → Mu → Prop} {μ : Mu} (b : Nat) (a l : List GRow) (hl : List.length l ≤ 140737488355328) (hw : ∀ y ∈ l, wf_GRow y) : ∀ (xs : List GRow) (k : Nat) (hx : l.drop k = xs) (ks : List (GRow × Int)) (hK : Keyd Try.prog 62 (ks.map (kvE rowV)))
    (C : Keyd Try.prog 62 ((addAll ks xs).map (kvE rowV)) → SemK Try.prog 41 0 Q (.exit (.exit 0)) [] ⟨fr [(0, AV.list false (List.map enc_GRow a)), (5, .sc (.map (some b)))], hp [], 0⟩ ((b, (addAll ks xs).map (kvE rowV)) :: μ)),
    SemK Try.prog 41 0 Q (.loop (loopB 0 (bodyOf Try.f28))) [] ⟨fr [(0, AV.list false (List.map enc_GRow a)), (5, .sc (.map (some b))), (11, AV.list false (List.map enc_GRow l)), (12, aI .i64 (List.length l : Int)), (13, aI .i64 (k : Int))], hp [], 0⟩ ((b, ks.map (kvE rowV)) :: μ) := by
  intro xs
  induction xs with
  | nil =>
    intro k hx ks hK C
    have hk := drop_nil hx
    have hc : decide ((k : Int) < (List.length l : Int)) = false := decide_eq_false (by omega)
    refine SemK.round ?_
    refine run_to tmD 4000 [.br false] rfl (by repeat' first | refine And.intro ?_ ?_ | exact hc | exact oblA) ?_
    exact SemK.weakTo [] (C hK) rfl (by repeat' first | refine And.intro ?_ ?_ | exact wkA) (by repeat' first | refine And.intro ?_ ?_ | exact wkB)
  | cons x xs ih =>
    intro k hx ks hK C
    obtain ⟨hk, hg, hx1⟩ := drop_cons hx
    obtain ⟨lk, hlk⟩ := keyRow x (hw x (List.mem_of_getElem? hg))
    have hc : decide ((k : Int) < (List.length l : Int)) = true := decide_eq_true (by omega)
    refine SemK.round ?_
    refine run_to tmD 4000 [.br true, .el (enc_GRow x), .stop 5] rfl (by repeat' first | refine And.intro ?_ ?_ | exact hc | exact ixm hg | exact oblA) ?_
    refine SemK.drawnInc (kv := rowV x) (z := .int .i64 0) (zn := getA x ks) (xv := .int .i64 (IntKind.i64.wrap (getA x ks + 1))) 2 tmD [] rfl rfl rfl rfl rfl (by repeat' first | refine And.intro ?_ ?_ | exact hc | exact oblA) rfl (by constructor <;> decide +kernel) rfl rfl rfl rfl rfl rfl rfl rfl rfl rfl rfl rfl rfl rfl rfl rfl rfl rfl rfl rfl law62 (fun _ => rfl) rfl rfl rfl (by exact trivial) (by exact trivial) hlk hK (kvE_get rowV_inj x ks) rfl (fun _ _ => ?_)
    have hK2 := hK.set (v := .int .i64 (IntKind.i64.wrap (getA x ks + 1))) hlk
    rw [kvE_set rowV_inj] at hK2
    rw [kvE_set rowV_inj]
    refine run_to tmD 4000 [] rfl (by repeat' first | refine And.intro ?_ ?_ | exact hc | exact oblA) ?_
    exact SemK.weakTo [] (ih (k + 1) hx1 _ hK2 C) rfl (by repeat' first | refine And.intro ?_ ?_ | exact wkA) (by repeat' first | refine And.intro ?_ ?_ | exact wkB)
theorem prefix_within_Row_L1 {Q : AExit → St → Mu → Prop} {μ : Mu} (b : Nat) (l : List GRow) (hl : List.length l ≤ 140737488355328) (hw : ∀ y ∈ l, wf_GRow y) : ∀ (xs : List GRow) (k : Nat) (hx : l.drop k = xs) (ks : List (GRow × Int)) (hK : Keyd Try.prog 62 (ks.map (kvE rowV)))
    (C0 : subAll ks xs = true → ∀ es, SemK Try.prog 41 0 Q (.exit (.exit 2)) [] ⟨fr [], hp [], 0⟩ ((b, es) :: μ)) (C1 : subAll ks xs = false → ∀ es, SemK Try.prog 41 0 Q (.exit .ret) [] ⟨fr [(4, aB false)], hp [], 0⟩ ((b, es) :: μ)),
    SemK Try.prog 41 0 Q (.loop (loopB 1 (bodyOf Try.f28))) [] ⟨fr [(5, .sc (.map (some b))), (24, AV.list false (List.map enc_GRow l)), (25, aI .i64 (List.length l : Int)), (26, aI .i64 (k : Int))], hp [], 0⟩ ((b, ks.map (kvE rowV)) :: μ) := by
  intro xs
  induction xs with
  | nil =>
    intro k hx ks hK C0 C1
    have hk := drop_nil hx
    have hc : decide ((k : Int) < (List.length l : Int)) = false := decide_eq_false (by omega)
    refine SemK.round ?_
    refine run_to tmD 4000 [.br false] rfl (by repeat' first | refine And.intro ?_ ?_ | exact hc | exact oblA) ?_
    exact SemK.weakTo [] (C0 rfl _) rfl (by repeat' first | refine And.intro ?_ ?_ | exact wkA) (by repeat' first | refine And.intro ?_ ?_ | exact wkB)
  | cons x xs ih =>
    intro k hx ks hK C0 C1
    obtain ⟨hk, hg, hx1⟩ := drop_cons hx
    obtain ⟨lk, hlk⟩ := keyRow x (hw x (List.mem_of_getElem? hg))
    have hc : decide ((k : Int) < (List.length l : Int)) = true := decide_eq_true (by omega)
    refine SemK.round ?_
    refine run_to tmD 4000 [.br true, .el (enc_GRow x), .stop 10] rfl (by repeat' first | refine And.intro ?_ ?_ | exact hc | exact ixm hg | exact oblA) ?_
    refine SemK.drawnInc (kv := rowV x) (z := .int .i64 0) (zn := getA x ks) (xv := .int .i64 (IntKind.i64.wrap (getA x ks - 1))) 2 tmD [] rfl rfl rfl rfl rfl (by repeat' first | refine And.intro ?_ ?_ | exact hc | exact oblA) rfl (by constructor <;> decide +kernel) rfl rfl rfl rfl rfl rfl rfl rfl rfl rfl rfl rfl rfl rfl rfl rfl rfl rfl rfl rfl law62 (fun _ => rfl) rfl rfl rfl (by exact trivial) (by exact trivial) hlk hK (kvE_get rowV_inj x ks) rfl (fun _ _ => ?_)
    have hK2 := hK.set (v := .int .i64 (IntKind.i64.wrap (getA x ks - 1))) hlk
    rw [kvE_set rowV_inj] at hK2
    rw [kvE_set rowV_inj]
    refine run_to tmD 4000 [] rfl (by repeat' first | refine And.intro ?_ ?_ | exact hc | exact oblA) ?_
    refine SemK.mapLook (kv := rowV x) (z := .int .i64 0) tyTab_ok rfl rfl rfl rfl rfl law62 (fun _ => rfl) rfl rfl rfl trivial trivial hlk hK2 ?_
    rw [kvE_get rowV_inj]
    cases hs : decide (getA x (setA x (IntKind.i64.wrap (getA x ks - 1)) ks) < 0) with
    | true =>
      refine run_to tmD 4000 [.br true] rfl (by repeat' first | refine And.intro ?_ ?_ | exact hs | exact oblA) ?_
      exact SemK.weakTo [] (C1 (by simp only [subAll, hs, cond_true]) _) rfl (by repeat' first | refine And.intro ?_ ?_ | exact wkA) (by repeat' first | refine And.intro ?_ ?_ | exact wkB)
    | false =>
      refine run_to tmD 4000 [.br false] rfl (by repeat' first | refine And.intro ?_ ?_ | exact hs | exact oblA) ?_
      have he : subAll ks (x :: xs) = subAll (setA x (IntKind.i64.wrap (getA x ks - 1)) ks) xs := by simp only [subAll, hs, cond_false]
      exact SemK.weakTo [] (ih (k + 1) hx1 _ hK2 (fun h => C0 (he.trans h)) (fun h => C1 (he.trans h))) rfl (by repeat' first | refine And.intro ?_ ?_ | exact wkA) (by repeat' first | refine And.intro ?_ ?_ | exact wkB)
theorem prefix_within_Row_ok (a0 : List GRow) (a1 : List GRow) (r : Bool) (h : prefix_within_Row a0 a1 = some r) : Pure Try.prog 28 [(AV.list false (List.map enc_GRow a0)), (AV.list false (List.map enc_GRow a1))] (aB r) := by
  refine Pure.sym tyTab_ok fn28 (nt := 41) rfl rfl ?_ (allCons .list (allCons .list allNil))
  unfold prefix_within_Row at h
  refine bindE h ?_
  clear h; intro u h1 h
  have q1 := lenOk_le h1
  refine bindE h ?_
  clear h; intro u2 h2 h
  have q2 := lenOk_le h2
  refine bindE h ?_
  clear h; intro u3 h3 h
  have w1 := wfOk_all h3
  refine bindE h ?_
  clear h; intro u4 h4 h
  have w2 := wfOk_all h4
  obtain rfl := Option.some.inj h
  refine run_to tmD 4000 [] rfl (by repeat' first | refine And.intro ?_ ?_ | exact oblA) ?_
  refine SemK.mapNew rfl rfl rfl fun b => ?_
  refine run_to tmD 4000 [] rfl (by repeat' first | refine And.intro ?_ ?_ | exact oblA) ?_
  refine SemK.weakTo [] (SemK.cut (prefix_within_Row_L0 b a0 a1 q2 w2 a1 0 (by simp) [] Keyd.nil (fun hK => ?_))) rfl (by repeat' first | refine And.intro ?_ ?_ | exact wkA) (by repeat' first | refine And.intro ?_ ?_ | exact wkB)
  refine SemK.glue ?_
  refine run_to tmD 4000 [] rfl (by repeat' first | refine And.intro ?_ ?_ | exact oblA) ?_
  refine SemK.weakTo [] (SemK.cut (prefix_within_Row_L1 b a0 q1 w1 a0 0 (by simp) _ hK (fun hs es => ?_) (fun hs es => ?_))) rfl (by repeat' first | refine And.intro ?_ ?_ | exact wkA) (by repeat' first | refine And.intro ?_ ?_ | exact wkB)
  · refine SemK.glue ?_
    refine run_to tmD 4000 [] rfl (by repeat' first | refine And.intro ?_ ?_ | exact oblA) ?_
    refine fin_ret rfl ?_
    rw [hs]; exact .sc
  · refine SemK.glue ?_
    refine run_to tmD 4000 [] rfl (by repeat' first | refine And.intro ?_ ?_ | exact oblA) ?_
    refine fin_ret rfl ?_
    rw [hs]; exact .sc

theorem prefix_within_Record_L0 {Q : AExit → St → Mu → Prop} {μ : Mu} (b : Nat) (a l : List GRecord) (hl : List.length l ≤ 140737488355328) (hw : ∀ y ∈ l, wf_GRecord y) : ∀ (xs : List GRecord) (k : Nat) (hx : l.drop k = xs) (ks : List (GRecord × Int)) (hK : Keyd Try.prog 47 (ks.map (kvE recV)))
    (C : Keyd Try.prog 47 ((addAll ks xs).map (kvE recV)) → SemK Try.prog 41 0 Q (.exit (.exit 0)) [] ⟨fr [(0, AV.list false (List.map enc_GRecord a)), (5, .sc (.map (some b)))], hp [], 0⟩ ((b, (addAll ks xs).map (kvE recV)) :: μ)),
    SemK Try.prog 41 0 Q (.loop (loopB 0 (bodyOf Try.f29))) [] ⟨fr [(0, AV.list false (List.map enc_GRecord a)), (5, .sc (.map (some b))), (11, AV.list false (List.map enc_GRecord l)), (12, aI .i64 (List.length l : Int)), (13, aI .i64 (k : Int))], hp [], 0⟩ ((b, ks.map (kvE recV)) :: μ) := by
  intro xs
  induction xs with
  | nil =>
    intro k hx ks hK C
    have hk := drop_nil hx
    have hc : decide ((k : Int) < (List.length l : Int)) = false := decide_eq_false (by omega)
    refine SemK.round ?_
    refine run_to tmD 4000 [.br false] rfl (by repeat' first | refine And.intro ?_ ?_ | exact hc | exact oblA) ?_
    exact SemK.weakTo [] (C hK) rfl (by repeat' first | refine And.intro ?_ ?_ | exact wkA) (by repeat' first | refine And.intro ?_ ?_ | exact wkB)
  | cons x xs ih =>
    intro k hx ks hK C
    obtain ⟨hk, hg, hx1⟩ := drop_cons hx
    obtain ⟨lk, hlk⟩ := keyRec x (hw x (List.mem_of_getElem? hg))
    have hc : decide ((k : Int) < (List.length l : Int)) = true := decide_eq_true (by omega)
    refine SemK.round ?_
    refine run_to tmD 4000 [.br true, .el (enc_GRecord x), .stop 5] rfl (by repeat' first | refine And.intro ?_ ?_ | exact hc | exact ixm hg | exact oblA) ?_
    refine SemK.drawnInc (kv := recV x) (z := .int .i64 0) (zn := getA x ks) (xv := .int .i64 (IntKind.i64.wrap (getA x ks + 1))) 2 tmD [] rfl rfl rfl rfl rfl (by repeat' first | refine And.intro ?_ ?_ | exact hc | exact oblA) rfl (by constructor <;> decide +kernel) rfl rfl rfl rfl rfl rfl rfl rfl rfl rfl rfl rfl rfl rfl rfl rfl rfl rfl rfl rfl law47 (fun _ => rfl) rfl rfl rfl (by exact trivial) (by exact trivial) hlk hK (kvE_get recV_inj x ks) rfl (fun _ _ => ?_)
    have hK2 := hK.set (v := .int .i64 (IntKind.i64.wrap (getA x ks + 1))) hlk
    rw [kvE_set recV_inj] at hK2
    rw [kvE_set recV_inj]
    refine run_to tmD 4000 [] rfl (by repeat' first | refine And.intro ?_ ?_ | exact hc | exact oblA) ?_
    exact SemK.weakTo [] (ih (k + 1) hx1 _ hK2 C) rfl (by repeat' first | refine And.intro ?_ ?_ | exact wkA) (by repeat' first | refine And.intro ?_ ?_ | exact wkB)
theorem prefix_within_Record_L1 {Q : AExit → St → Mu → Prop} {μ : Mu} (b : Nat) (l : List GRecord) (hl : List.length l ≤ 140737488355328) (hw : ∀ y ∈ l, wf_GRecord y) : ∀ (xs : List GRecord) (k : Nat) (hx : l.drop k = xs) (ks : List (GRecord × Int)) (hK : Keyd Try.prog 47 (ks.map (kvE recV)))
    (C0 : subAll ks xs = true → ∀ es, SemK Try.prog 41 0 Q (.exit (.exit 2)) [] ⟨fr [], hp [], 0⟩ ((b, es) :: μ)) (C1 : subAll ks xs = false → ∀ es, SemK Try.prog 41 0 Q (.exit .ret) [] ⟨fr [(4, aB false)], hp [], 0⟩ ((b, es) :: μ)),
    SemK Try.prog 41 0 Q (.loop (loopB 1 (bodyOf Try.f29))) [] ⟨fr [(5, .sc (.map (some b))), (24, AV.list false (List.map enc_GRecord l)), (25, aI .i64 (List.length l : Int)), (26, aI .i64 (k : Int))], hp [], 0⟩ ((b, ks.map (kvE recV)) :: μ) := by
  intro xs
  induction xs with
  | nil =>
    intro k hx ks hK C0 C1
    have hk := drop_nil hx
    have hc : decide ((k : Int) < (List.length l : Int)) = false := decide_eq_false (by omega)
    refine SemK.round ?_
    refine run_to tmD 4000 [.br false] rfl (by repeat' first | refine And.intro ?_ ?_ | exact hc | exact oblA) ?_
    exact SemK.weakTo [] (C0 rfl _) rfl (by repeat' first | refine And.intro ?_ ?_ | exact wkA) (by repeat' first | refine And.intro ?_ ?_ | exact wkB)
  | cons x xs ih =>
    intro k hx ks hK C0 C1
    obtain ⟨hk, hg, hx1⟩ := drop_cons hx
    obtain ⟨lk, hlk⟩ := keyRec x (hw x (List.mem_of_getElem? hg))
    have hc : decide ((k : Int) < (List.length l : Int)) = true := decide_eq_true (by omega)
    refine SemK.round ?_
    refine run_to tmD 4000 [.br true, .el (enc_GRecord x), .stop 10] rfl (by repeat' first | refine And.intro ?_ ?_ | exact hc | exact ixm hg | exact oblA) ?_
    refine SemK.drawnInc (kv := recV x) (z := .int .i64 0) (zn := getA x ks) (xv := .int .i64 (IntKind.i64.wrap (getA x ks - 1))) 2 tmD [] rfl rfl rfl rfl rfl (by repeat' first | refine And.intro ?_ ?_ | exact hc | exact oblA) rfl (by constructor <;> decide +kernel) rfl rfl rfl rfl rfl rfl rfl rfl rfl rfl rfl rfl rfl rfl rfl rfl rfl rfl rfl rfl law47 (fun _ => rfl) rfl rfl rfl (by exact trivial) (by exact trivial) hlk hK (kvE_get recV_inj x ks) rfl (fun _ _ => ?_)
    have hK2 := hK.set (v := .int .i64 (IntKind.i64.wrap (getA x ks - 1))) hlk
    rw [kvE_set recV_inj] at hK2
    rw [kvE_set recV_inj]
    refine run_to tmD 4000 [] rfl (by repeat' first | refine And.intro ?_ ?_ | exact hc | exact oblA) ?_
    refine SemK.mapLook (kv := recV x) (z := .int .i64 0) tyTab_ok rfl rfl rfl rfl rfl law47 (fun _ => rfl) rfl rfl rfl trivial trivial hlk hK2 ?_
    rw [kvE_get recV_inj]
    cases hs : decide (getA x (setA x (IntKind.i64.wrap (getA x ks - 1)) ks) < 0) with
    | true =>
      refine run_to tmD 4000 [.br true] rfl (by repeat' first | refine And.intro ?_ ?_ | exact hs | exact oblA) ?_
      exact SemK.weakTo [] (C1 (by simp only [subAll, hs, cond_true]) _) rfl (by repeat' first | refine And.intro ?_ ?_ | exact wkA) (by repeat' first | refine And.intro ?_ ?_ | exact wkB)
    | false =>
      refine run_to tmD 4000 [.br false] rfl (by repeat' first | refine And.intro ?_ ?_ | exact hs | exact oblA) ?_
      have he : subAll ks (x :: xs) = subAll (setA x (IntKind.i64.wrap (getA x ks - 1)) ks) xs := by simp only [subAll, hs, cond_false]
      exact SemK.weakTo [] (ih (k + 1) hx1 _ hK2 (fun h => C0 (he.trans h)) (fun h => C1 (he.trans h))) rfl (by repeat' first | refine And.intro ?_ ?_ | exact wkA) (by repeat' first | refine And.intro ?_ ?_ | exact wkB)
theorem prefix_within_Record_ok (a0 : List GRecord) (a1 : List GRecord) (r : Bool) (h : prefix_within_Record a0 a1 = some r) : Pure Try.prog 29 [(AV.list false (List.map enc_GRecord a0)), (AV.list false (List.map enc_GRecord a1))] (aB r) := by
  refine Pure.sym tyTab_ok fn29 (nt := 41) rfl rfl ?_ (allCons .list (allCons .list allNil))
  unfold prefix_within_Record at h
  refine bindE h ?_
  clear h; intro u h1 h
  have q1 := lenOk_le h1
  refine bindE h ?_
  clear h; intro u2 h2 h
  have q2 := lenOk_le h2
  refine bindE h ?_
  clear h; intro u3 h3 h
  have w1 := wfOk_all h3
  refine bindE h ?_
  clear h; intro u4 h4 h
  have w2 := wfOk_all h4
  obtain rfl := Option.some.inj h
  refine run_to tmD 4000 [] rfl (by repeat' first | refine And.intro ?_ ?_ | exact oblA) ?_
  refine SemK.mapNew rfl rfl rfl fun b => ?_
  refine run_to tmD 4000 [] rfl (by repeat' first | refine And.intro ?_ ?_ | exact oblA) ?_
  refine SemK.weakTo [] (SemK.cut (prefix_within_Record_L0 b a0 a1 q2 w2 a1 0 (by simp) [] Keyd.nil (fun hK => ?_))) rfl (by repeat' first | refine And.intro ?_ ?_ | exact wkA) (by repeat' first | refine And.intro ?_ ?_ | exact wkB)
  refine SemK.glue ?_
  refine run_to tmD 4000 [] rfl (by repeat' first | refine And.intro ?_ ?_ | exact oblA) ?_
  refine SemK.weakTo [] (SemK.cut (prefix_within_Record_L1 b a0 q1 w1 a0 0 (by simp) _ hK (fun hs es => ?_) (fun hs es => ?_))) rfl (by repeat' first | refine And.intro ?_ ?_ | exact wkA) (by repeat' first | refine And.intro ?_ ?_ | exact wkB)
  · refine SemK.glue ?_
    refine run_to tmD 4000 [] rfl (by repeat' first | refine And.intro ?_ ?_ | exact oblA) ?_
    refine fin_ret rfl ?_
    rw [hs]; exact .sc
  · refine SemK.glue ?_
    refine run_to tmD 4000 [] rfl (by repeat' first | refine And.intro ?_ ?_ | exact oblA) ?_
    refine fin_ret rfl ?_
    rw [hs]; exact .sc

theorem prefix_Part_ok (a0 : GOutputs) (a1 : GOutputs) (r : Bool × Int) (h : prefix_Part a0 a1 = some r) : Pure Try.prog 11 [(enc_GOutputs false a0), (enc_GOutputs false a1)] (AV.tup [(aB r.1), (aI .i64 r.2)]) := by
  refine Pure.sym tyTab_ok fn11 (nt := 26) rfl rfl ?_ (allCons (free_GOutputs false _ _).1 (allCons (free_GOutputs false _ _).1 allNil))
  unfold prefix_Part at h
  refine bindE h ?_
  clear h; intro v1 h2 h
  refine brE h ?_ ?_
  · clear h; intro h3 h
    obtain rfl := Option.some.inj h
    refine run_to tmD 4000 [.pure [(AV.list false (List.map (enc_GOutputs false) [a0, a1]))] (aI .i64 v1), .br true] rfl (by repeat' first | refine And.intro ?_ ?_ | exact (PureCall.lent (prefix_check_ok _ _ h2) (Cvs.cons (cv_refl (f := (enc_GOutputs false)) (g := (enc_GOutputs false)) (l := [a0, a1]) rfl (by first | rfl | (simp; done) | (simp; rfl) | (simp []; done) | (simp []; rfl)) (by first | rfl | (simp; done) | (simp; omega) | (simp []; done) | (simp []; omega)) (fun _ => rfl) (fun x => cv_cells cva_GOutputs)) Cvs.nil) .sc) | exact oblA) ?_
    refine fin_ret rfl ?_
    exact (cv_tup (Cvs.cons .sc (Cvs.cons .sc Cvs.nil)))
  · clear h; intro h3 h
    refine bindE h ?_
    clear h; intro j9_4 h15 h
    refine run_to tmD 4000 [.pure [(AV.list false (List.map (enc_GOutputs false) [a0, a1]))] (aI .i64 v1), .br false, .stop 4] rfl (by repeat' first | refine And.intro ?_ ?_ | exact (PureCall.lent (prefix_check_ok _ _ h2) (Cvs.cons (cv_refl (f := (enc_GOutputs false)) (g := (enc_GOutputs false)) (l := [a0, a1]) rfl (by first | rfl | (simp; done) | (simp; rfl) | (simp []; done) | (simp []; rfl)) (by first | rfl | (simp; done) | (simp; omega) | (simp []; done) | (simp []; omega)) (fun _ => rfl) (fun x => cv_cells cva_GOutputs)) Cvs.nil) .sc) | exact oblA) ?_
    refine SemK.join (s' := ⟨fr [(4, (aB j9_4)), (5, (aI .i64 0))], hp ([]), 0⟩) ?_ (fun J => SemK.cut ?_)
    ·
      obtain rfl := Option.some.inj h
      refine run_to tmD 4000 [] rfl (by repeat' first | refine And.intro ?_ ?_ | exact oblA) ?_
      refine fin_ret rfl ?_
      exact (cv_tup (Cvs.cons .sc (Cvs.cons .sc Cvs.nil)))
    ·
      clear h
      have h := h15
      refine bindE h ?_
      clear h; intro v10 h11 h
      refine brE h ?_ ?_
      · clear h; intro h12 h
        refine bindE h ?_
        clear h; intro v13 h14 h
        obtain rfl := Option.some.inj h
        refine run_to tmD 4000 [.pure [(AV.list false (List.map enc_GRow a0.Rows)), (AV.list false (List.map enc_GRow a1.Rows))] (aB v10), .go true, .go true, .go true, .go true, .go true, .pure [(AV.list false (List.map enc_GRecord a0.Late)), (AV.list false (List.map enc_GRecord a1.Late))] (aB v13)] rfl (by repeat' first | refine And.intro ?_ ?_ | exact (PureCall.lent (prefix_check_ok _ _ h2) (Cvs.cons (cv_refl (f := (enc_GOutputs false)) (g := (enc_GOutputs false)) (l := [a0, a1]) rfl (by first | rfl | (simp; done) | (simp; rfl) | (simp []; done) | (simp []; rfl)) (by first | rfl | (simp; done) | (simp; omega) | (simp []; done) | (simp []; omega)) (fun _ => rfl) (fun x => cv_cells cva_GOutputs)) Cvs.nil) .sc) | exact (PureCall.none (prefix_within_Row_ok _ _ _ h11) (Cvs.cons (cv_list (flat_map flat_GRow a0.Rows)) (Cvs.cons (cv_list (flat_map flat_GRow a1.Rows)) Cvs.nil))) | exact (PureCall.none (prefix_within_Record_ok _ _ _ h14) (Cvs.cons (cv_list (flat_map flat_GRecord a0.Late)) (Cvs.cons (cv_list (flat_map flat_GRecord a1.Late)) Cvs.nil))) | exact oblA) ?_
        refine SemK.weakTo [] (SemK.glue J) rfl (by repeat' first | refine And.intro ?_ ?_ | exact wkA) (by repeat' first | refine And.intro ?_ ?_ | exact wkB)
      · clear h; intro h12 h
        obtain rfl := Option.some.inj h
        refine run_to tmD 4000 [.pure [(AV.list false (List.map enc_GRow a0.Rows)), (AV.list false (List.map enc_GRow a1.Rows))] (aB v10), .go false, .go false, .go false, .go false, .go false] rfl (by repeat' first | refine And.intro ?_ ?_ | exact (PureCall.lent (prefix_check_ok _ _ h2) (Cvs.cons (cv_refl (f := (enc_GOutputs false)) (g := (enc_GOutputs false)) (l := [a0, a1]) rfl (by first | rfl | (simp; done) | (simp; rfl) | (simp []; done) | (simp []; rfl)) (by first | rfl | (simp; done) | (simp; omega) | (simp []; done) | (simp []; omega)) (fun _ => rfl) (fun x => cv_cells cva_GOutputs)) Cvs.nil) .sc) | exact (PureCall.none (prefix_within_Row_ok _ _ _ h11) (Cvs.cons (cv_list (flat_map flat_GRow a0.Rows)) (Cvs.cons (cv_list (flat_map flat_GRow a1.Rows)) Cvs.nil))) | exact oblA) ?_
        refine SemK.weakTo [] (SemK.glue J) rfl (by repeat' first | refine And.intro ?_ ?_ | exact wkA) (by repeat' first | refine And.intro ?_ ?_ | exact wkB)

theorem ref40_many_ok (a0 : GOutputs) (r : Bool) (h : ref40_many a0 = some r) : Pure Try.prog 30 [(enc_GOutputs false a0)] (aB r) := by
  refine Pure.sym tyTab_ok fn30 (nt := 13) rfl rfl ?_ (allCons (free_GOutputs false _ _).1 allNil)
  unfold ref40_many at h
  refine bindE h ?_
  clear h; intro j2_2 h4 h
  refine run_to tmD 4000 [.stop 1] rfl (by repeat' first | refine And.intro ?_ ?_ | exact oblA) ?_
  refine SemK.join (s' := ⟨fr [(2, (aB j2_2))], hp ([]), 0⟩) ?_ (fun J => SemK.cut ?_)
  ·
    obtain rfl := Option.some.inj h
    refine run_to tmD 4000 [] rfl (by repeat' first | refine And.intro ?_ ?_ | exact oblA) ?_
    refine fin_ret rfl ?_
    exact .sc
  ·
    clear h
    have h := h4
    refine brE h ?_ ?_
    · clear h; intro h3 h
      obtain rfl := Option.some.inj h
      refine run_to tmD 4000 [.el (aI .i64 (List.length a0.Rows : Int)), .go false, .go false, .go false, .go false] rfl (by repeat' first | refine And.intro ?_ ?_ | exact oblA) ?_
      refine SemK.weakTo [] (SemK.glue J) rfl (by repeat' first | refine And.intro ?_ ?_ | exact wkA) (by repeat' first | refine And.intro ?_ ?_ | exact wkB)
    · clear h; intro h3 h
      obtain rfl := Option.some.inj h
      refine run_to tmD 4000 [.el (aI .i64 (List.length a0.Rows : Int)), .go true, .go true, .go true, .el (aI .i64 (List.length a0.Late : Int)), .go true] rfl (by repeat' first | refine And.intro ?_ ?_ | exact oblA) ?_
      refine SemK.weakTo [] (SemK.glue J) rfl (by repeat' first | refine And.intro ?_ ?_ | exact wkA) (by repeat' first | refine And.intro ?_ ?_ | exact wkB)

theorem ref40_In_L0 {Q : AExit → St → Mu → Prop} {μ : Mu} (b1 b2 : Nat) (a b : GOutputs) (hl : List.length b.Rows ≤ 140737488355328) (hw : ∀ y ∈ b.Rows, wf_GRow y) : ∀ (xs : List GRow) (k : Nat) (hx : b.Rows.drop k = xs) (ks : List (GRow × Int)) (hK : Keyd Try.prog 62 (ks.map (kvE rowV)))
    (C : Keyd Try.prog 62 ((addAll ks xs).map (kvE rowV)) → SemK Try.prog 97 0 Q (.exit (.exit 0)) [] ⟨fr [(2, .ptr 0 0 0), (3, .ptr 1 0 0), (5, .sc (.map (some b1))), (6, .sc (.map (some b2)))], hp [(0, { es := [enc_GOutputs false a], esz := 2 }), (1, { es := [enc_GOutputs false b], esz := 2 })], 2⟩ ((b1, (addAll ks xs).map (kvE rowV)) :: μ)),
    SemK Try.prog 97 0 Q (.loop (loopB 0 (bodyOf Try.f31))) [] ⟨fr [(2, .ptr 0 0 0), (3, .ptr 1 0 0), (5, .sc (.map (some b1))), (6, .sc (.map (some b2))), (7, aI .i64 (k : Int))], hp [(0, { es := [enc_GOutputs false a], esz := 2 }), (1, { es := [enc_GOutputs false b], esz := 2 })], 2⟩ ((b1, ks.map (kvE rowV)) :: μ) := by
  intro xs
  induction xs with
  | nil =>
    intro k hx ks hK C
    have hk := drop_nil hx
    have hc : decide ((k : Int) < (List.length b.Rows : Int)) = false := decide_eq_false (by omega)
    refine SemK.round ?_
    refine run_to tmD 4000 [.el (aI .i64 (List.length b.Rows : Int)), .br false] rfl (by repeat' first | refine And.intro ?_ ?_ | exact hc | exact oblA) ?_
    exact SemK.weakTo [] (C hK) rfl (by repeat' first | refine And.intro ?_ ?_ | exact wkA) (by repeat' first | refine And.intro ?_ ?_ | exact wkB)
  | cons x xs ih =>
    intro k hx ks hK C
    obtain ⟨hk, hg, hx1⟩ := drop_cons hx
    obtain ⟨lk, hlk⟩ := keyRow x (hw x (List.mem_of_getElem? hg))
    have hc : decide ((k : Int) < (List.length b.Rows : Int)) = true := decide_eq_true (by omega)
    refine SemK.round ?_
    refine run_to tmD 4000 [.el (aI .i64 (List.length b.Rows : Int)), .br true, .stop 5] rfl (by repeat' first | refine And.intro ?_ ?_ | exact hc | exact ixm hg | exact oblA) ?_
    refine SemK.drawnInc (kv := rowV x) (z := .int .i64 0) (zn := getA x ks) (xv := .int .i64 (IntKind.i64.wrap (getA x ks + 1))) 6 tmD [.el (enc_GRow x)] rfl rfl rfl rfl rfl (by repeat' first | refine And.intro ?_ ?_ | exact hc | exact ixm hg | exact oblA) rfl (by constructor <;> decide +kernel) rfl rfl rfl rfl rfl rfl rfl rfl rfl rfl rfl rfl rfl rfl rfl rfl rfl rfl rfl rfl law62 (fun _ => rfl) rfl rfl rfl (by exact trivial) (by exact trivial) hlk hK (kvE_get rowV_inj x ks) rfl (fun _ _ => ?_)
    have hK2 := hK.set (v := .int .i64 (IntKind.i64.wrap (getA x ks + 1))) hlk
    rw [kvE_set rowV_inj] at hK2
    rw [kvE_set rowV_inj]
    refine run_to tmD 4000 [] rfl (by repeat' first | refine And.intro ?_ ?_ | exact hc | exact oblA) ?_
    exact SemK.weakTo [] (ih (k + 1) hx1 _ hK2 C) rfl (by repeat' first | refine And.intro ?_ ?_ | exact wkA) (by repeat' first | refine And.intro ?_ ?_ | exact wkB)
theorem ref40_In_L1 {Q : AExit → St → Mu → Prop} {μ : Mu} (b1 b2 : Nat) (a b : GOutputs) (hl : List.length b.Late ≤ 140737488355328) (hw : ∀ y ∈ b.Late, wf_GRecord y) : ∀ (xs : List GRecord) (k : Nat) (hx : b.Late.drop k = xs) (ks : List (GRecord × Int)) (hK : Keyd Try.prog 47 (ks.map (kvE recV)))
    (C : Keyd Try.prog 47 ((addAll ks xs).map (kvE recV)) → SemK Try.prog 97 0 Q (.exit (.exit 2)) [] ⟨fr [(2, .ptr 0 0 0), (3, .ptr 1 0 0), (5, .sc (.map (some b1))), (6, .sc (.map (some b2)))], hp [(0, { es := [enc_GOutputs false a], esz := 2 }), (1, { es := [enc_GOutputs false b], esz := 2 })], 2⟩ ((b2, (addAll ks xs).map (kvE recV)) :: μ)),
    SemK Try.prog 97 0 Q (.loop (loopB 1 (bodyOf Try.f31))) [] ⟨fr [(2, .ptr 0 0 0), (3, .ptr 1 0 0), (5, .sc (.map (some b1))), (6, .sc (.map (some b2))), (8, aI .i64 (k : Int))], hp [(0, { es := [enc_GOutputs false a], esz := 2 }), (1, { es := [enc_GOutputs false b], esz := 2 })], 2⟩ ((b2, ks.map (kvE recV)) :: μ) := by
  intro xs
  induction xs with
  | nil =>
    intro k hx ks hK C
    have hk := drop_nil hx
    have hc : decide ((k : Int) < (List.length b.Late : Int)) = false := decide_eq_false (by omega)
    refine SemK.round ?_
    refine run_to tmD 4000 [.el (aI .i64 (List.length b.Late : Int)), .br false] rfl (by repeat' first | refine And.intro ?_ ?_ | exact hc | exact oblA) ?_
    exact SemK.weakTo [] (C hK) rfl (by repeat' first | refine And.intro ?_ ?_ | exact wkA) (by repeat' first | refine And.intro ?_ ?_ | exact wkB)
  | cons x xs ih =>
    intro k hx ks hK C
    obtain ⟨hk, hg, hx1⟩ := drop_cons hx
    obtain ⟨lk, hlk⟩ := keyRec x (hw x (List.mem_of_getElem? hg))
    have hc : decide ((k : Int) < (List.length b.Late : Int)) = true := decide_eq_true (by omega)
    refine SemK.round ?_
    refine run_to tmD 4000 [.el (aI .i64 (List.length b.Late : Int)), .br true, .stop 9] rfl (by repeat' first | refine And.intro ?_ ?_ | exact hc | exact ixm hg | exact oblA) ?_
    refine SemK.drawnInc (kv := recV x) (z := .int .i64 0) (zn := getA x ks) (xv := .int .i64 (IntKind.i64.wrap (getA x ks + 1))) 6 tmD [.el (enc_GRecord x)] rfl rfl rfl rfl rfl (by repeat' first | refine And.intro ?_ ?_ | exact hc | exact ixm hg | exact oblA) rfl (by constructor <;> decide +kernel) rfl rfl rfl rfl rfl rfl rfl rfl rfl rfl rfl rfl rfl rfl rfl rfl rfl rfl rfl rfl law47 (fun _ => rfl) rfl rfl rfl (by exact trivial) (by exact trivial) hlk hK (kvE_get recV_inj x ks) rfl (fun _ _ => ?_)
    have hK2 := hK.set (v := .int .i64 (IntKind.i64.wrap (getA x ks + 1))) hlk
    rw [kvE_set recV_inj] at hK2
    rw [kvE_set recV_inj]
    refine run_to tmD 4000 [] rfl (by repeat' first | refine And.intro ?_ ?_ | exact hc | exact oblA) ?_
    exact SemK.weakTo [] (ih (k + 1) hx1 _ hK2 C) rfl (by repeat' first | refine And.intro ?_ ?_ | exact wkA) (by repeat' first | refine And.intro ?_ ?_ | exact wkB)
theorem ref40_In_L2 {Q : AExit → St → Mu → Prop} {μ : Mu} (b1 b2 : Nat) (a b : GOutputs) (hl : List.length a.Rows ≤ 140737488355328) (hw : ∀ y ∈ a.Rows, wf_GRow y) : ∀ (xs : List GRow) (k : Nat) (hx : a.Rows.drop k = xs) (ks : List (GRow × Int)) (hK : Keyd Try.prog 62 (ks.map (kvE rowV)))
    (C0 : subAll ks xs = true → ∀ es, SemK Try.prog 97 0 Q (.exit (.exit 4)) [] ⟨fr [(2, .ptr 0 0 0), (3, .ptr 1 0 0), (5, .sc (.map (some b1))), (6, .sc (.map (some b2)))], hp [(0, { es := [enc_GOutputs false a], esz := 2 }), (1, { es := [enc_GOutputs false b], esz := 2 })], 2⟩ ((b1, es) :: μ)) (C1 : subAll ks xs = false → ∀ es, SemK Try.prog 97 0 Q (.exit .ret) [] ⟨fr [(4, aB false)], hp [], 0⟩ ((b1, es) :: μ)),
    SemK Try.prog 97 0 Q (.loop (loopB 2 (bodyOf Try.f31))) [] ⟨fr [(2, .ptr 0 0 0), (3, .ptr 1 0 0), (5, .sc (.map (some b1))), (6, .sc (.map (some b2))), (9, aI .i64 (k : Int))], hp [(0, { es := [enc_GOutputs false a], esz := 2 }), (1, { es := [enc_GOutputs false b], esz := 2 })], 2⟩ ((b1, ks.map (kvE rowV)) :: μ) := by
  intro xs
  induction xs with
  | nil =>
    intro k hx ks hK C0 C1
    have hk := drop_nil hx
    have hc : decide ((k : Int) < (List.length a.Rows : Int)) = false := decide_eq_false (by omega)
    refine SemK.round ?_
    refine run_to tmD 4000 [.el (aI .i64 (List.length a.Rows : Int)), .br false] rfl (by repeat' first | refine And.intro ?_ ?_ | exact hc | exact oblA) ?_
    exact SemK.weakTo [] (C0 rfl _) rfl (by repeat' first | refine And.intro ?_ ?_ | exact wkA) (by repeat' first | refine And.intro ?_ ?_ | exact wkB)
  | cons x xs ih =>
    intro k hx ks hK C0 C1
    obtain ⟨hk, hg, hx1⟩ := drop_cons hx
    obtain ⟨lk, hlk⟩ := keyRow x (hw x (List.mem_of_getElem? hg))
    have hc : decide ((k : Int) < (List.length a.Rows : Int)) = true := decide_eq_true (by omega)
    refine SemK.round ?_
    refine run_to tmD 4000 [.el (aI .i64 (List.length a.Rows : Int)), .br true, .stop 13] rfl (by repeat' first | refine And.intro ?_ ?_ | exact hc | exact ixm hg | exact oblA) ?_
    refine SemK.drawnInc (kv := rowV x) (z := .int .i64 0) (zn := getA x ks) (xv := .int .i64 (IntKind.i64.wrap (getA x ks - 1))) 6 tmD [.el (enc_GRow x)] rfl rfl rfl rfl rfl (by repeat' first | refine And.intro ?_ ?_ | exact hc | exact ixm hg | exact oblA) rfl (by constructor <;> decide +kernel) rfl rfl rfl rfl rfl rfl rfl rfl rfl rfl rfl rfl rfl rfl rfl rfl rfl rfl rfl rfl law62 (fun _ => rfl) rfl rfl rfl (by exact trivial) (by exact trivial) hlk hK (kvE_get rowV_inj x ks) rfl (fun _ _ => ?_)
    have hK2 := hK.set (v := .int .i64 (IntKind.i64.wrap (getA x ks - 1))) hlk
    rw [kvE_set rowV_inj] at hK2
    rw [kvE_set rowV_inj]
    refine run_to tmD 4000 [.el (enc_GRow x)] rfl (by repeat' first | refine And.intro ?_ ?_ | exact hc | exact ixm hg | exact oblA) ?_
    refine SemK.mapLook (kv := rowV x) (z := .int .i64 0) tyTab_ok rfl rfl rfl rfl rfl law62 (fun _ => rfl) rfl rfl rfl trivial trivial hlk hK2 ?_
    rw [kvE_get rowV_inj]
    cases hs : decide (getA x (setA x (IntKind.i64.wrap (getA x ks - 1)) ks) < 0) with
    | true =>
      refine run_to tmD 4000 [.br true] rfl (by repeat' first | refine And.intro ?_ ?_ | exact hs | exact oblA) ?_
      exact SemK.weakTo [] (C1 (by simp only [subAll, hs, cond_true]) _) rfl (by repeat' first | refine And.intro ?_ ?_ | exact wkA) (by repeat' first | refine And.intro ?_ ?_ | exact wkB)
    | false =>
      refine run_to tmD 4000 [.br false] rfl (by repeat' first | refine And.intro ?_ ?_ | exact hs | exact oblA) ?_
      have he : subAll ks (x :: xs) = subAll (setA x (IntKind.i64.wrap (getA x ks - 1)) ks) xs := by simp only [subAll, hs, cond_false]
      exact SemK.weakTo [] (ih (k + 1) hx1 _ hK2 (fun h => C0 (he.trans h)) (fun h => C1 (he.trans h))) rfl (by repeat' first | refine And.intro ?_ ?_ | exact wkA) (by repeat' first | refine And.intro ?_ ?_ | exact wkB)
theorem ref40_In_L3 {Q : AExit → St → Mu → Prop} {μ : Mu} (b1 b2 : Nat) (a b : GOutputs) (hl : List.length a.Late ≤ 140737488355328) (hw : ∀ y ∈ a.Late, wf_GRecord y) : ∀ (xs : List GRecord) (k : Nat) (hx : a.Late.drop k = xs) (ks : List (GRecord × Int)) (hK : Keyd Try.prog 47 (ks.map (kvE recV)))
    (C0 : subAll ks xs = true → ∀ es, SemK Try.prog 97 0 Q (.exit (.exit 6)) [] ⟨fr [(2, .ptr 0 0 0), (3, .ptr 1 0 0), (5, .sc (.map (some b1))), (6, .sc (.map (some b2)))], hp [(0, { es := [enc_GOutputs false a], esz := 2 }), (1, { es := [enc_GOutputs false b], esz := 2 })], 2⟩ ((b2, es) :: μ)) (C1 : subAll ks xs = false → ∀ es, SemK Try.prog 97 0 Q (.exit .ret) [] ⟨fr [(4, aB false)], hp [], 0⟩ ((b2, es) :: μ)),
    SemK Try.prog 97 0 Q (.loop (loopB 3 (bodyOf Try.f31))) [] ⟨fr [(2, .ptr 0 0 0), (3, .ptr 1 0 0), (5, .sc (.map (some b1))), (6, .sc (.map (some b2))), (10, aI .i64 (k : Int))], hp [(0, { es := [enc_GOutputs false a], esz := 2 }), (1, { es := [enc_GOutputs false b], esz := 2 })], 2⟩ ((b2, ks.map (kvE recV)) :: μ) := by
  intro xs
  induction xs with
  | nil =>
    intro k hx ks hK C0 C1
    have hk := drop_nil hx
    have hc : decide ((k : Int) < (List.length a.Late : Int)) = false := decide_eq_false (by omega)
    refine SemK.round ?_
    refine run_to tmD 4000 [.el (aI .i64 (List.length a.Late : Int)), .br false] rfl (by repeat' first | refine And.intro ?_ ?_ | exact hc | exact oblA) ?_
    exact SemK.weakTo [] (C0 rfl _) rfl (by repeat' first | refine And.intro ?_ ?_ | exact wkA) (by repeat' first | refine And.intro ?_ ?_ | exact wkB)
  | cons x xs ih =>
    intro k hx ks hK C0 C1
    obtain ⟨hk, hg, hx1⟩ := drop_cons hx
    obtain ⟨lk, hlk⟩ := keyRec x (hw x (List.mem_of_getElem? hg))
    have hc : decide ((k : Int) < (List.length a.Late : Int)) = true := decide_eq_true (by omega)
    refine SemK.round ?_
    refine run_to tmD 4000 [.el (aI .i64 (List.length a.Late : Int)), .br true, .stop 19] rfl (by repeat' first | refine And.intro ?_ ?_ | exact hc | exact ixm hg | exact oblA) ?_
    refine SemK.drawnInc (kv := recV x) (z := .int .i64 0) (zn := getA x ks) (xv := .int .i64 (IntKind.i64.wrap (getA x ks - 1))) 6 tmD [.el (enc_GRecord x)] rfl rfl rfl rfl rfl (by repeat' first | refine And.intro ?_ ?_ | exact hc | exact ixm hg | exact oblA) rfl (by constructor <;> decide +kernel) rfl rfl rfl rfl rfl rfl rfl rfl rfl rfl rfl rfl rfl rfl rfl rfl rfl rfl rfl rfl law47 (fun _ => rfl) rfl rfl rfl (by exact trivial) (by exact trivial) hlk hK (kvE_get recV_inj x ks) rfl (fun _ _ => ?_)
    have hK2 := hK.set (v := .int .i64 (IntKind.i64.wrap (getA x ks - 1))) hlk
    rw [kvE_set recV_inj] at hK2
    rw [kvE_set recV_inj]
    refine run_to tmD 4000 [.el (enc_GRecord x)] rfl (by repeat' first | refine And.intro ?_ ?_ | exact hc | exact ixm hg | exact oblA) ?_
    refine SemK.mapLook (kv := recV x) (z := .int .i64 0) tyTab_ok rfl rfl rfl rfl rfl law47 (fun _ => rfl) rfl rfl rfl trivial trivial hlk hK2 ?_
    rw [kvE_get recV_inj]
    cases hs : decide (getA x (setA x (IntKind.i64.wrap (getA x ks - 1)) ks) < 0) with
    | true =>
      refine run_to tmD 4000 [.br true] rfl (by repeat' first | refine And.intro ?_ ?_ | exact hs | exact oblA) ?_
      exact SemK.weakTo [] (C1 (by simp only [subAll, hs, cond_true]) _) rfl (by repeat' first | refine And.intro ?_ ?_ | exact wkA) (by repeat' first | refine And.intro ?_ ?_ | exact wkB)
    | false =>
      refine run_to tmD 4000 [.br false] rfl (by repeat' first | refine And.intro ?_ ?_ | exact hs | exact oblA) ?_
      have he : subAll ks (x :: xs) = subAll (setA x (IntKind.i64.wrap (getA x ks - 1)) ks) xs := by simp only [subAll, hs, cond_false]
      exact SemK.weakTo [] (ih (k + 1) hx1 _ hK2 (fun h => C0 (he.trans h)) (fun h => C1 (he.trans h))) rfl (by repeat' first | refine And.intro ?_ ?_ | exact wkA) (by repeat' first | refine And.intro ?_ ?_ | exact wkB)
theorem ref40_In_ok (a0 a1 : GOutputs) (r : Bool) (h : ref40_In a0 a1 = some r) : Pure Try.prog 31 [(enc_GOutputs false a0), (enc_GOutputs false a1)] (aB r) := by
  refine Pure.sym tyTab_ok fn31 (nt := 97) rfl rfl ?_ (allCons (free_GOutputs false _ _).1 (allCons (free_GOutputs false _ _).1 allNil))
  unfold ref40_In at h
  refine bindE h ?_
  clear h; intro u h1 h
  have q1 := lenOk_le h1
  refine bindE h ?_
  clear h; intro u h2 h
  have q2 := lenOk_le h2
  refine bindE h ?_
  clear h; intro u h3 h
  have q3 := lenOk_le h3
  refine bindE h ?_
  clear h; intro u h4 h
  have q4 := lenOk_le h4
  refine bindE h ?_
  clear h; intro u h5 h
  have w1 := wfOk_all h5
  refine bindE h ?_
  clear h; intro u h6 h
  have w2 := wfOk_all h6
  refine bindE h ?_
  clear h; intro u h7 h
  have w3 := wfOk_all h7
  refine bindE h ?_
  clear h; intro u h8 h
  have w4 := wfOk_all h8
  obtain rfl := Option.some.inj h
  refine run_to tmD 4000 [] rfl (by repeat' first | refine And.intro ?_ ?_ | exact oblA) ?_
  refine SemK.mapNew rfl rfl rfl fun b1 => ?_
  refine run_to tmD 4000 [] rfl (by repeat' first | refine And.intro ?_ ?_ | exact oblA) ?_
  refine SemK.mapNew rfl rfl rfl fun b2 => ?_
  refine run_to tmD 4000 [] rfl (by repeat' first | refine And.intro ?_ ?_ | exact oblA) ?_
  refine SemK.weakTo [] (SemK.cut (SemK.permL (.swap _ _ _) (ref40_In_L0 b1 b2 a0 a1 q3 w3 a1.Rows 0 (by simp) [] Keyd.nil (fun hK1 => ?_)))) rfl (by repeat' first | refine And.intro ?_ ?_ | exact wkA) (by repeat' first | refine And.intro ?_ ?_ | exact wkB)
  refine SemK.glue ?_
  refine run_to tmD 4000 [] rfl (by repeat' first | refine And.intro ?_ ?_ | exact oblA) ?_
  refine SemK.weakTo [] (SemK.cut (SemK.permL (.swap _ _ _) (ref40_In_L1 b1 b2 a0 a1 q4 w4 a1.Late 0 (by simp) [] Keyd.nil (fun hK2 => ?_)))) rfl (by repeat' first | refine And.intro ?_ ?_ | exact wkA) (by repeat' first | refine And.intro ?_ ?_ | exact wkB)
  refine SemK.glue ?_
  refine run_to tmD 4000 [] rfl (by repeat' first | refine And.intro ?_ ?_ | exact oblA) ?_
  refine SemK.weakTo [] (SemK.cut (SemK.permL (.swap _ _ _) (ref40_In_L2 b1 b2 a0 a1 q1 w1 a0.Rows 0 (by simp) _ hK1 (fun hs es => ?_) (fun hs es => ?_)))) rfl (by repeat' first | refine And.intro ?_ ?_ | exact wkA) (by repeat' first | refine And.intro ?_ ?_ | exact wkB)
  · refine SemK.glue ?_
    refine run_to tmD 4000 [] rfl (by repeat' first | refine And.intro ?_ ?_ | exact oblA) ?_
    refine SemK.weakTo [] (SemK.cut (SemK.permL (.swap _ _ _) (ref40_In_L3 b1 b2 a0 a1 q2 w2 a0.Late 0 (by simp) _ hK2 (fun hs2 es2 => ?_) (fun hs2 es2 => ?_)))) rfl (by repeat' first | refine And.intro ?_ ?_ | exact wkA) (by repeat' first | refine And.intro ?_ ?_ | exact wkB)
    · refine SemK.glue ?_
      refine run_to tmD 4000 [] rfl (by repeat' first | refine And.intro ?_ ?_ | exact oblA) ?_
      refine fin_ret rfl ?_
      rw [hs, hs2]; exact .sc
    · refine SemK.glue ?_
      refine run_to tmD 4000 [] rfl (by repeat' first | refine And.intro ?_ ?_ | exact oblA) ?_
      refine fin_ret rfl ?_
      rw [hs, hs2]; exact .sc
  · refine SemK.glue ?_
    refine run_to tmD 4000 [] rfl (by repeat' first | refine And.intro ?_ ?_ | exact oblA) ?_
    refine fin_ret rfl ?_
    rw [hs]; exact .sc

theorem ref40_Part_ok (a0 : GOutputs) (a1 : GOutputs) (r : Bool × Int) (h : ref40_Part a0 a1 = some r) : Pure Try.prog 12 [(enc_GOutputs false a0), (enc_GOutputs false a1)] (AV.tup [(aB r.1), (aI .i64 r.2)]) := by
  refine Pure.sym tyTab_ok fn12 (nt := 15) rfl rfl ?_ (allCons (free_GOutputs false _ _).1 (allCons (free_GOutputs false _ _).1 allNil))
  unfold ref40_Part at h
  refine bindE h ?_
  clear h; intro j6_11 h12 h
  refine run_to tmD 4000 [.stop 1] rfl (by repeat' first | refine And.intro ?_ ?_ | exact oblA) ?_
  refine SemK.join (s' := ⟨fr [(2, (AV.ptr 0 0 0)), (3, (AV.ptr 1 0 0)), (11, (aB j6_11))], hp ([(0, { es := [(enc_GOutputs false a0)], esz := 2 }), (1, { es := [(enc_GOutputs false a1)], esz := 2 })]), 2⟩) ?_ (fun J => SemK.cut ?_)
  ·
    refine brE h ?_ ?_
    · clear h; intro h13 h
      obtain rfl := Option.some.inj h
      refine run_to tmD 4000 [.br true] rfl (by repeat' first | refine And.intro ?_ ?_ | exact oblA) ?_
      refine fin_ret rfl ?_
      exact (cv_tup (Cvs.cons .sc (Cvs.cons .sc Cvs.nil)))
    · clear h; intro h13 h
      refine bindE h ?_
      clear h; intro v14 h15 h
      obtain rfl := Option.some.inj h
      refine run_to tmD 4000 [.br false, .pure [(enc_GOutputs false a0), (enc_GOutputs false a1)] (aB v14)] rfl (by repeat' first | refine And.intro ?_ ?_ | exact (PureCall.none (ref40_In_ok _ _ _ h15) (Cvs.cons (cv_agg (Cvs.cons (cv_list (flat_map flat_GRow a0.Rows)) (Cvs.cons (cv_list (flat_map flat_GRecord a0.Late)) Cvs.nil))) (Cvs.cons (cv_agg (Cvs.cons (cv_list (flat_map flat_GRow a1.Rows)) (Cvs.cons (cv_list (flat_map flat_GRecord a1.Late)) Cvs.nil))) Cvs.nil))) | exact oblA) ?_
      refine fin_ret rfl ?_
      exact (cv_tup (Cvs.cons .sc (Cvs.cons .sc Cvs.nil)))
  ·
    clear h
    have h := h12
    refine bindE h ?_
    clear h; intro v7 h8 h
    refine brE h ?_ ?_
    · clear h; intro h9 h
      obtain rfl := Option.some.inj h
      refine run_to tmD 4000 [.pure [(enc_GOutputs false a0)] (aB v7), .go false, .go false] rfl (by repeat' first | refine And.intro ?_ ?_ | exact (PureCall.none (ref40_many_ok _ _ h8) (Cvs.cons (cv_agg (Cvs.cons (cv_list (flat_map flat_GRow a0.Rows)) (Cvs.cons (cv_list (flat_map flat_GRecord a0.Late)) Cvs.nil))) Cvs.nil)) | exact oblA) ?_
      refine SemK.weakTo [] (SemK.glue J) rfl (by repeat' first | refine And.intro ?_ ?_ | exact wkA) (by repeat' first | refine And.intro ?_ ?_ | exact wkB)
    · clear h; intro h9 h
      refine bindE h ?_
      clear h; intro v10 h11 h
      obtain rfl := Option.some.inj h
      refine run_to tmD 4000 [.pure [(enc_GOutputs false a0)] (aB v7), .go true, .go true, .pure [(enc_GOutputs false a1)] (aB v10)] rfl (by repeat' first | refine And.intro ?_ ?_ | exact (PureCall.none (ref40_many_ok _ _ h8) (Cvs.cons (cv_agg (Cvs.cons (cv_list (flat_map flat_GRow a0.Rows)) (Cvs.cons (cv_list (flat_map flat_GRecord a0.Late)) Cvs.nil))) Cvs.nil)) | exact (PureCall.none (ref40_many_ok _ _ h11) (Cvs.cons (cv_agg (Cvs.cons (cv_list (flat_map flat_GRow a1.Rows)) (Cvs.cons (cv_list (flat_map flat_GRecord a1.Late)) Cvs.nil))) Cvs.nil)) | exact oblA) ?_
      refine SemK.weakTo [] (SemK.glue J) rfl (by repeat' first | refine And.intro ?_ ?_ | exact wkA) (by repeat' first | refine And.intro ?_ ?_ | exact wkB)

theorem prefix_Same_ok (a0 : GOutputs) (a1 : GOutputs) (r : Bool × Int) (h : prefix_Same a0 a1 = some r) : Pure Try.prog 13 [(enc_GOutputs false a0), (enc_GOutputs false a1)] (AV.tup [(aB r.1), (aI .i64 r.2)]) := by
  refine Pure.sym tyTab_ok fn13 (nt := 34) rfl rfl ?_ (allCons (free_GOutputs false _ _).1 (allCons (free_GOutputs false _ _).1 allNil))
  unfold prefix_Same at h
  refine bindE h ?_
  clear h; intro v1 h2 h
  refine bindE h ?_
  clear h; intro j5_4 h8 h
  refine run_to tmD 4000 [.pure [(enc_GOutputs false a0), (enc_GOutputs false a1)] (AV.tup [(aB v1.1), (aI .i64 v1.2)]), .stop 2] rfl (by repeat' first | refine And.intro ?_ ?_ | exact (PureCall.none (prefix_Part_ok _ _ _ h2) (Cvs.cons (cv_agg (Cvs.cons (cv_list (flat_map flat_GRow a0.Rows)) (Cvs.cons (cv_list (flat_map flat_GRecord a0.Late)) Cvs.nil))) (Cvs.cons (cv_agg (Cvs.cons (cv_list (flat_map flat_GRow a1.Rows)) (Cvs.cons (cv_list (flat_map flat_GRecord a1.Late)) Cvs.nil))) Cvs.nil))) | exact oblA) ?_
  refine SemK.join (s' := ⟨fr [(4, (aB j5_4)), (5, (aI .i64 v1.2))], hp ([]), 0⟩) ?_ (fun J => SemK.cut ?_)
  ·
    obtain rfl := Option.some.inj h
    refine run_to tmD 4000 [] rfl (by repeat' first | refine And.intro ?_ ?_ | exact oblA) ?_
    refine fin_ret rfl ?_
    exact (cv_tup (Cvs.cons .sc (Cvs.cons .sc Cvs.nil)))
  ·
    clear h
    have h := h8
    refine brE h ?_ ?_
    · clear h; intro h6 h
      refine run_to tmD 4000 [.go true, .go true, .go true, .el (aI .i64 (List.length a0.Rows : Int)), .go true, .go true, .go true, .el (aI .i64 (List.length a1.Rows : Int)), .go true, .stop 0] rfl (by repeat' first | refine And.intro ?_ ?_ | exact (PureCall.none (prefix_Part_ok _ _ _ h2) (Cvs.cons (cv_agg (Cvs.cons (cv_list (flat_map flat_GRow a0.Rows)) (Cvs.cons (cv_list (flat_map flat_GRecord a0.Late)) Cvs.nil))) (Cvs.cons (cv_agg (Cvs.cons (cv_list (flat_map flat_GRow a1.Rows)) (Cvs.cons (cv_list (flat_map flat_GRecord a1.Late)) Cvs.nil))) Cvs.nil))) | exact oblA) ?_
      refine brE h ?_ ?_
      · clear h; intro h7 h
        obtain rfl := Option.some.inj h
        refine run_to tmD 4000 [.go true, .go true, .go true, .el (aI .i64 (List.length a0.Late : Int)), .go true, .go true, .go true, .el (aI .i64 (List.length a1.Late : Int)), .go true] rfl (by repeat' first | refine And.intro ?_ ?_ | exact ((bif_t h6 h7)) | exact (bnot_of (bif_t h6 h7)) | exact (absN (bif_t h6 h7)) | exact oblA) ?_
        refine SemK.weakTo [] (SemK.glue J) rfl (by repeat' first | refine And.intro ?_ ?_ | exact wkA) (by repeat' first | refine And.intro ?_ ?_ | exact wkB)
      · clear h; intro h7 h
        obtain rfl := Option.some.inj h
        refine run_to tmD 4000 [.go false, .go false, .go false, .go false, .go false, .go false, .go false] rfl (by repeat' first | refine And.intro ?_ ?_ | exact ((bif_t h6 h7)) | exact (bnot_of (bif_t h6 h7)) | exact (absT (bif_t h6 h7)) | exact oblA) ?_
        refine SemK.weakTo [] (SemK.glue J) rfl (by repeat' first | refine And.intro ?_ ?_ | exact wkA) (by repeat' first | refine And.intro ?_ ?_ | exact wkB)
    · clear h; intro h6 h
      obtain rfl := Option.some.inj h
      refine run_to tmD 4000 [.go false, .go false, .go false, .go false, .go false, .go false, .go false, .go false, .go false, .go false, .go false, .go false, .go false, .go false] rfl (by repeat' first | refine And.intro ?_ ?_ | exact (PureCall.none (prefix_Part_ok _ _ _ h2) (Cvs.cons (cv_agg (Cvs.cons (cv_list (flat_map flat_GRow a0.Rows)) (Cvs.cons (cv_list (flat_map flat_GRecord a0.Late)) Cvs.nil))) (Cvs.cons (cv_agg (Cvs.cons (cv_list (flat_map flat_GRow a1.Rows)) (Cvs.cons (cv_list (flat_map flat_GRecord a1.Late)) Cvs.nil))) Cvs.nil))) | exact ((bif_f h6 rfl)) | exact (bnot_of (bif_f h6 rfl)) | exact (absT (bif_f h6 rfl)) | exact oblA) ?_
      refine SemK.weakTo [] (SemK.glue J) rfl (by repeat' first | refine And.intro ?_ ?_ | exact wkA) (by repeat' first | refine And.intro ?_ ?_ | exact wkB)

theorem ref40_Same_ok (a0 : GOutputs) (a1 : GOutputs) (r : Bool × Int) (h : ref40_Same a0 a1 = some r) : Pure Try.prog 14 [(enc_GOutputs false a0), (enc_GOutputs false a1)] (AV.tup [(aB r.1), (aI .i64 r.2)]) := by
  refine Pure.sym tyTab_ok fn14 (nt := 20) rfl rfl ?_ (allCons (free_GOutputs false _ _).1 (allCons (free_GOutputs false _ _).1 allNil))
  unfold ref40_Same at h
  refine bindE h ?_
  clear h; intro j6_11 h12 h
  refine run_to tmD 4000 [.stop 1] rfl (by repeat' first | refine And.intro ?_ ?_ | exact oblA) ?_
  refine SemK.join (s' := ⟨fr [(2, (AV.ptr 0 0 0)), (3, (AV.ptr 1 0 0)), (11, (aB j6_11))], hp ([(0, { es := [(enc_GOutputs false a0)], esz := 2 }), (1, { es := [(enc_GOutputs false a1)], esz := 2 })]), 2⟩) ?_ (fun J => SemK.cut ?_)
  ·
    refine brE h ?_ ?_
    · clear h; intro h13 h
      obtain rfl := Option.some.inj h
      refine run_to tmD 4000 [.br true] rfl (by repeat' first | refine And.intro ?_ ?_ | exact oblA) ?_
      refine fin_ret rfl ?_
      exact (cv_tup (Cvs.cons .sc (Cvs.cons .sc Cvs.nil)))
    · clear h; intro h13 h
      refine bindE h ?_
      clear h; intro j19_4 h25 h
      refine run_to tmD 4000 [.br false, .stop 3] rfl (by repeat' first | refine And.intro ?_ ?_ | exact oblA) ?_
      refine SemK.join (s' := ⟨fr [(4, (aB j19_4)), (5, (aI .i64 0))], hp ([]), 0⟩) ?_ (fun J => SemK.cut ?_)
      ·
        obtain rfl := Option.some.inj h
        refine run_to tmD 4000 [] rfl (by repeat' first | refine And.intro ?_ ?_ | exact oblA) ?_
        refine fin_ret rfl ?_
        exact (cv_tup (Cvs.cons .sc (Cvs.cons .sc Cvs.nil)))
      ·
        clear h
        have h := h25
        refine bindE h ?_
        clear h; intro v20 h21 h
        refine brE h ?_ ?_
        · clear h; intro h22 h
          refine bindE h ?_
          clear h; intro v23 h24 h
          obtain rfl := Option.some.inj h
          refine run_to tmD 4000 [.pure [(enc_GOutputs false a0), (enc_GOutputs false a1)] (aB v20), .go true, .go true, .go true, .pure [(enc_GOutputs false a1), (enc_GOutputs false a0)] (aB v23)] rfl (by repeat' first | refine And.intro ?_ ?_ | exact (PureCall.none (ref40_In_ok _ _ _ h21) (Cvs.cons (cv_agg (Cvs.cons (cv_list (flat_map flat_GRow a0.Rows)) (Cvs.cons (cv_list (flat_map flat_GRecord a0.Late)) Cvs.nil))) (Cvs.cons (cv_agg (Cvs.cons (cv_list (flat_map flat_GRow a1.Rows)) (Cvs.cons (cv_list (flat_map flat_GRecord a1.Late)) Cvs.nil))) Cvs.nil))) | exact (PureCall.none (ref40_In_ok _ _ _ h24) (Cvs.cons (cv_agg (Cvs.cons (cv_list (flat_map flat_GRow a1.Rows)) (Cvs.cons (cv_list (flat_map flat_GRecord a1.Late)) Cvs.nil))) (Cvs.cons (cv_agg (Cvs.cons (cv_list (flat_map flat_GRow a0.Rows)) (Cvs.cons (cv_list (flat_map flat_GRecord a0.Late)) Cvs.nil))) Cvs.nil))) | exact oblA) ?_
          refine SemK.weakTo [] (SemK.glue J) rfl (by repeat' first | refine And.intro ?_ ?_ | exact wkA) (by repeat' first | refine And.intro ?_ ?_ | exact wkB)
        · clear h; intro h22 h
          obtain rfl := Option.some.inj h
          refine run_to tmD 4000 [.pure [(enc_GOutputs false a0), (enc_GOutputs false a1)] (aB v20), .go false, .go false, .go false] rfl (by repeat' first | refine And.intro ?_ ?_ | exact (PureCall.none (ref40_In_ok _ _ _ h21) (Cvs.cons (cv_agg (Cvs.cons (cv_list (flat_map flat_GRow a0.Rows)) (Cvs.cons (cv_list (flat_map flat_GRecord a0.Late)) Cvs.nil))) (Cvs.cons (cv_agg (Cvs.cons (cv_list (flat_map flat_GRow a1.Rows)) (Cvs.cons (cv_list (flat_map flat_GRecord a1.Late)) Cvs.nil))) Cvs.nil))) | exact oblA) ?_
          refine SemK.weakTo [] (SemK.glue J) rfl (by repeat' first | refine And.intro ?_ ?_ | exact wkA) (by repeat' first | refine And.intro ?_ ?_ | exact wkB)
  ·
    clear h
    have h := h12
    refine bindE h ?_
    clear h; intro v7 h8 h
    refine brE h ?_ ?_
    · clear h; intro h9 h
      obtain rfl := Option.some.inj h
      refine run_to tmD 4000 [.pure [(enc_GOutputs false a0)] (aB v7), .go false, .go false] rfl (by repeat' first | refine And.intro ?_ ?_ | exact (PureCall.none (ref40_many_ok _ _ h8) (Cvs.cons (cv_agg (Cvs.cons (cv_list (flat_map flat_GRow a0.Rows)) (Cvs.cons (cv_list (flat_map flat_GRecord a0.Late)) Cvs.nil))) Cvs.nil)) | exact oblA) ?_
      refine SemK.weakTo [] (SemK.glue J) rfl (by repeat' first | refine And.intro ?_ ?_ | exact wkA) (by repeat' first | refine And.intro ?_ ?_ | exact wkB)
    · clear h; intro h9 h
      refine bindE h ?_
      clear h; intro v10 h11 h
      obtain rfl := Option.some.inj h
      refine run_to tmD 4000 [.pure [(enc_GOutputs false a0)] (aB v7), .go true, .go true, .pure [(enc_GOutputs false a1)] (aB v10)] rfl (by repeat' first | refine And.intro ?_ ?_ | exact (PureCall.none (ref40_many_ok _ _ h8) (Cvs.cons (cv_agg (Cvs.cons (cv_list (flat_map flat_GRow a0.Rows)) (Cvs.cons (cv_list (flat_map flat_GRecord a0.Late)) Cvs.nil))) Cvs.nil)) | exact (PureCall.none (ref40_many_ok _ _ h11) (Cvs.cons (cv_agg (Cvs.cons (cv_list (flat_map flat_GRow a1.Rows)) (Cvs.cons (cv_list (flat_map flat_GRecord a1.Late)) Cvs.nil))) Cvs.nil)) | exact oblA) ?_
      refine SemK.weakTo [] (SemK.glue J) rfl (by repeat' first | refine And.intro ?_ ?_ | exact wkA) (by repeat' first | refine And.intro ?_ ?_ | exact wkB)

theorem law40_PrefixParts_ok (a0 : GOutputs) (a1 : GOutputs) (r : Bool) (h : law40_PrefixParts a0 a1 = some r) : Pure Try.prog 3 [(enc_GOutputs false a0), (enc_GOutputs false a1)] (aB r) := by
  refine Pure.sym tyTab_ok fn3 (nt := 61) rfl rfl ?_ (allCons (free_GOutputs false _ _).1 (allCons (free_GOutputs false _ _).1 allNil))
  unfold law40_PrefixParts at h
  refine bindE h ?_
  clear h; intro j6_18 h12 h
  refine run_to tmD 4000 [.stop 1] rfl (by repeat' first | refine And.intro ?_ ?_ | exact oblA) ?_
  refine SemK.join (s' := ⟨fr [(2, (AV.ptr 0 0 0)), (3, (AV.ptr 1 0 0)), (18, (aB j6_18))], hp ([(0, { es := [(enc_GOutputs false a0)], esz := 2 }), (1, { es := [(enc_GOutputs false a1)], esz := 2 })]), 2⟩) ?_ (fun J => SemK.cut ?_)
  ·
    refine brE h ?_ ?_
    · clear h; intro h13 h
      obtain rfl := Option.some.inj h
      refine run_to tmD 4000 [.br true] rfl (by repeat' first | refine And.intro ?_ ?_ | exact oblA) ?_
      refine fin_ret rfl ?_
      exact .sc
    · clear h; intro h13 h
      refine bindE h ?_
      clear h; intro v14 h15 h
      refine bindE h ?_
      clear h; intro v16 h17 h
      refine bindE h ?_
      clear h; intro v18 h19 h
      refine bindE h ?_
      clear h; intro v20 h21 h
      obtain rfl := Option.some.inj h
      refine run_to tmD 4000 [.br false, .pure [(enc_GOutputs false a0), (enc_GOutputs false a1)] (AV.tup [(aB v14.1), (aI .i64 v14.2)]), .pure [(enc_GOutputs false a0), (enc_GOutputs false a1)] (AV.tup [(aB v16.1), (aI .i64 v16.2)]), .pure [(enc_GOutputs false a0), (enc_GOutputs false a1)] (AV.tup [(aB v18.1), (aI .i64 v18.2)]), .pure [(enc_GOutputs false a0), (enc_GOutputs false a1)] (AV.tup [(aB v20.1), (aI .i64 v20.2)])] rfl (by repeat' first | refine And.intro ?_ ?_ | exact (PureCall.none (prefix_Part_ok _ _ _ h15) (Cvs.cons (cv_agg (Cvs.cons (cv_list (flat_map flat_GRow a0.Rows)) (Cvs.cons (cv_list (flat_map flat_GRecord a0.Late)) Cvs.nil))) (Cvs.cons (cv_agg (Cvs.cons (cv_list (flat_map flat_GRow a1.Rows)) (Cvs.cons (cv_list (flat_map flat_GRecord a1.Late)) Cvs.nil))) Cvs.nil))) | exact (PureCall.none (ref40_Part_ok _ _ _ h17) (Cvs.cons (cv_agg (Cvs.cons (cv_list (flat_map flat_GRow a0.Rows)) (Cvs.cons (cv_list (flat_map flat_GRecord a0.Late)) Cvs.nil))) (Cvs.cons (cv_agg (Cvs.cons (cv_list (flat_map flat_GRow a1.Rows)) (Cvs.cons (cv_list (flat_map flat_GRecord a1.Late)) Cvs.nil))) Cvs.nil))) | exact (PureCall.none (prefix_Same_ok _ _ _ h19) (Cvs.cons (cv_agg (Cvs.cons (cv_list (flat_map flat_GRow a0.Rows)) (Cvs.cons (cv_list (flat_map flat_GRecord a0.Late)) Cvs.nil))) (Cvs.cons (cv_agg (Cvs.cons (cv_list (flat_map flat_GRow a1.Rows)) (Cvs.cons (cv_list (flat_map flat_GRecord a1.Late)) Cvs.nil))) Cvs.nil))) | exact (PureCall.none (ref40_Same_ok _ _ _ h21) (Cvs.cons (cv_agg (Cvs.cons (cv_list (flat_map flat_GRow a0.Rows)) (Cvs.cons (cv_list (flat_map flat_GRecord a0.Late)) Cvs.nil))) (Cvs.cons (cv_agg (Cvs.cons (cv_list (flat_map flat_GRow a1.Rows)) (Cvs.cons (cv_list (flat_map flat_GRecord a1.Late)) Cvs.nil))) Cvs.nil))) | exact oblA) ?_
      refine fin_ret rfl ?_
      exact .sc
  ·
    clear h
    have h := h12
    refine bindE h ?_
    clear h; intro v7 h8 h
    refine brE h ?_ ?_
    · clear h; intro h9 h
      obtain rfl := Option.some.inj h
      refine run_to tmD 4000 [.pure [(enc_GOutputs false a0)] (aB v7), .go false, .go false] rfl (by repeat' first | refine And.intro ?_ ?_ | exact (PureCall.none (ref40_Great_ok _ _ h8) (Cvs.cons (cv_agg (Cvs.cons (cv_list (flat_map flat_GRow a0.Rows)) (Cvs.cons (cv_list (flat_map flat_GRecord a0.Late)) Cvs.nil))) Cvs.nil)) | exact oblA) ?_
      refine SemK.weakTo [] (SemK.glue J) rfl (by repeat' first | refine And.intro ?_ ?_ | exact wkA) (by repeat' first | refine And.intro ?_ ?_ | exact wkB)
    · clear h; intro h9 h
      refine bindE h ?_
      clear h; intro v10 h11 h
      obtain rfl := Option.some.inj h
      refine run_to tmD 4000 [.pure [(enc_GOutputs false a0)] (aB v7), .go true, .go true, .pure [(enc_GOutputs false a1)] (aB v10)] rfl (by repeat' first | refine And.intro ?_ ?_ | exact (PureCall.none (ref40_Great_ok _ _ h8) (Cvs.cons (cv_agg (Cvs.cons (cv_list (flat_map flat_GRow a0.Rows)) (Cvs.cons (cv_list (flat_map flat_GRecord a0.Late)) Cvs.nil))) Cvs.nil)) | exact (PureCall.none (ref40_Great_ok _ _ h11) (Cvs.cons (cv_agg (Cvs.cons (cv_list (flat_map flat_GRow a1.Rows)) (Cvs.cons (cv_list (flat_map flat_GRecord a1.Late)) Cvs.nil))) Cvs.nil)) | exact oblA) ?_
      refine SemK.weakTo [] (SemK.glue J) rfl (by repeat' first | refine And.intro ?_ ?_ | exact wkA) (by repeat' first | refine And.intro ?_ ?_ | exact wkB)
end Go.Av.Try
