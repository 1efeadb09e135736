/- Printed by decomp.py: that the program computes the functions. -/
import Derived.Test.YtfdfgobnpnoomaaGreatDCert9Z
set_option linter.all false
set_option linter.unusedVariables false
namespace Go.Av.Tryz
open Go.Proofs Go.D
set_option maxRecDepth 10000
set_option maxHeartbeats 4000000

theorem store_Add_store_meet_L0_ok {Q : AExit → St → Mu → Prop} {μ : Mu} : ∀ (n : Nat) (y0_o25 : (List GEntry)) (y0_o26 : GEntry) (nb_y0_o25 : Nb y0_o25) (o : store_Add_store_meet_L0_o) (h : store_Add_store_meet_L0  n y0_o25 y0_o26 = some o)
  (C0 : ∀ (z0_0_o25 : (List GEntry)) (z0_0_5 : Int) (nb_z0_0_o25 : Nb z0_0_o25), o = store_Add_store_meet_L0_o.x0 z0_0_o25 z0_0_5 → SemK Tryz.prog 54 25 Q (.exit .ret) [] ⟨fr [(4, (slE nb_z0_0_o25.1 25 (List.map enc_GEntry z0_0_o25))), (5, (aI .i64 z0_0_5))], hp ([] ++ opE nb_z0_0_o25.1 25 11 (List.map enc_GEntry z0_0_o25)), 26⟩ μ),
  SemK Tryz.prog 54 25 Q (.loop (loopB 0 (bodyOf Tryz.f82))) [] ⟨fr [(0, (slE nb_y0_o25.1 25 (List.map enc_GEntry y0_o25))), (3, (AV.ptr 26 0 0))], hp ([(26, { es := [(enc_GEntry y0_o26)], esz := 11 })] ++ opE nb_y0_o25.1 25 11 (List.map enc_GEntry y0_o25)), 27⟩ μ := by
 intro n
 induction n with
 | zero => intro y0_o25 y0_o26 nb_y0_o25 o h C0; cases h
 | succ n ih =>
  intro y0_o25 y0_o26 nb_y0_o25 o h C0
  rw [store_Add_store_meet_L0] at h
  rcases nb_y0_o25 with ⟨_ | _, hn_y0_o25⟩
  ·
   refine SemK.round ?_
   refine bindE h ?_
   clear h; intro j1319_10 h1340 h
   refine runT tmD [] ?_
   refine SemK.joinOp (s' := ⟨fr [(0, (AV.ref 25 0 (List.length y0_o25))), (3, (AV.ptr 26 0 0)), (10, (aI .i64 j1319_10))], hp ([(25, { es := List.map enc_GEntry y0_o25, esz := 11 }), (26, { es := [(enc_GEntry y0_o26)], esz := 11 })]), 27⟩) ?_ (fun J => ?_)
   ·
    refine brE h ?_ ?_
    ·clear h; intro h1341 h
     refine bindE h ?_
     clear h; intro w1388 h1435 h
     obtain ⟨j1388_o25, j1388_15_1⟩ := w1388
     try dsimp only at h
     refine runT tmD [.br true] ?_
     refine SemK.joinOpF (fun (q : Nb j1388_o25) => ⟨fr [(15, (AV.tup [(slE q.1 25 (List.map enc_GEntry j1388_o25)), (aI .i64 j1388_15_1)]))], hp ([] ++ opE q.1 25 11 (List.map enc_GEntry j1388_o25)), 26⟩) ?_ (fun J => ?_)
     ·
      rintro nb_j1388_o25
      rcases nb_j1388_o25 with ⟨_ | _, hn_j1388_o25⟩
      ·
       obtain rfl := Option.some.inj h
       refine runT tmD [] ?_
       exact wkT [] (C0 _ _  nbF rfl)
      ·
       obtain rfl := hn_j1388_o25 rfl
       obtain rfl := Option.some.inj h
       refine runT tmD [] ?_
       exact wkT [] (C0 _ _  (nbT (by first | rfl | simp [*])) rfl)
     ·
      clear h
      have h := h1435
      refine SemK.inline tyTab_ok fn84 rfl rfl rfl rfl rfl trivial trivial rfl rfl ?_
      refine bindE h ?_
      clear h; intro v1389 h1390 h
      refine brE h ?_ ?_
      ·clear h; intro h1391 h
       refine brE h ?_ ?_
       ·clear h; intro h1392 h
        refine bindE h ?_
        clear h; intro _ h1408 h
        refine run_to tmD 4000 [.pure [(AV.list false (List.map enc_GEntry y0_o25)), (enc_GEntry y0_o26), (AV.fn 110 [])] (AV.tup [(aI .i64 v1389.1), (aB v1389.2)]), .br true] rfl (by repeat' first | refine And.intro ?_ ?_ | exact (PureCall.lent (slices_BinarySearchFunc_Entry_Entry_Entry_store_order_ok _ _ _ h1390) (Cvs.cons (cv_ref (es := List.map enc_GEntry y0_o25) rfl (by first | rfl | (simp; done) | (simp; rfl) | (simp [h1341]; done) | (simp [h1341]; rfl) | (simp [h1341, List.map_take, List.map_drop]; done) | (simp [h1341, List.map_take, List.map_drop]; rfl)) (by first | rfl | (simp; done) | (simp; omega) | (simp [h1341]; done) | (simp [h1341]; omega)) (flat_map flat_GEntry y0_o25)) (Cvs.cons (cvf_GEntry (x := y0_o26)) (Cvs.cons .fn0 Cvs.nil))) (ownTup (allCons .sc (allCons .sc allNil)))) | exact oblA) ?_
        refine SemK.joinOp (s' := ⟨fr [(21, (AV.ref 27 0 (List.length (y0_o25 ++ [y0_o26]))))], hp ([(27, { es := List.map enc_GEntry (y0_o25 ++ [y0_o26]), esz := 11 })]), 28⟩) ?_ (fun J => ?_)
        ·
         cases h
         refine runT tmD [] ?_
         refine SemK.back (by intro id h; cases h) rfl ?_
         exact wkT [(25, 27)] ((J nbF))
        ·
         clear h
         have h := h1408
         refine SemK.inline tyTab_ok fn120 rfl rfl rfl rfl rfl trivial trivial rfl rfl ?_
         refine bindE h ?_
         clear h; intro m1401 h1402 h
         obtain ⟨qah1402, qbh1402, qch1402, qh1402⟩ := sliceI_ok h1402
         have qlh1402 := sliceI_len h1402
         refine brE h ?_ ?_
         ·clear h; intro h1403 h
          refine bindE h ?_
          clear h; intro u1404 h1405 h
          refine run_to tmD 4000 [.ne false, .br false, .el (aI .i64 (List.length y0_o25 : Int)), .br true, .no] rfl (by repeat' first | refine And.intro ?_ ?_ | (simp at qah1402 qbh1402 qch1402 ⊢; omega) | (simp at qah1402 qbh1402 qch1402 qlh1402 ⊢; have qz := part_zero h1403; omega) | (refine capLe h1405 rfl ?_; first | (simp; done) | (simp; omega) | (simp [h1341, h1391, h1392, h1403]; done) | (simp [h1341, h1391, h1392, h1403]; omega)) | (refine capMax h1405 (by decide) ?_; first | (simp; done) | (simp; omega) | (simp [h1341, h1391, h1392, h1403]; done) | (simp [h1341, h1391, h1392, h1403]; omega)) | exact oblA) ?_
          refine SemK.back (by intro id h; cases h) rfl ?_
          exact wkT [(27, 29)] (J)
         ·clear h; intro h1403 h
          refine bindE h ?_
          clear h; intro u1406 h1407 h
          refine run_to tmD 4000 [.via (.ref 25 (Int.toNat v1389.1) (List.length m1401)), .br false, .el (aI .i64 (List.length y0_o25 : Int)), .br true, .no] rfl (by repeat' first | refine And.intro ?_ ?_ | (simp at qah1402 qbh1402 qch1402 ⊢; omega) | (simp at qah1402 qbh1402 qch1402 qlh1402 ⊢; have qz := part_pos h1403; omega) | (simp at qah1402 qbh1402 qch1402 qlh1402 ⊢; omega) | (simp; done) | (refine capLe h1407 rfl ?_; first | (simp; done) | (simp; omega) | (simp [h1341, h1391, h1392, h1403]; done) | (simp [h1341, h1391, h1392, h1403]; omega)) | (refine capMax h1407 (by decide) ?_; first | (simp; done) | (simp; omega) | (simp [h1341, h1391, h1392, h1403]; done) | (simp [h1341, h1391, h1392, h1403]; omega)) | exact oblA) ?_
          refine SemK.back (by intro id h; cases h) rfl ?_
          exact wkT [(27, 29)] (J)
       ·clear h; intro h1392 h
        refine bindE h ?_
        clear h; intro m1409 h1410 h
        refine run_to tmD 4000 [.pure [(AV.list false (List.map enc_GEntry y0_o25)), (enc_GEntry y0_o26), (AV.fn 110 [])] (AV.tup [(aI .i64 v1389.1), (aB v1389.2)]), .br true] rfl (by repeat' first | refine And.intro ?_ ?_ | exact (PureCall.lent (slices_BinarySearchFunc_Entry_Entry_Entry_store_order_ok _ _ _ h1390) (Cvs.cons (cv_ref (es := List.map enc_GEntry y0_o25) rfl (by first | rfl | (simp; done) | (simp; rfl) | (simp [h1341]; done) | (simp [h1341]; rfl) | (simp [h1341, List.map_take, List.map_drop]; done) | (simp [h1341, List.map_take, List.map_drop]; rfl)) (by first | rfl | (simp; done) | (simp; omega) | (simp [h1341]; done) | (simp [h1341]; omega)) (flat_map flat_GEntry y0_o25)) (Cvs.cons (cvf_GEntry (x := y0_o26)) (Cvs.cons .fn0 Cvs.nil))) (ownTup (allCons .sc (allCons .sc allNil)))) | exact oblA) ?_
        refine SemK.hcall rfl rfl rfl rfl rfl trivial trivial (insert_z ⟨_, _, fn120⟩ (f := enc_GEntry) (l := y0_o25) (x := y0_o26) h1410 rfl rfl rfl (by first | rfl | simp)) ?_
        cases h
        refine runT tmD [] ?_
        refine SemK.back (by intro id h; cases h) rfl ?_
        exact wkT [(25, 29)] ((J nbF))
      ·clear h; intro h1391 h
       refine run_to tmD 4000 [.pure [(AV.list false (List.map enc_GEntry y0_o25)), (enc_GEntry y0_o26), (AV.fn 110 [])] (AV.tup [(aI .i64 v1389.1), (aB v1389.2)]), .br false, .stop 4] rfl (by repeat' first | refine And.intro ?_ ?_ | exact (PureCall.lent (slices_BinarySearchFunc_Entry_Entry_Entry_store_order_ok _ _ _ h1390) (Cvs.cons (cv_ref (es := List.map enc_GEntry y0_o25) rfl (by first | rfl | (simp; done) | (simp; rfl) | (simp [h1341]; done) | (simp [h1341]; rfl) | (simp [h1341, List.map_take, List.map_drop]; done) | (simp [h1341, List.map_take, List.map_drop]; rfl)) (by first | rfl | (simp; done) | (simp; omega) | (simp [h1341]; done) | (simp [h1341]; omega)) (flat_map flat_GEntry y0_o25)) (Cvs.cons (cvf_GEntry (x := y0_o26)) (Cvs.cons .fn0 Cvs.nil))) (ownTup (allCons .sc (allCons .sc allNil)))) | exact oblA) ?_
       refine bindE h ?_
       clear h; intro e1411 h1412 h
       try have qh1412 := getI_lt h1412
       refine SemK.drawnCut 5 tmD [.el (enc_GEntry e1411)] rfl rfl rfl rfl rfl (by repeat' first | refine And.intro ?_ ?_ | exact oblA) ?_
       refine bindE h ?_
       clear h; intro w1423 h1434 h
       obtain ⟨j1423_o27, j1423_27⟩ := w1423
       try dsimp only at h
       refine runT tmD [] ?_
       refine SemK.joinOpF (fun (q : Nb j1423_o27) => ⟨fr [(0, (slE q.1 27 (List.map enc_GEntry j1423_o27))), (27, (aI .i64 j1423_27))], hp ([] ++ opE q.1 27 11 (List.map enc_GEntry j1423_o27)), 28⟩) ?_ (fun J => ?_)
       ·
        rintro nb_j1423_o27
        rcases nb_j1423_o27 with ⟨_ | _, hn_j1423_o27⟩
        ·
         cases h
         refine runT tmD [] ?_
         refine SemK.back (by intro id h; cases h) rfl ?_
         exact wkT [(25, 27)] ((J nbF))
        ·
         obtain rfl := hn_j1423_o27 rfl
         cases h
         refine runT tmD [] ?_
         refine SemK.back (by intro id h; cases h) rfl ?_
         exact wkT [] ((J (nbT (by first | rfl | simp [*]))))
       ·
        clear h
        have h := h1434
        refine SemK.inline tyTab_ok fn115 rfl rfl rfl rfl rfl trivial trivial rfl rfl ?_
        refine runT tmD [] ?_
        refine SemK.round ?_
        refine bindE h ?_
        clear h; intro v1426 h1427 h
        refine run_to tmD 4000 [.br true, .ix 0, .ix 0, .ld (enc_GEntry e1411), .pure [(enc_GAccum e1411.Values.e0), (enc_GAccum y0_o26.Values.e0)] (AV.tup [(enc_GAccum v1426.1), (aI .i64 v1426.2)])] rfl (by repeat' first | refine And.intro ?_ ?_ | exact (PureCall.none (accums_Join_ok _ _ _ h1427) (Cvs.cons (cvf_GAccum (x := e1411.Values.e0)) (Cvs.cons (cvf_GAccum (x := y0_o26.Values.e0)) Cvs.nil))) | exact oblA) ?_
        refine brE h ?_ ?_
        ·clear h; intro h1428 h
         cases h
         refine runT tmD [.br true] ?_
         refine SemK.back (by intro id h; cases h) rfl ?_
         exact wkT [(27, 25)] ((J nbF))
        ·clear h; intro h1428 h
         refine run_to tmD 4000 [.br false, .ix 0, .ld (enc_GEntry e1411)] rfl (by repeat' first | refine And.intro ?_ ?_ | exact (List.getElem?_set_self (by have hq := getI_nat h1412; simp; omega)).trans rfl | exact oblA) ?_
         refine SemK.round ?_
         refine bindE h ?_
         clear h; intro v1431 h1432 h
         refine run_to tmD 4000 [.br true, .ix 1, .ix 1, .ld (enc_GEntry (GEntry.mk e1411.Key e1411.Span (V2.mk v1426.1 e1411.Values.e1))), .pure [(enc_GAccum (((GEntry.mk e1411.Key e1411.Span (V2.mk v1426.1 e1411.Values.e1)).Values).e1)), (enc_GAccum y0_o26.Values.e1)] (AV.tup [(enc_GAccum v1431.1), (aI .i64 v1431.2)])] rfl (by repeat' first | refine And.intro ?_ ?_ | exact (List.getElem?_set_self (by have hq := getI_nat h1412; simp; omega)).trans rfl | exact (PureCall.none (accums_Join_ok _ _ _ h1432) (Cvs.cons (cvf_GAccum (x := ((GEntry.mk e1411.Key e1411.Span (V2.mk v1426.1 e1411.Values.e1)).Values).e1)) (Cvs.cons (cvf_GAccum (x := y0_o26.Values.e1)) Cvs.nil))) | exact oblA) ?_
         refine brE h ?_ ?_
         ·clear h; intro h1433 h
          cases h
          refine run_to tmD 4000 [.br true] rfl (by repeat' first | refine And.intro ?_ ?_ | exact (List.getElem?_set_self (by have hq := getI_nat h1412; simp; omega)).trans rfl | exact oblA) ?_
          refine SemK.back (by intro id h; cases h) rfl ?_
          exact wkT [(27, 25)] ((J nbF))
         ·clear h; intro h1433 h
          refine run_to tmD 4000 [.br false, .ix 1, .ld (enc_GEntry (GEntry.mk e1411.Key e1411.Span (V2.mk v1426.1 e1411.Values.e1)))] rfl (by repeat' first | refine And.intro ?_ ?_ | exact (List.getElem?_set_self (by have hq := getI_nat h1412; simp; omega)).trans rfl | exact oblA) ?_
          refine SemK.round ?_
          cases h
          refine run_to tmD 4000 [.br false] rfl (by repeat' first | refine And.intro ?_ ?_ | exact (List.getElem?_set_self (by have hq := getI_nat h1412; simp; omega)).trans rfl | exact oblA) ?_
          refine SemK.back (by intro id h; cases h) rfl ?_
          exact wkT [(27, 25)] ((J nbF))
    ·clear h; intro h1341 h
     refine bindE h ?_
     clear h; intro e1436 h1437 h
     try have qh1437 := getI_lt h1437
     refine bindE h ?_
     clear h; intro w1448 h1459 h
     obtain ⟨j1448_o26, j1448_23⟩ := w1448
     try dsimp only at h
     refine runT tmD [.br false, .el (enc_GEntry e1436), .ld (enc_GEntry e1436)] ?_
     refine SemK.joinOp (s' := ⟨fr [(0, (AV.ref 25 0 (List.length y0_o25))), (3, (AV.ptr 26 0 0)), (6, (aI .i64 j1319_10)), (23, (aI .i64 j1448_23))], hp ([(25, { es := List.map enc_GEntry y0_o25, esz := 11 }), (26, { es := [(enc_GEntry j1448_o26)], esz := 11 })]), 27⟩) ?_ (fun J => ?_)
     ·
      refine brE h ?_ ?_
      ·clear h; intro h1460 h
       obtain rfl := Option.some.inj h
       refine runT tmD [.br true] ?_
       exact wkT [] (C0 _ _  (nbT (by first | rfl | simp [*])) rfl)
      ·clear h; intro h1460 h
       refine bindE h ?_
       clear h; intro m1461 h1462 h
       refine runT tmD [.br false, .el (enc_GEntry e1436), .ld (enc_GEntry e1436), .el (enc_GEntry e1436), .ld (enc_GEntry e1436), .wrap] ?_
       refine SemK.hcall rfl rfl rfl rfl rfl trivial trivial (delete_z ⟨_, _, fn116⟩ (f := enc_GEntry) (l := y0_o25) h1462 rfl rfl (by first | rfl | simp)) ?_
       refine runT tmD [] ?_
       exact wkT [(25, 50)] (ih  _ _ nbF o h C0)
     ·
      clear h
      have h := h1459
      refine SemK.inline tyTab_ok fn115 rfl rfl rfl rfl rfl trivial trivial rfl rfl ?_
      refine runT tmD [] ?_
      refine SemK.round ?_
      refine bindE h ?_
      clear h; intro v1451 h1452 h
      refine brE h ?_ ?_
      ·clear h; intro h1453 h
       cases h
       refine run_to tmD 4000 [.br true, .ix 0, .ix 0, .pure [(enc_GAccum y0_o26.Values.e0), (enc_GAccum e1436.Values.e0)] (AV.tup [(enc_GAccum v1451.1), (aI .i64 v1451.2)]), .br true] rfl (by repeat' first | refine And.intro ?_ ?_ | exact (PureCall.none (accums_Join_ok _ _ _ h1452) (Cvs.cons (cvf_GAccum (x := y0_o26.Values.e0)) (Cvs.cons (cvf_GAccum (x := e1436.Values.e0)) Cvs.nil))) | exact oblA) ?_
       refine SemK.back (by intro id h; cases h) rfl ?_
       exact wkT [] (J)
      ·clear h; intro h1453 h
       refine run_to tmD 4000 [.br true, .ix 0, .ix 0, .pure [(enc_GAccum y0_o26.Values.e0), (enc_GAccum e1436.Values.e0)] (AV.tup [(enc_GAccum v1451.1), (aI .i64 v1451.2)]), .br false, .ix 0] rfl (by repeat' first | refine And.intro ?_ ?_ | exact (PureCall.none (accums_Join_ok _ _ _ h1452) (Cvs.cons (cvf_GAccum (x := y0_o26.Values.e0)) (Cvs.cons (cvf_GAccum (x := e1436.Values.e0)) Cvs.nil))) | exact oblA) ?_
       refine SemK.round ?_
       refine bindE h ?_
       clear h; intro v1456 h1457 h
       refine brE h ?_ ?_
       ·clear h; intro h1458 h
        cases h
        refine run_to tmD 4000 [.br true, .ix 1, .ix 1, .pure [(enc_GAccum y0_o26.Values.e1), (enc_GAccum e1436.Values.e1)] (AV.tup [(enc_GAccum v1456.1), (aI .i64 v1456.2)]), .br true] rfl (by repeat' first | refine And.intro ?_ ?_ | exact (PureCall.none (accums_Join_ok _ _ _ h1457) (Cvs.cons (cvf_GAccum (x := y0_o26.Values.e1)) (Cvs.cons (cvf_GAccum (x := e1436.Values.e1)) Cvs.nil))) | exact oblA) ?_
        refine SemK.back (by intro id h; cases h) rfl ?_
        exact wkT [] (J)
       ·clear h; intro h1458 h
        refine run_to tmD 4000 [.br true, .ix 1, .ix 1, .pure [(enc_GAccum y0_o26.Values.e1), (enc_GAccum e1436.Values.e1)] (AV.tup [(enc_GAccum v1456.1), (aI .i64 v1456.2)]), .br false, .ix 1] rfl (by repeat' first | refine And.intro ?_ ?_ | exact (PureCall.none (accums_Join_ok _ _ _ h1457) (Cvs.cons (cvf_GAccum (x := y0_o26.Values.e1)) (Cvs.cons (cvf_GAccum (x := e1436.Values.e1)) Cvs.nil))) | exact oblA) ?_
        refine SemK.round ?_
        cases h
        refine runT tmD [.br false] ?_
        refine SemK.back (by intro id h; cases h) rfl ?_
        exact wkT [] (J)
   ·
    clear h
    have h := h1340
    refine SemK.inline tyTab_ok fn113 rfl rfl rfl rfl rfl trivial trivial rfl rfl ?_
    refine bindE h ?_
    clear h; intro u1326 h1327 h
    have qh1327 := lenOk_le h1327
    refine bindE h ?_
    clear h; intro o1338 h1339 h
    refine runT tmD [.el (aI .i64 (List.length y0_o25 : Int))] ?_
    refine wkT [] (SemK.cut (store_Add_store_meet_slices_IndexFunc_Entry_Entry_L0_ok y0_o25 y0_o26 nbF qh1327 y0_o25 0 (by simp) _ h1339 ?_ ?_))
    ·intro eo1338; subst eo1338
     refine SemK.glue ?_
     try dsimp only at h
     obtain rfl := Option.some.inj h
     refine runT tmD [] ?_
     refine SemK.back (by intro id h; cases h) rfl ?_
     exact wkT [] (J)
    ·intro z0_1_4 eo1338; subst eo1338
     refine SemK.glue ?_
     try dsimp only at h
     obtain rfl := Option.some.inj h
     refine runT tmD [] ?_
     refine SemK.back (by intro id h; cases h) rfl ?_
     exact wkT [] (J)
  ·
   obtain rfl := hn_y0_o25 rfl
   refine SemK.round ?_
   refine bindE h ?_
   clear h; intro j1480_10 h1498 h
   refine runT tmD [] ?_
   refine SemK.joinOp (s' := ⟨fr [(0, AV.nils), (3, (AV.ptr 26 0 0)), (10, (aI .i64 j1480_10))], hp ([(26, { es := [(enc_GEntry y0_o26)], esz := 11 })]), 27⟩) ?_ (fun J => ?_)
   ·
    refine brE h ?_ ?_
    ·clear h; intro h1499 h
     refine bindE h ?_
     clear h; intro w1520 h1541 h
     obtain ⟨j1520_o25, j1520_15_1⟩ := w1520
     try dsimp only at h
     refine runT tmD [.br true] ?_
     refine SemK.joinOpF (fun (q : Nb j1520_o25) => ⟨fr [(15, (AV.tup [(slE q.1 25 (List.map enc_GEntry j1520_o25)), (aI .i64 j1520_15_1)]))], hp ([] ++ opE q.1 25 11 (List.map enc_GEntry j1520_o25)), 26⟩) ?_ (fun J => ?_)
     ·
      rintro nb_j1520_o25
      rcases nb_j1520_o25 with ⟨_ | _, hn_j1520_o25⟩
      ·
       obtain rfl := Option.some.inj h
       refine runT tmD [] ?_
       exact wkT [] (C0 _ _  nbF rfl)
      ·
       obtain rfl := hn_j1520_o25 rfl
       obtain rfl := Option.some.inj h
       refine runT tmD [] ?_
       exact wkT [] (C0 _ _  (nbT (by first | rfl | simp [*])) rfl)
     ·
      clear h
      have h := h1541
      refine SemK.inline tyTab_ok fn84 rfl rfl rfl rfl rfl trivial trivial rfl rfl ?_
      refine bindE h ?_
      clear h; intro v1521 h1522 h
      refine brE h ?_ ?_
      ·clear h; intro h1523 h
       refine brE h ?_ ?_
       ·clear h; intro h1524 h
        refine bindE h ?_
        clear h; intro _ h1536 h
        refine run_to tmD 4000 [.pure [(AV.list false (List.map enc_GEntry ([] : List GEntry))), (enc_GEntry y0_o26), (AV.fn 110 [])] (AV.tup [(aI .i64 v1521.1), (aB v1521.2)]), .br true] rfl (by repeat' first | refine And.intro ?_ ?_ | exact (PureCall.none (slices_BinarySearchFunc_Entry_Entry_Entry_store_order_ok _ _ _ h1522) (Cvs.cons (cv_nils (es := List.map enc_GEntry ([] : List GEntry)) (by simp [*])) (Cvs.cons (cvf_GEntry (x := y0_o26)) (Cvs.cons .fn0 Cvs.nil)))) | exact oblA) ?_
        refine SemK.joinOp (s' := ⟨fr [(21, (AV.ref 27 0 (List.length (([] : List GEntry) ++ [y0_o26]))))], hp ([(27, { es := List.map enc_GEntry (([] : List GEntry) ++ [y0_o26]), esz := 11 })]), 28⟩) ?_ (fun J => ?_)
        ·
         cases h
         refine runT tmD [] ?_
         refine SemK.back (by intro id h; cases h) rfl ?_
         exact wkT [(25, 27)] ((J nbF))
        ·
         clear h
         have h := h1536
         refine SemK.inline tyTab_ok fn120 rfl rfl rfl rfl rfl trivial trivial rfl rfl ?_
         refine bindE h ?_
         clear h; intro m1531 h1532 h
         obtain ⟨qah1532, qbh1532, qch1532, qh1532⟩ := sliceI_ok h1532
         obtain rfl := sliceI_nil h1532
         refine brE h ?_ ?_
         ·clear h; intro h1533 h
          refine bindE h ?_
          clear h; intro u1534 h1535 h
          refine run_to tmD 4000 [.br false, .el (aI .i64 (List.length ([] : List GEntry) : Int)), .br true, .no] rfl (by repeat' first | refine And.intro ?_ ?_ | (simp at qah1532 qbh1532 qch1532 ⊢; omega) | (refine capLe h1535 rfl ?_; first | (simp; done) | (simp; omega) | (simp [h1499, h1523, h1524, h1533]; done) | (simp [h1499, h1523, h1524, h1533]; omega)) | (refine capMax h1535 (by decide) ?_; first | (simp; done) | (simp; omega) | (simp [h1499, h1523, h1524, h1533]; done) | (simp [h1499, h1523, h1524, h1533]; omega)) | exact oblA) ?_
          refine SemK.back (by intro id h; cases h) rfl ?_
          exact wkT [(27, 29)] (J)
         ·clear h; intro h1533 h
          exact absurd h1533 (by simp)
       ·clear h; intro h1524 h
        refine bindE h ?_
        clear h; intro m1537 h1538 h
        exact absurd h1538 (by simp [insI])
      ·clear h; intro h1523 h
       refine run_to tmD 4000 [.pure [(AV.list false (List.map enc_GEntry ([] : List GEntry))), (enc_GEntry y0_o26), (AV.fn 110 [])] (AV.tup [(aI .i64 v1521.1), (aB v1521.2)]), .br false, .stop 4] rfl (by repeat' first | refine And.intro ?_ ?_ | exact (PureCall.none (slices_BinarySearchFunc_Entry_Entry_Entry_store_order_ok _ _ _ h1522) (Cvs.cons (cv_nils (es := List.map enc_GEntry ([] : List GEntry)) (by simp [*])) (Cvs.cons (cvf_GEntry (x := y0_o26)) (Cvs.cons .fn0 Cvs.nil)))) | exact oblA) ?_
       refine bindE h ?_
       clear h; intro e1539 h1540 h
       try have qh1540 := getI_lt h1540
       exact absurd (h1540) (by simp [getI])
    ·clear h; intro h1499 h
     refine bindE h ?_
     clear h; intro e1542 h1543 h
     try have qh1543 := getI_lt h1543
     exact absurd (h1543) (by simp [getI])
   ·
    clear h
    have h := h1498
    refine SemK.inline tyTab_ok fn113 rfl rfl rfl rfl rfl trivial trivial rfl rfl ?_
    refine bindE h ?_
    clear h; intro u1486 h1487 h
    have qh1487 := lenOk_le h1487
    refine bindE h ?_
    clear h; intro o1496 h1497 h
    refine runT tmD [.el (aI .i64 (List.length ([] : List GEntry) : Int))] ?_
    refine wkT [] (SemK.cut (store_Add_store_meet_slices_IndexFunc_Entry_Entry_L0_ok ([] : List GEntry) y0_o26 (nbT (by first | rfl | simp [*])) qh1487 ([] : List GEntry) 0 (by simp) _ h1497 ?_ ?_))
    ·intro eo1496; subst eo1496
     refine SemK.glue ?_
     try dsimp only at h
     obtain rfl := Option.some.inj h
     refine runT tmD [] ?_
     refine SemK.back (by intro id h; cases h) rfl ?_
     exact wkT [] (J)
    ·intro z0_1_4 eo1496; subst eo1496
     refine SemK.glue ?_
     try dsimp only at h
     obtain rfl := Option.some.inj h
     refine runT tmD [] ?_
     refine SemK.back (by intro id h; cases h) rfl ?_
     exact wkT [] (J)
end Go.Av.Tryz
