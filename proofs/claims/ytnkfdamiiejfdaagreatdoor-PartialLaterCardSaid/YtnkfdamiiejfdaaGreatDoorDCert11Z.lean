/- Printed by decomp.py: that the program computes the functions. -/
import Derived.Test.YtnkfdamiiejfdaaGreatDoorDCert10Z
set_option linter.all false

namespace Go.Av.Tryz
open Go.Proofs Go.D Go.Proofs.Tryz
set_option maxRecDepth 10000
set_option maxHeartbeats 40000000
instance X031:PZ 60 (∀ (a0:(List X6)) (r:(List X6)×Int),Xav a0=some r->Pz 60 [(Lf (a0.map X0))] (AV.tup [(Lt (r.1.map X0)),(aI .i64 r.2)])):=⟨λa0 r h=>by
 refine X15.sym X2 fn60 (nt:=47) rfl rfl ?_ okM;unfold Xav at h;revert h;refine brI (λh1=>λe=>oj e▸X8 [.el (aI .i64 (a0.length:Int)),Bt] (k:=fi)) λh1=>bI λu2 h3=>?_;have qh3:=X05 h3;refine bI λo29 h30=>rnI [.el (aI .i64 (a0.length:Int)),Bf] ?_;intro h;refine wkT [] (X5.cut (Xhs a0 qh3 a0 0 (by simp) _ nbS _ h30 ?_));intro Xj Xu eo29;subst eo29;refine X5.glue ?_;try dsimp only at h
 rcases Xu with ⟨_|_,X1r⟩
 ·
  revert h;refine bI λv31 h32=>bI λu33 h34=>?_;have qh34:=X05 h34;refine bI λo60 h61=>rnI [.el (aI .i64 (Xj.length:Int)),.pure [(Lf (List.map (X6v false (aI .i64)) Xj)),(aI .i64 0),(aI .i64 (Xj.length:Int))] (Lt (List.map (aI .i64) v31))] (o:=by repeat' first|apply Ya|exact pcM|exact(X4s.lent (X7m FU _ _ _ _ h32) (cc (X00v (f:=(X6v true (aI .i64))) (g:=(X6v false (aI .i64))) (l:=Xj) rfl (by first|rfl|(simp;done)|(simp;rfl)|(simp[h1];done)|(simp[h1];rfl)) (by first|rfl|(simp;done)|(simp;omega)|(simp[h1];done)|(simp[h1];omega)) (λ_=>rfl) (λx=>Xbu (X4o (X1s (λ_=>Xa7) _)))) (cc .sc (cc (Xpt (by first|rfl|(simp[*];done))) cn))) (Xjf (X1s (λ_=>Xa7) _)))|exact X1i) ?_;intro h;refine wkT [] (X5.cut (Xc3 a0 v31 qh34 v31 0 (by simp) _ nbS _ h61 ?_));intro X47 X30 eo60;subst eo60;refine X5.glue ?_;try dsimp only at h
  rcases X30 with ⟨_|_,X7j⟩<;>(try obtain rfl:=X7j rfl);all_goals
   revert h;exact λe=>oj e▸X8 [] (k:=fi)
 obtain rfl:=X1r rfl;revert h;refine bI λv62 h63=>bI λu64 h65=>?_;have qh65:=X05 h65;refine bI λo83 h84=>rnI [.el (aI .i64 (List.length ([]:List (List Int)):Int)),.pure [(Lf (List.map (X6v false (aI .i64)) ([]:List (List Int)))),(aI .i64 0),(aI .i64 (List.length ([]:List (List Int)):Int))] (Lt (List.map (aI .i64) v62))] (o:=by repeat' first|apply Ya|exact pcM|exact(pn (X7m FU _ _ _ _ h63) (cc (Xsj (es:=List.map (X6v true (aI .i64)) ([]:List (List Int))) (by simp[*])) (cc .sc (cc (Xpt (by first|rfl|(simp[*];done))) cn))))|exact X1i) ?_;intro h;refine wkT [] (X5.cut (Xc3 a0 v62 qh65 v62 0 (by simp) _ nbS _ h84 ?_));intro X47 X30 eo83;subst eo83;refine X5.glue ?_;try dsimp only at h
 rcases X30 with ⟨_|_,X7j⟩<;>(try obtain rfl:=X7j rfl);all_goals
  revert h;exact λe=>oj e▸X8 [] (k:=fi)⟩
instance X05n:PZ 101 (∀ (a0:X1z) (r:(List Int)),Xf9 a0=some r->Pz 101 [(Xa a0)] (Lt (List.map (aI .i64) r))):=⟨λa0 r h=>by
 refine X15.sym X2 X0hl (nt:=18) rfl rfl ?_ okM;unfold Xf9 at h;revert h;exact λe=>oj e▸X8 [.ix 0,.ix 1] (k:=fi)⟩
theorem Xfa {Q:Qt} {μ:Mu} (X0e:(List X1z)) (hl:X0e.length<=140737488355328):∀ (xs:List X1z) (k:Nat) (hx:X0e.drop k=xs) (Xf:(List (List Int))) (X04:Nb Xf) (o:X7b) (h:X2g X0e xs k Xf=some o)
  (C0:∀ (Xj:(List (List Int))) (Xu:Nb Xj),o=X7b.x0 Xj->Sx 43 Q [(0,(Lf (X0e.map Xa))),(3,(slE Xu.1 0 (List.map (X6v true (aI .i64)) Xj)))] ([]++opE Xu.1 0 1 (List.map (X6v true (aI .i64)) Xj)) 1 μ),
  Sl 43 Q f61 [(0,(Lf (X0e.map Xa))),(3,(slE X04.1 0 (List.map (X6v true (aI .i64)) Xf))),(4,(aI .i64 (k:Int)))] ([]++opE X04.1 0 1 (List.map (X6v true (aI .i64)) Xf)) 1 μ:=by
 intro xs
 induction xs with
 |nil =>
  intro k hx Xf X04 o h C0;have hk:=X2n hx;have hc:=lpN hx;rw[X2g] at h;rcases X04 with ⟨_|_,X1v⟩
  ·
   refine X5.round ?_;revert h;exact λe=>X8 [.el (aI .i64 (X0e.length:Int)),Bf] (k:=wkT [] (C0 _  nbF (oj e).symm))
  ·
   obtain rfl:=X1v rfl;refine X5.round ?_;revert h;exact λe=>X8 [.el (aI .i64 (X0e.length:Int)),Bf] (k:=wkT [] (C0 _  nbS (oj e).symm))
 |cons x xs ih =>
  intro k hx Xf X04 o h C0;obtain⟨hk,hg,hx1⟩:=X1w hx;have hc:=lpC hx;rw[X2g] at h;rcases X04 with ⟨_|_,X1v⟩<;>(try obtain rfl:=X1v rfl);all_goals
   refine X5.round ?_;revert h;refine bI λv20 h21=>bI λu22 h23=>rnI [.el (aI .i64 (X0e.length:Int)),Bt,.el (Xa x),.pure _ (Lt (List.map (aI .i64) v20)),.no] (o:=by repeat' first|apply Ya|exact pcM|(refine X0g h23 rfl ?_;first|(simp<;>omega)|(simp[hc]<;>omega))|(refine Xv h23 (by decide) ?_;first|(simp<;>omega)|(simp[hc]<;>omega))|exact X1i) ?_;intro h;exact wkT [(0,2)] (ih (k+1) hx1 _ nbF o h C0)
theorem X9u {Q:Qt} {μ:Mu} (Xko:(List X1z)) (y1_5:(List Int)) (hl:y1_5.length<=140737488355328):∀ (xs:List Int) (k:Nat) (hx:y1_5.drop k=xs) (X4w:(List X1z)) (X59:Nb X4w) (o:X7a) (h:X2f Xko y1_5 xs k X4w=some o)
  (C0:∀ (X47:(List X1z)) (X30:Nb X47),o=X7a.x0 X47->SK 43 Q (.exit (.exit 2)) [] ⟨fr [(6,(slE X30.1 0 (X47.map Xa)))],hp ([]++opE X30.1 0 5 (X47.map Xa)),1⟩ μ),
  SK 43 Q (.loop (X5b 1 (X10 Tryz.f61))) [] ⟨fr [(0,(Lf (Xko.map Xa))),(5,(Lt (List.map (aI .i64) y1_5))),(6,(slE X59.1 0 (X4w.map Xa))),(7,(aI .i64 (k:Int)))],hp ([]++opE X59.1 0 5 (X4w.map Xa)),1⟩ μ:=by
 intro xs
 induction xs with
 |nil =>
  intro k hx X4w X59 o h C0;have hk:=X2n hx;have hc:=lpN hx;rw[X2f] at h;rcases X59 with ⟨_|_,Xbp⟩
  ·
   refine X5.round ?_;revert h;exact λe=>X8 [.el (aI .i64 (y1_5.length:Int)),Bf] (k:=wkT [] (C0 _  nbF (oj e).symm))
  ·
   obtain rfl:=Xbp rfl;refine X5.round ?_;revert h;exact λe=>X8 [.el (aI .i64 (y1_5.length:Int)),Bf] (k:=wkT [] (C0 _  nbS (oj e).symm))
 |cons x xs ih =>
  intro k hx X4w X59 o h C0;obtain⟨hk,hg,hx1⟩:=X1w hx;have hc:=lpC hx;rw[X2f] at h;rcases X59 with ⟨_|_,Xbp⟩<;>(try obtain rfl:=Xbp rfl);all_goals
   refine X5.round ?_;revert h;refine bI λe51 h52=>?_;try have qh52:=Xm h52
   refine bI λu53 h54=>rnI [.el (aI .i64 (y1_5.length:Int)),Bt,.el (aI .i64 x),.el (Xa e51),.no] (o:=by repeat' first|apply Ya|exact pcM|(refine X0g h54 rfl ?_;first|(simp<;>omega)|(simp[hc]<;>omega))|(refine Xv h54 (by decide) ?_;first|(simp<;>omega)|(simp[hc]<;>omega))|exact X1i) ?_;intro h;exact wkT [(0,2)] (ih (k+1) hx1 _ nbF o h C0)
instance Xy7:PZ 61 (∀ (a0:(List X1z)) (r:(List X1z)),X7w a0=some r->Pz 61 [(Lf (a0.map Xa))] (Lt (r.map Xa))):=⟨λa0 r h=>by
 refine X15.sym X2 fn61 (nt:=43) rfl rfl ?_ okM;unfold X7w at h;revert h;refine bI λu1 h2=>?_;have qh2:=X05 h2;refine bI λo28 h29=>rnI [] ?_;intro h;refine wkT [] (X5.cut (Xfa a0 qh2 a0 0 (by simp) _ nbS _ h29 ?_));intro Xj Xu eo28;subst eo28;refine X5.glue ?_;try dsimp only at h
 rcases Xu with ⟨_|_,X1r⟩
 ·
  revert h;refine bI λv30 h31=>bI λu32 h33=>?_;have qh33:=X05 h33;refine bI λo59 h60=>rnI [.el (aI .i64 (Xj.length:Int)),.pure [(Lf (List.map (X6v false (aI .i64)) Xj)),(aI .i64 0),(aI .i64 (Xj.length:Int))] (Lt (List.map (aI .i64) v30))] (o:=by repeat' first|apply Ya|exact pcM|exact(X4s.lent (X7m FU _ _ _ _ h31) (cc (X00v (f:=(X6v true (aI .i64))) (g:=(X6v false (aI .i64))) (l:=Xj) rfl (by first|rfl|(simp;done)|(simp;rfl)|(simp[];done)|(simp[];rfl)) (by first|rfl|(simp;done)|(simp;omega)|(simp[];done)|(simp[];omega)) (λ_=>rfl) (λx=>Xbu (X4o (X1s (λ_=>Xa7) _)))) (cc .sc (cc (Xpt (by first|rfl|(simp[*];done))) cn))) (Xjf (X1s (λ_=>Xa7) _)))|exact X1i) ?_;intro h;refine wkT [] (X5.cut (X9u a0 v30 qh33 v30 0 (by simp) _ nbS _ h60 ?_));intro X47 X30 eo59;subst eo59;refine X5.glue ?_;try dsimp only at h
  rcases X30 with ⟨_|_,X7j⟩<;>(try obtain rfl:=X7j rfl);all_goals
   revert h;exact λe=>oj e▸X8 [] (k:=fi)
 obtain rfl:=X1r rfl;revert h;refine bI λv61 h62=>bI λu63 h64=>?_;have qh64:=X05 h64;refine bI λo82 h83=>rnI [.el (aI .i64 (List.length ([]:List (List Int)):Int)),.pure [(Lf (List.map (X6v false (aI .i64)) ([]:List (List Int)))),(aI .i64 0),(aI .i64 (List.length ([]:List (List Int)):Int))] (Lt (List.map (aI .i64) v61))] (o:=by repeat' first|apply Ya|exact pcM|exact(pn (X7m FU _ _ _ _ h62) (cc (Xsj (by simp)) (cc .sc (cc (Xpt (by first|rfl|(simp[*];done))) cn))))|exact X1i) ?_;intro h;refine wkT [] (X5.cut (X9u a0 v61 qh64 v61 0 (by simp) _ nbS _ h83 ?_));intro X47 X30 eo82;subst eo82;refine X5.glue ?_;try dsimp only at h
 rcases X30 with ⟨_|_,X7j⟩<;>(try obtain rfl:=X7j rfl);all_goals
  revert h;exact λe=>oj e▸X8 [] (k:=fi)⟩
instance Xy5:PZ 27 (∀ (a0:Xr) (r:Xr),X0m a0=some r->Pz 27 [(Xb false a0)] (Xb true r)):=⟨λa0 r h=>by
 refine X15.sym X2 fn27 (nt:=16) rfl rfl ?_ okM;unfold X0m at h;revert h;exact bI λv1 h2=>bI λv3 h4=>λe=>oj e▸X8 [.pure _ (AV.tup [(Lt (v1.1.map X0)),(aI .i64 v1.2)]),.pure _ (Lt (v3.map Xa))] (k:=fi)⟩
instance X030:PZ 9 (∀ (a0:Xr) (a1:Xr) (r:Xr),Xau a0 a1=some r->Pz 9 [(Xb false a0),(Xb false a1)] (Xb true r)):=⟨λa0 a1 r h=>by
 refine X15.sym X2 fn9 (nt:=26) rfl rfl ?_ okM;unfold Xau at h;revert h;refine brI (λq=>?_) λq=>?_
 ·
  intro h;have h1:a0.Rows=[]:=List.isEmpty_iff.1 q;revert h;refine brI (λq=>?_) λq=>?_
  ·
   intro h;have h2:a1.Rows=[]:=List.isEmpty_iff.1 q;revert h;refine brI (λq=>?_) λq=>?_
   ·
    intro h;have h3:a0.Late=[]:=List.isEmpty_iff.1 q;revert h;refine brI (λq=>?_) λq=>?_
    ·
     intro h;have h4:a1.Late=[]:=List.isEmpty_iff.1 q;revert h;exact bI λv5 h6=>λe=>oj e▸X8 [.ne false,.ne false,.ne false,.ne false,.pure _ (Xb true v5)] (k:=fi)
    intro h;have h4:¬ (a1.Late=[]):=(λe=>by rw[e] at q;cases q);revert h;exact bI λu7 h8=>bI λv9 h10=>λe=>oj e▸X8 [.ne false,.ne false,.ne false,.via (Lt (a1.Late.map X0)),.pure _ (Xb true v9)] (o:=by repeat' first|apply Ya|exact pcM|(refine X0g h8 rfl ?_;first|(simp<;>omega)|(simp[h1,h2,h3,h4]<;>omega))|(refine Xv h8 (by decide) ?_;first|(simp<;>omega)|(simp[h1,h2,h3,h4]<;>omega))|exact X1i) (k:=fi)
   intro h;have h3:¬ (a0.Late=[]):=(λe=>by rw[e] at q;cases q);revert h;refine bI λu11 h12=>brI (λq=>?_) λq=>?_
   ·
    intro h;have h13:a1.Late=[]:=List.isEmpty_iff.1 q;revert h;exact bI λv14 h15=>λe=>oj e▸X8 [.ne false,.ne false,.via (Lt (a0.Late.map X0)),.ne false,.pure _ (Xb true v14)] (o:=by repeat' first|apply Ya|exact pcM|(refine X0g h12 rfl ?_;first|(simp<;>omega)|(simp[h1,h2,h3,h13]<;>omega))|(refine Xv h12 (by decide) ?_;first|(simp<;>omega)|(simp[h1,h2,h3,h13]<;>omega))|exact X1i) (k:=fi)
   intro h;have h13:¬ (a1.Late=[]):=(λe=>by rw[e] at q;cases q);revert h;exact bI λu16 h17=>bI λv18 h19=>λe=>oj e▸X8 [.ne false,.ne false,.via (Lt (a0.Late.map X0)),.via (Lt (a1.Late.map X0)),.pure _ (Xb true v18)] (o:=by repeat' first|apply Ya|exact pcM|(refine X0g h12 rfl ?_;first|(simp<;>omega)|(simp[h1,h2,h3,h13]<;>omega))|(refine Xv h12 (by decide) ?_;first|(simp<;>omega)|(simp[h1,h2,h3,h13]<;>omega))|(refine X0g h17 rfl ?_;first|(simp<;>omega)|(simp[h1,h2,h3,h13]<;>omega))|(refine Xv h17 (by decide) ?_;first|(simp<;>omega)|(simp[h1,h2,h3,h13]<;>omega))|exact X1i) (k:=fi)
  intro h;have h2:¬ (a1.Rows=[]):=(λe=>by rw[e] at q;cases q);revert h;refine bI λu20 h21=>brI (λq=>?_) λq=>?_
  ·
   intro h;have h22:a0.Late=[]:=List.isEmpty_iff.1 q;revert h;refine brI (λq=>?_) λq=>?_
   ·
    intro h;have h23:a1.Late=[]:=List.isEmpty_iff.1 q;revert h;exact bI λv24 h25=>λe=>oj e▸X8 [.ne false,.via (Lt (a1.Rows.map Xa)),.ne false,.ne false,.pure _ (Xb true v24)] (o:=by repeat' first|apply Ya|exact pcM|(refine X0g h21 rfl ?_;first|(simp<;>omega)|(simp[h1,h2,h22,h23]<;>omega))|(refine Xv h21 (by decide) ?_;first|(simp<;>omega)|(simp[h1,h2,h22,h23]<;>omega))|exact X1i) (k:=fi)
   intro h;have h23:¬ (a1.Late=[]):=(λe=>by rw[e] at q;cases q);revert h;exact bI λu26 h27=>bI λv28 h29=>λe=>oj e▸X8 [.ne false,.via (Lt (a1.Rows.map Xa)),.ne false,.via (Lt (a1.Late.map X0)),.pure _ (Xb true v28)] (o:=by repeat' first|apply Ya|exact pcM|(refine X0g h21 rfl ?_;first|(simp<;>omega)|(simp[h1,h2,h22,h23]<;>omega))|(refine Xv h21 (by decide) ?_;first|(simp<;>omega)|(simp[h1,h2,h22,h23]<;>omega))|(refine X0g h27 rfl ?_;first|(simp<;>omega)|(simp[h1,h2,h22,h23]<;>omega))|(refine Xv h27 (by decide) ?_;first|(simp<;>omega)|(simp[h1,h2,h22,h23]<;>omega))|exact X1i) (k:=fi)
  intro h;have h22:¬ (a0.Late=[]):=(λe=>by rw[e] at q;cases q);revert h;refine bI λu30 h31=>brI (λq=>?_) λq=>?_
  ·
   intro h;have h32:a1.Late=[]:=List.isEmpty_iff.1 q;revert h;exact bI λv33 h34=>λe=>oj e▸X8 [.ne false,.via (Lt (a1.Rows.map Xa)),.via (Lt (a0.Late.map X0)),.ne false,.pure _ (Xb true v33)] (o:=by repeat' first|apply Ya|exact pcM|(refine X0g h21 rfl ?_;first|(simp<;>omega)|(simp[h1,h2,h22,h32]<;>omega))|(refine Xv h21 (by decide) ?_;first|(simp<;>omega)|(simp[h1,h2,h22,h32]<;>omega))|(refine X0g h31 rfl ?_;first|(simp<;>omega)|(simp[h1,h2,h22,h32]<;>omega))|(refine Xv h31 (by decide) ?_;first|(simp<;>omega)|(simp[h1,h2,h22,h32]<;>omega))|exact X1i) (k:=fi)
  intro h;have h32:¬ (a1.Late=[]):=(λe=>by rw[e] at q;cases q);revert h;exact bI λu35 h36=>bI λv37 h38=>λe=>oj e▸X8 [.ne false,.via (Lt (a1.Rows.map Xa)),.via (Lt (a0.Late.map X0)),.via (Lt (a1.Late.map X0)),.pure _ (Xb true v37)] (o:=by repeat' first|apply Ya|exact pcM|(refine X0g h21 rfl ?_;first|(simp<;>omega)|(simp[h1,h2,h22,h32]<;>omega))|(refine Xv h21 (by decide) ?_;first|(simp<;>omega)|(simp[h1,h2,h22,h32]<;>omega))|(refine X0g h31 rfl ?_;first|(simp<;>omega)|(simp[h1,h2,h22,h32]<;>omega))|(refine Xv h31 (by decide) ?_;first|(simp<;>omega)|(simp[h1,h2,h22,h32]<;>omega))|(refine X0g h36 rfl ?_;first|(simp<;>omega)|(simp[h1,h2,h22,h32]<;>omega))|(refine Xv h36 (by decide) ?_;first|(simp<;>omega)|(simp[h1,h2,h22,h32]<;>omega))|exact X1i) (k:=fi)
 intro h;have h1:¬ (a0.Rows=[]):=(λe=>by rw[e] at q;cases q);revert h;refine bI λu39 h40=>brI (λq=>?_) λq=>?_
 ·
  intro h;have h41:a1.Rows=[]:=List.isEmpty_iff.1 q;revert h;refine brI (λq=>?_) λq=>?_
  ·
   intro h;have h42:a0.Late=[]:=List.isEmpty_iff.1 q;revert h;refine brI (λq=>?_) λq=>?_
   ·
    intro h;have h43:a1.Late=[]:=List.isEmpty_iff.1 q;revert h;exact bI λv44 h45=>λe=>oj e▸X8 [.via (Lt (a0.Rows.map Xa)),.ne false,.ne false,.ne false,.pure _ (Xb true v44)] (o:=by repeat' first|apply Ya|exact pcM|(refine X0g h40 rfl ?_;first|(simp<;>omega)|(simp[h1,h41,h42,h43]<;>omega))|(refine Xv h40 (by decide) ?_;first|(simp<;>omega)|(simp[h1,h41,h42,h43]<;>omega))|exact X1i) (k:=fi)
   intro h;have h43:¬ (a1.Late=[]):=(λe=>by rw[e] at q;cases q);revert h;exact bI λu46 h47=>bI λv48 h49=>λe=>oj e▸X8 [.via (Lt (a0.Rows.map Xa)),.ne false,.ne false,.via (Lt (a1.Late.map X0)),.pure _ (Xb true v48)] (o:=by repeat' first|apply Ya|exact pcM|(refine X0g h40 rfl ?_;first|(simp<;>omega)|(simp[h1,h41,h42,h43]<;>omega))|(refine Xv h40 (by decide) ?_;first|(simp<;>omega)|(simp[h1,h41,h42,h43]<;>omega))|(refine X0g h47 rfl ?_;first|(simp<;>omega)|(simp[h1,h41,h42,h43]<;>omega))|(refine Xv h47 (by decide) ?_;first|(simp<;>omega)|(simp[h1,h41,h42,h43]<;>omega))|exact X1i) (k:=fi)
  intro h;have h42:¬ (a0.Late=[]):=(λe=>by rw[e] at q;cases q);revert h;refine bI λu50 h51=>brI (λq=>?_) λq=>?_
  ·
   intro h;have h52:a1.Late=[]:=List.isEmpty_iff.1 q;revert h;exact bI λv53 h54=>λe=>oj e▸X8 [.via (Lt (a0.Rows.map Xa)),.ne false,.via (Lt (a0.Late.map X0)),.ne false,.pure _ (Xb true v53)] (o:=by repeat' first|apply Ya|exact pcM|(refine X0g h40 rfl ?_;first|(simp<;>omega)|(simp[h1,h41,h42,h52]<;>omega))|(refine Xv h40 (by decide) ?_;first|(simp<;>omega)|(simp[h1,h41,h42,h52]<;>omega))|(refine X0g h51 rfl ?_;first|(simp<;>omega)|(simp[h1,h41,h42,h52]<;>omega))|(refine Xv h51 (by decide) ?_;first|(simp<;>omega)|(simp[h1,h41,h42,h52]<;>omega))|exact X1i) (k:=fi)
  intro h;have h52:¬ (a1.Late=[]):=(λe=>by rw[e] at q;cases q);revert h;exact bI λu55 h56=>bI λv57 h58=>λe=>oj e▸X8 [.via (Lt (a0.Rows.map Xa)),.ne false,.via (Lt (a0.Late.map X0)),.via (Lt (a1.Late.map X0)),.pure _ (Xb true v57)] (o:=by repeat' first|apply Ya|exact pcM|(refine X0g h40 rfl ?_;first|(simp<;>omega)|(simp[h1,h41,h42,h52]<;>omega))|(refine Xv h40 (by decide) ?_;first|(simp<;>omega)|(simp[h1,h41,h42,h52]<;>omega))|(refine X0g h51 rfl ?_;first|(simp<;>omega)|(simp[h1,h41,h42,h52]<;>omega))|(refine Xv h51 (by decide) ?_;first|(simp<;>omega)|(simp[h1,h41,h42,h52]<;>omega))|(refine X0g h56 rfl ?_;first|(simp<;>omega)|(simp[h1,h41,h42,h52]<;>omega))|(refine Xv h56 (by decide) ?_;first|(simp<;>omega)|(simp[h1,h41,h42,h52]<;>omega))|exact X1i) (k:=fi)
 intro h;have h41:¬ (a1.Rows=[]):=(λe=>by rw[e] at q;cases q);revert h;refine bI λu59 h60=>brI (λq=>?_) λq=>?_
 ·
  intro h;have h61:a0.Late=[]:=List.isEmpty_iff.1 q;revert h;refine brI (λq=>?_) λq=>?_
  ·
   intro h;have h62:a1.Late=[]:=List.isEmpty_iff.1 q;revert h;exact bI λv63 h64=>λe=>oj e▸X8 [.via (Lt (a0.Rows.map Xa)),.via (Lt (a1.Rows.map Xa)),.ne false,.ne false,.pure _ (Xb true v63)] (o:=by repeat' first|apply Ya|exact pcM|(refine X0g h40 rfl ?_;first|(simp<;>omega)|(simp[h1,h41,h61,h62]<;>omega))|(refine Xv h40 (by decide) ?_;first|(simp<;>omega)|(simp[h1,h41,h61,h62]<;>omega))|(refine X0g h60 rfl ?_;first|(simp<;>omega)|(simp[h1,h41,h61,h62]<;>omega))|(refine Xv h60 (by decide) ?_;first|(simp<;>omega)|(simp[h1,h41,h61,h62]<;>omega))|exact X1i) (k:=fi)
  intro h;have h62:¬ (a1.Late=[]):=(λe=>by rw[e] at q;cases q);revert h;exact bI λu65 h66=>bI λv67 h68=>λe=>oj e▸X8 [.via (Lt (a0.Rows.map Xa)),.via (Lt (a1.Rows.map Xa)),.ne false,.via (Lt (a1.Late.map X0)),.pure _ (Xb true v67)] (o:=by repeat' first|apply Ya|exact pcM|(refine X0g h40 rfl ?_;first|(simp<;>omega)|(simp[h1,h41,h61,h62]<;>omega))|(refine Xv h40 (by decide) ?_;first|(simp<;>omega)|(simp[h1,h41,h61,h62]<;>omega))|(refine X0g h60 rfl ?_;first|(simp<;>omega)|(simp[h1,h41,h61,h62]<;>omega))|(refine Xv h60 (by decide) ?_;first|(simp<;>omega)|(simp[h1,h41,h61,h62]<;>omega))|(refine X0g h66 rfl ?_;first|(simp<;>omega)|(simp[h1,h41,h61,h62]<;>omega))|(refine Xv h66 (by decide) ?_;first|(simp<;>omega)|(simp[h1,h41,h61,h62]<;>omega))|exact X1i) (k:=fi)
 intro h;have h61:¬ (a0.Late=[]):=(λe=>by rw[e] at q;cases q);revert h;refine bI λu69 h70=>brI (λq=>?_) λq=>?_
 ·
  intro h;have h71:a1.Late=[]:=List.isEmpty_iff.1 q;revert h;exact bI λv72 h73=>λe=>oj e▸X8 [.via (Lt (a0.Rows.map Xa)),.via (Lt (a1.Rows.map Xa)),.via (Lt (a0.Late.map X0)),.ne false,.pure _ (Xb true v72)] (o:=by repeat' first|apply Ya|exact pcM|(refine X0g h40 rfl ?_;first|(simp<;>omega)|(simp[h1,h41,h61,h71]<;>omega))|(refine Xv h40 (by decide) ?_;first|(simp<;>omega)|(simp[h1,h41,h61,h71]<;>omega))|(refine X0g h60 rfl ?_;first|(simp<;>omega)|(simp[h1,h41,h61,h71]<;>omega))|(refine Xv h60 (by decide) ?_;first|(simp<;>omega)|(simp[h1,h41,h61,h71]<;>omega))|(refine X0g h70 rfl ?_;first|(simp<;>omega)|(simp[h1,h41,h61,h71]<;>omega))|(refine Xv h70 (by decide) ?_;first|(simp<;>omega)|(simp[h1,h41,h61,h71]<;>omega))|exact X1i) (k:=fi)
 intro h;have h71:¬ (a1.Late=[]):=(λe=>by rw[e] at q;cases q);revert h;exact bI λu74 h75=>bI λv76 h77=>λe=>oj e▸X8 [.via (Lt (a0.Rows.map Xa)),.via (Lt (a1.Rows.map Xa)),.via (Lt (a0.Late.map X0)),.via (Lt (a1.Late.map X0)),.pure _ (Xb true v76)] (o:=by repeat' first|apply Ya|exact pcM|(refine X0g h40 rfl ?_;first|(simp<;>omega)|(simp[h1,h41,h61,h71]<;>omega))|(refine Xv h40 (by decide) ?_;first|(simp<;>omega)|(simp[h1,h41,h61,h71]<;>omega))|(refine X0g h60 rfl ?_;first|(simp<;>omega)|(simp[h1,h41,h61,h71]<;>omega))|(refine Xv h60 (by decide) ?_;first|(simp<;>omega)|(simp[h1,h41,h61,h71]<;>omega))|(refine X0g h70 rfl ?_;first|(simp<;>omega)|(simp[h1,h41,h61,h71]<;>omega))|(refine Xv h70 (by decide) ?_;first|(simp<;>omega)|(simp[h1,h41,h61,h71]<;>omega))|(refine X0g h75 rfl ?_;first|(simp<;>omega)|(simp[h1,h41,h61,h71]<;>omega))|(refine Xv h75 (by decide) ?_;first|(simp<;>omega)|(simp[h1,h41,h61,h71]<;>omega))|exact X1i) (k:=fi)⟩
theorem Xdu {Q:Qt} {μ:Mu} (X0e:(List X1z)) (X9p:(List X1z)) (hl:X0e.length<=140737488355328):Dr X0e λxs k=>∀ (o:X90) (h:X27 X0e X9p xs k  = some o),Lq Tryz.prog 26 0 Q μ o (fun|.x0=>(.exit 0,⟨fr [],hp ([]),0⟩)|.x1=>(.ret,⟨fr [(4,(aB false))],hp ([]),0⟩))
  (X5b 0 (X10 Tryz.f25)) ⟨fr [(0,(Lf (X0e.map Xa))),(1,(Lf (X9p.map Xa))),(5,(aI .i64 (k:Int)))],hp ([]),0⟩:=by
 refine drI ?_ ?_
 ·
  intro k hk hc  o h C;rw[X27] at h;refine X5.round ?_;revert h;exact λe=>X8 [.el (aI .i64 (X0e.length:Int)),Bf] (k:=wC e C)
 ·
  intro x xs k hk hg hc ih  o h C;rw[X27] at h;refine X5.round ?_;revert h;refine bI λe11 h12=>?_;try have qh12:=Xm h12
  refine brI (λh13=>λe=>X8 [.el (aI .i64 (X0e.length:Int)),Bt,.el (Xa x),.el (Xa e11),Bt] (k:=wC e C)) λh13=>rnI [.el (aI .i64 (X0e.length:Int)),Bt,.el (Xa x),.el (Xa e11),Bf] ?_;intro h;exact wkT [] (ih   o h C)
instance Xus:PZ 25 (∀ (a0:(List X1z)) (a1:(List X1z)) (r:Bool),X7n a0 a1=some r->Pz 25 [(Lf (a0.map Xa)),(Lf (a1.map Xa))] (aB r)):=⟨λa0 a1 r h=>by
 refine X15.sym X2 fn25 (nt:=26) rfl rfl ?_ okM;unfold X7n at h;revert h;refine brI (λh1=>λe=>oj e▸X8 [.el (aI .i64 (a0.length:Int)),.el (aI .i64 (a1.length:Int)),Bt] (k:=fi)) λh1=>bI λu2 h3=>?_;have qh3:=X05 h3;refine bI λo14 h15=>rnI [.el (aI .i64 (a0.length:Int)),.el (aI .i64 (a1.length:Int)),Bf] ?_;intro h;refine wkT [] (X5.cut (drA (Xdu a0 a1 qh3) _ h15 ?_));rcases o14 with _|_
 ·
  refine lG rfl ?_;try dsimp only at h
  revert h;exact λe=>oj e▸X8 [] (k:=fi)
 refine lG rfl ?_;try dsimp only at h
 revert h;exact λe=>oj e▸X8 [] (k:=fi)⟩
theorem Xbf {Q:Qt} {μ:Mu} (X0e:(List X6)) (X9p:(List X6)) (hl:X0e.length<=140737488355328):Dr X0e λxs k=>∀ (o:X6y) (h:X1f X0e X9p xs k  = some o),Lq Tryz.prog 26 0 Q μ o (fun|.x0=>(.exit 0,⟨fr [],hp ([]),0⟩)|.x1=>(.ret,⟨fr [(4,(aB false))],hp ([]),0⟩))
  (X5b 0 (X10 Tryz.f26)) ⟨fr [(0,(Lf (X0e.map X0))),(1,(Lf (X9p.map X0))),(5,(aI .i64 (k:Int)))],hp ([]),0⟩:=by
 refine drI ?_ ?_
 ·
  intro k hk hc  o h C;rw[X1f] at h;refine X5.round ?_;revert h;exact λe=>X8 [.el (aI .i64 (X0e.length:Int)),Bf] (k:=wC e C)
 ·
  intro x xs k hk hg hc ih  o h C;rw[X1f] at h;refine X5.round ?_;revert h;refine bI λe11 h12=>?_;try have qh12:=Xm h12
  refine brI (λh13=>λe=>X8 [.el (aI .i64 (X0e.length:Int)),Bt,.el (X0 x),.el (X0 e11),Bt] (k:=wC e C)) λh13=>rnI [.el (aI .i64 (X0e.length:Int)),Bt,.el (X0 x),.el (X0 e11),Bf] ?_;intro h;exact wkT [] (ih   o h C)
instance Xq1:PZ 26 (∀ (a0:(List X6)) (a1:(List X6)) (r:Bool),X57 a0 a1=some r->Pz 26 [(Lf (a0.map X0)),(Lf (a1.map X0))] (aB r)):=⟨λa0 a1 r h=>by
 refine X15.sym X2 fn26 (nt:=26) rfl rfl ?_ okM;unfold X57 at h;revert h;refine brI (λh1=>λe=>oj e▸X8 [.el (aI .i64 (a0.length:Int)),.el (aI .i64 (a1.length:Int)),Bt] (k:=fi)) λh1=>bI λu2 h3=>?_;have qh3:=X05 h3;refine bI λo14 h15=>rnI [.el (aI .i64 (a0.length:Int)),.el (aI .i64 (a1.length:Int)),Bf] ?_;intro h;refine wkT [] (X5.cut (drA (Xbf a0 a1 qh3) _ h15 ?_));rcases o14 with _|_
 ·
  refine lG rfl ?_;try dsimp only at h
  revert h;exact λe=>oj e▸X8 [] (k:=fi)
 refine lG rfl ?_;try dsimp only at h
 revert h;exact λe=>oj e▸X8 [] (k:=fi)⟩
instance X01q:PZ 8 (∀ (a0:Xr) (a1:Xr) (r:Bool),X8x a0 a1=some r->Pz 8 [(Xb false a0),(Xb false a1)] (aB r)):=⟨λa0 a1 r h=>by
 refine X15.sym X2 fn8 (nt:=17) rfl rfl ?_ okM;unfold X8x at h;revert h;refine bI λj6_4 h12=>rnI [.stop 1] ?_;intro h;refine jn [(4,(aB j6_4))] ([]) 0 ?_ (λJ=>X5.cut ?_)
 ·
  revert h;exact λe=>oj e▸X8 [] (k:=fi)
 clear h;revert h12;exact bI λv7 h8=>brI (λh9=>bI λv10 h11=>λe=>X8 [.pure _ (aB v7),Gt,Gt,Gt,Gt,Gt,.pure _ (aB v10)] (k:=wJ [] J)) λh9=>λe=>X8 [.pure _ (aB v7),Gf,Gf,Gf,Gf,Gf] (k:=wJ [] J)⟩
theorem Xb0 {Q:Qt} {μ:Mu} (Xdt:Int) (Xh4:Int) (X7z:Bool) (Xf:Xr) (Xi:Xr) (Xug:(List X1z)) (X5h:(List X6)) (X3w:Xr) (X0j:Xr):∀ (n:Nat) (Xeh:Int) (o:X6k) (h:X17 Xdt Xh4 X7z Xf Xi Xug X5h X3w X0j n Xeh=some o),Lq Tryz.prog 172 0 Q μ o (fun|.x0=>(.ret,⟨fr [(8,(aB false))],hp ([]),0⟩)|.x1=>(.exit 0,⟨fr [(9,(aB X7z)),(10,(AV.ptr 0 0 0)),(14,(Lt (Xug.map Xa))),(15,(Lt (X5h.map X0))),(17,(AV.ptr 1 0 0)),(19,(AV.ptr 2 0 0))],hp ([(0,Ob [(Xb true Xf)] 2),(1,Ob [(Xb true X3w)] 2),(2,Ob [(Xb true X0j)] 2)]),3⟩))
  (X5b 0 (X10 Tryz.f3)) ⟨fr [(2,(aI .i64 Xdt)),(3,(aI .i64 Xh4)),(9,(aB X7z)),(10,(AV.ptr 0 0 0)),(12,(AV.ptr 1 0 0)),(14,(Lt (Xug.map Xa))),(15,(Lt (X5h.map X0))),(17,(AV.ptr 2 0 0)),(19,(AV.ptr 3 0 0)),(21,(aI .i64 Xeh))],hp ([(0,Ob [(Xb true Xf)] 2),(1,Ob [(Xb true Xi)] 2),(2,Ob [(Xb true X3w)] 2),(3,Ob [(Xb true X0j)] 2)]),4⟩:=by
 intro n
 induction n with
 |zero=>intro Xeh o h C;cases h
 |succ n ih =>
  intro Xeh o h C;rw[X17] at h;refine X5.round ?_;revert h;refine brI (λh50=>?_) λh50=>λe=>X8 [.el (aI .i64 (Xi.Rows.length:Int)),Bf] (k:=wkT [(1,2),(2,3)] (lE e C rfl));refine bI λXrk h64=>rnI [.el (aI .i64 (Xi.Rows.length:Int)),Bt,.stop 14] ?_;intro h;refine jn [(2,(aI .i64 Xdt)),(3,(aI .i64 Xh4)),(9,(aB X7z)),(10,(AV.ptr 0 0 0)),(12,(AV.ptr 1 0 0)),(14,(Lt (Xug.map Xa))),(15,(Lt (X5h.map X0))),(17,(AV.ptr 2 0 0)),(19,(AV.ptr 3 0 0)),(21,(aI .i64 Xeh)),(145,(aB Xrk))] ([(0,Ob [(Xb true Xf)] 2),(1,Ob [(Xb true Xi)] 2),(2,Ob [(Xb true X3w)] 2),(3,Ob [(Xb true X0j)] 2)]) 4 ?_ (λJ=>X5.cut ?_)
  ·
   revert h;refine brI (λh65=>λe=>X8 [Bt] (k:=wC e C)) λh65=>rnI [Bf,.wrap] ?_;intro h;exact wkT [] (ih  _ o h C)
  clear h;revert h64;refine bI λe58 h59=>?_;try have qh59:=Xm h59
  refine brI (λh60=>λe=>X8 [.el (Xa e58),.el (aI .i64 (Xf.Rows.length:Int)),Gf,Gf,Gf,Gf,Gf,Gf,.no,.no,.no,.no,.no,.no,.no,.no,.no,.no,.no,Gf,Gt] (k:=wJ [] J)) λh60=>?_;refine brI (λh61=>?_) λh61=>λe=>X8 [.el (Xa e58),.el (aI .i64 (Xf.Rows.length:Int)),Gt,Gt,Gt,Gt,.el (aI .i64 (Xf.Rows.length:Int)),Gt,Gt,Gf,Gf,Gf,Gf,Gf,Gf,Gf,Gf,Gf,Gf,Gf,Gt,Gf] (k:=wJ [] J);refine bI λe62 h63=>?_;try have qh63:=Xm h63
  exact λe=>X8 [.el (Xa e58),.el (aI .i64 (Xf.Rows.length:Int)),Gt,Gt,Gt,Gt,.el (aI .i64 (Xf.Rows.length:Int)),Gt,Gt,Gt,Gt,Gt,Gt,.el (Xa e62),Gt,Gt,Gt,Gt,Gt,.el (Xa e58),Gt,Gt,Gt] (k:=wJ [] J)
end Go.Av.Tryz