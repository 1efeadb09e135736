/- Printed by decomp.py: that the program computes the functions. -/
import Derived.Test.YtmkegegjcihooaaGreatDCert7Z
set_option linter.all false

namespace Go.Av.Tryz
open Go.Proofs Go.D
set_option maxRecDepth 100000
set_option maxHeartbeats 40000000
theorem Xlu {ks:List (Int×Int)}:∀ p∈ks.map (kvE iV),MapKept.IsKey (.int .i64) p.1:=by intro p hp;obtain⟨z,_,rfl⟩:=List.mem_map.1 hp;rfl
theorem Xnl {Q:Xp->St->Mu->Prop} {μ:Mu} (b:Nat) (g:Xt) (N:Nat) (hl:N<=140737488355328):∀ (n k:Nat) (hx:k+n=N) (ks:List (Int×Int))
  (C:X0 Tryz.prog 84 0 Q (.exit (.exit 0)) [] ⟨fr [(1,AV.ptr 0 0 0),(2,.nils),(3,.sc (.map (some b)))],hp [(0,Ob [Xb false g] 2)],1⟩ ((b,(Xfk ks (k:Int) n).map (kvE iV))::μ)),
  X0 Tryz.prog 84 0 Q (.loop (X0w 0 (Xd Tryz.f103))) [] ⟨fr [(1,AV.ptr 0 0 0),(2,.nils),(3,.sc (.map (some b))),(16,aI .i64 (N:Int)),(17,aI .i64 (k:Int))],hp [(0,Ob [Xb false g] 2)],1⟩ ((b,ks.map (kvE iV))::μ):=by
 intro n
 induction n with
 |zero =>
  intro k hx ks C;have hc:decide ((k:Int)<(N:Int))=false:=Yf om;refine X0.round ?_;exact X3 [Bf] (k:=wkT [] C)
 |succ n ih =>
  intro k hx ks C;have hc:decide ((k:Int)<(N:Int))=true:=Yt om;refine X0.round ?_;refine X1f [Bt] ?_;refine X0.mapUpd (d:=.int .i64) X9 rfl rfl rfl rfl rfl Tryz.underlying3 rfl rfl rfl trivial trivial trivial rfl Xlu ?_;rw[Xye];refine X1f [] ?_;exact wkT [] (ih (k+1) om (Xhb (k:Int) 0 ks) (by exact C))
theorem Xnk {Q:Xp->St->Mu->Prop} {μ:Mu} (b:Nat) (g:Xt) (l:List Xk) (hl:l.length<=140737488355328):∀ (xs:List Xk) (k:Nat) (hx:l.drop k=xs) (ks:List (Int×Int))
  (C:X0 Tryz.prog 84 0 Q (.exit (.exit 2)) [] ⟨fr [(1,AV.ptr 0 0 0),(2,.nils),(3,.sc (.map (some b)))],hp [(0,Ob [Xb false g] 2)],1⟩ ((b,(Xew ks (xs.map (·.To))).map (kvE iV))::μ)),
  X0 Tryz.prog 84 0 Q (.loop (X0w 1 (Xd Tryz.f103))) [] ⟨fr [(1,AV.ptr 0 0 0),(2,.nils),(3,.sc (.map (some b))),(24,AV.list false (l.map X8)),(25,aI .i64 (l.length:Int)),(26,aI .i64 (k:Int))],hp [(0,Ob [Xb false g] 2)],1⟩ ((b,ks.map (kvE iV))::μ):=by
 intro xs
 induction xs with
 |nil =>
  intro k hx ks C;have hk:=X06 hx;have hc:decide ((k:Int)<(l.length:Int))=false:=Yf om;refine X0.round ?_;exact X3 [Bf] (k:=wkT [] C)
 |cons x xs ih =>
  intro k hx ks C;obtain⟨hk,hg,hx1⟩:=Xy hx;have hc:decide ((k:Int)<(l.length:Int))=true:=Yt om;refine X0.round ?_;refine X1f [Bt,.el (X8 x)] ?_;refine X0.mapLookI (d:=.int .i64) (z:=.int .i64 0) X9 rfl rfl rfl rfl rfl Tryz.underlying3 (λ_=>rfl) rfl rfl rfl trivial trivial rfl Xlu ?_;rw[X051];refine X1f [.wrap] ?_;refine X0.mapUpd (d:=.int .i64) X9 rfl rfl rfl rfl rfl Tryz.underlying3 rfl rfl rfl trivial trivial trivial rfl Xlu ?_;rw[Xye];refine X1f [] ?_;exact wkT [] (ih (k+1) hx1 _ C)
theorem Xgn {Q:Xp->St->Mu->Prop} {μ:Mu} (b:Nat) (g:Xt) (nx:Int) (out:List Int) (nb:Nb out) (l:List Xk) (hl:l.length<=140737488355328):∀ (xs:List Xk) (k:Nat) (hx:l.drop k=xs) (ks:List (Int×Int))
  (C:X0 Tryz.prog 84 0 Q (.exit (.exit 8)) [] ⟨fr [(1,AV.ptr 0 0 0),(2,.nils),(3,.sc (.map (some b))),(7,slE nb.1 1 (List.map (aI .i64) out))],hp ([(0,Ob [Xb false g] 2)]++opE nb.1 1 1 (List.map (aI .i64) out)),2⟩ ((b,(Xaf nx ks (xs.map λc=>(c.From,c.To))).map (kvE iV))::μ)),
  X0 Tryz.prog 84 0 Q (.loop (X0w 4 (Xd Tryz.f103))) [] ⟨fr [(1,AV.ptr 0 0 0),(2,.nils),(3,.sc (.map (some b))),(7,slE nb.1 1 (List.map (aI .i64) out)),(8,aI .i64 nx),(67,AV.list false (l.map X8)),(68,aI .i64 (l.length:Int)),(69,aI .i64 (k:Int))],hp ([(0,Ob [Xb false g] 2)]++opE nb.1 1 1 (List.map (aI .i64) out)),2⟩ ((b,ks.map (kvE iV))::μ):=by
 intro xs
 induction xs with
 |nil =>
  intro k hx ks C;have hk:=X06 hx;have hc:decide ((k:Int)<(l.length:Int))=false:=Yf om;refine X0.round ?_;rcases nb with ⟨_|_,hn⟩<;>(try obtain rfl:=hn rfl);all_goals exact X3 [Bf] (k:=wkT [] C)
 |cons x xs ih =>
  intro k hx ks C;obtain⟨hk,hg,hx1⟩:=Xy hx;have hc:decide ((k:Int)<(l.length:Int))=true:=Yt om;refine X0.round ?_
  cases hs:decide (x.From=nx) with
  |true =>
   have C':X0 Tryz.prog 84 0 Q (.exit (.exit 8)) [] ⟨fr [(1,AV.ptr 0 0 0),(2,.nils),(3,.sc (.map (some b))),(7,slE nb.1 1 (List.map (aI .i64) out))],hp ([(0,Ob [Xb false g] 2)]++opE nb.1 1 1 (List.map (aI .i64) out)),2⟩ ((b,(Xaf nx (Xhb x.To (IntKind.i64.wrap (Xat x.To ks - 1)) ks) (xs.map λc=>(c.From,c.To))).map (kvE iV))::μ):=by
    simp only[List.map_cons,Xaf,hs,cond_true] at C;exact C
   rcases nb with ⟨_|_,hn⟩<;>(try obtain rfl:=hn rfl);all_goals
    refine X1f [Bt,.el (X8 x),Bt] ?_;refine X0.mapLookI (d:=.int .i64) (z:=.int .i64 0) X9 rfl rfl rfl rfl rfl Tryz.underlying3 (λ_=>rfl) rfl rfl rfl trivial trivial rfl Xlu ?_;rw[X051];refine X1f [.wrap] ?_;refine X0.mapUpd (d:=.int .i64) X9 rfl rfl rfl rfl rfl Tryz.underlying3 rfl rfl rfl trivial trivial trivial rfl Xlu ?_;rw[Xye];refine X1f [] ?_;exact wkT [] (ih (k+1) hx1 _ C')
  |false =>
   have C':X0 Tryz.prog 84 0 Q (.exit (.exit 8)) [] ⟨fr [(1,AV.ptr 0 0 0),(2,.nils),(3,.sc (.map (some b))),(7,slE nb.1 1 (List.map (aI .i64) out))],hp ([(0,Ob [Xb false g] 2)]++opE nb.1 1 1 (List.map (aI .i64) out)),2⟩ ((b,(Xaf nx ks (xs.map λc=>(c.From,c.To))).map (kvE iV))::μ):=by
    simp only[List.map_cons,Xaf,hs,cond_false] at C;exact C
   rcases nb with ⟨_|_,hn⟩<;>(try obtain rfl:=hn rfl);all_goals
    refine X1f [Bt,.el (X8 x),Bf] ?_;exact wkT [] (ih (k+1) hx1 _ C')
theorem Xa5 {Q:Xp->St->Mu->Prop} {μ:Mu} (b r:Nat) (g:Xt) (out:List Int) (nb:Nb out) (ents:Array MapEntry) (clock:Nat) (ks:List (Int×Int)) (hl:ents.toList.map (λe=>(e.key,e.val))=ks.map (kvE iV)) (hpw:ents.toList.Pairwise (λx y=>x.born<y.born)) (hcl:∀ e∈ents.toList,e.born<clock) (hge:∀ p∈ks,0<=p.1)
  (C:∀ seen c1,X0 Tryz.prog 84 0 Q (.exit (.exit 6)) [] ⟨fr [(1,AV.ptr 0 0 0),(2,.nils),(3,.sc (.map (some b))),(7,slE nb.1 1 (List.map (aI .i64) out)),(8,aI .i64 (X82 ks))],hp ([(0,Ob [Xb false g] 2)]++opE nb.1 1 1 (List.map (aI .i64) out)),2⟩ ((r,.blk (.mapIter (some b) clock seen c1))::(b,.blk (.map ents clock))::μ)) :
  ∀ (m:Nat) (seen:Array Nat) (c1:Nat) (hc1:clock<=c1) (nx:Int) (hm:(leftOf ents seen).size=m) (hL:Xd5 nx (Xup ents seen)),
  X0 Tryz.prog 84 0 Q (.loop (X0w 3 (Xd Tryz.f103))) [] ⟨fr [(1,AV.ptr 0 0 0),(2,.nils),(3,.sc (.map (some b))),(7,slE nb.1 1 (List.map (aI .i64) out)),(8,aI .i64 nx),(40,.sc (.pointer (some ⟨r,0,none⟩)))],hp ([(0,Ob [Xb false g] 2)]++opE nb.1 1 1 (List.map (aI .i64) out)),2⟩ ((r,.blk (.mapIter (some b) clock seen c1))::(b,.blk (.map ents clock))::μ):=by
 intro m
 induction m using Nat.strongRecOn with
 |ind m ih =>
  intro seen c1 hc1 nx hm hL;refine X0.round ?_;refine X1f [] ?_;refine X0.mapNext rfl rfl rfl rfl trivial hcl hc1 (λh0=>?_) (λe he=>?_)
  ·have hn:=Xvj hl h0 hge hL;subst hn;rcases nb with ⟨_|_,hn⟩<;>(try obtain rfl:=hn rfl);all_goals exact X3 [Bf] (k:=wkT [] (C _ _))
  obtain⟨⟨i,n⟩,hp,hk,hv⟩:=X08d hl (Xl1.1 he).1;have hS:=Xup.step hpw he (i:=i) (n:=n) (by rw[hk,hv];rfl);have hst:=hL.step i n (hge _ hp) hS;have hlt:=X06t he;rcases nb with ⟨_|_,hn⟩<;>(try obtain rfl:=hn rfl);all_goals
   refine X1f [Bt] ?_;refine X0.mapEntryI rfl rfl rfl rfl trivial (Xl1.1 he).1 hpw ?_;rw[hk,hv]
   cases hb:(decide (n=0)&&(decide (nx<0)||decide (i<nx))) with
   |true =>
    rw[hb,cond_true] at hst;exact X3 [Bt] (k:=wkT [] (ih _ (hm▸hlt) _ _ (Nat.le_refl _) _ rfl hst))
   |false =>
    rw[hb,cond_false] at hst;exact X3 [Bf] (k:=wkT [] (ih _ (hm▸hlt) _ _ (Nat.le_refl _) _ rfl hst))
theorem Xyi {P:Prop} (h:P:=by repeat' first|refine Ya ?_ ?_|(refine X1n hq rfl ?_;first|(simp;done)|(simp<;>omega))|(refine X0h hq (by decide) ?_;first|(simp;done)|(simp<;>omega))|exact X04):P:=h
theorem Xnj {Q:Xp->St->Mu->Prop} {μ:Mu} (b:Nat) (g:Xt) (hl:g.Channels.length<=140737488355328) (hto:∀ c∈(g.Channels.map λc=>(c.From,c.To)),0<=c.2):∀ (f:Nat) (ks:List (Int×Int)) (out:List Int) (nb:Nb out) (hf:out.length+f<=1000) (hge:∀ p∈ks,0<=p.1) (r:List Int) (h:Xvc (g.Channels.map λc=>(c.From,c.To)) f ks out=some r)
  (C:∀ (nb':Nb r) es,X0 Tryz.prog 84 0 Q (.exit (.exit 4)) [] ⟨fr [(7,slE nb'.1 0 (List.map (aI .i64) r))],hp ([]++opE nb'.1 0 1 (List.map (aI .i64) r)),1⟩ ((b,.map es)::μ)),
  X0 Tryz.prog 84 0 Q (.loop (X0w 2 (Xd Tryz.f103))) [] ⟨fr [(1,AV.ptr 0 0 0),(2,.nils),(3,.sc (.map (some b))),(7,slE nb.1 1 (List.map (aI .i64) out))],hp ([(0,Ob [Xb false g] 2)]++opE nb.1 1 1 (List.map (aI .i64) out)),2⟩ ((b,ks.map (kvE iV))::μ):=by
 intro f
 induction f with
 |zero=>intro ks out nb hf hge r h;cases h
 |succ f ih =>
  intro ks out nb hf hge r h C;refine X0.round ?_;revert h;rw[Xvc];refine brI (λh1=>?_) λh1=>?_
  ·refine brI (λh2=>?_) λh2=>?_
   ·intro h;obtain rfl:=oj h;rcases nb with ⟨_|_,hn⟩<;>(try obtain rfl:=hn rfl);all_goals
     refine X1f [] ?_;refine X0.mapLen X9 rfl rfl rfl rfl rfl rfl trivial ?_;rw[List.length_map];refine X1f [Bt] ?_;refine X0.mapRange X9 rfl rfl rfl rfl rfl rfl trivial λq ents clock hl1 hpw hcl=>?_;refine X1f [] ?_
    ·refine wkT [] (X0.cut (Xa5 b q g _ nbF ents clock ks hl1 hpw hcl hge (λseen c1=>?_) _ #[] clock (Nat.le_refl _) (-1) rfl Xht));refine X0.glue ?_;refine X0.mapShutC hl1 hpw hcl ?_;exact X3 [Bt] (k:=wkT [(0,1)] (C nbF _))
    refine wkT [] (X0.cut (Xa5 b q g _ nbS ents clock ks hl1 hpw hcl hge (λseen c1=>?_) _ #[] clock (Nat.le_refl _) (-1) rfl Xht));refine X0.glue ?_;refine X0.mapShutC hl1 hpw hcl ?_;exact X3 [Bt] (k:=wkT [] (C nbS _))
   intro h;have hq:X0a (List.length (out++[X82 ks])) 8=some ():=if_pos (by simp;omega);rcases nb with ⟨_|_,hn⟩<;>(try obtain rfl:=hn rfl);all_goals
    refine X1f [] ?_;refine X0.mapLen X9 rfl rfl rfl rfl rfl rfl trivial ?_;rw[List.length_map];refine X1f [Bt] ?_;refine X0.mapRange X9 rfl rfl rfl rfl rfl rfl trivial λq ents clock hl1 hpw hcl=>?_;refine X1f [] ?_
   ·refine wkT [] (X0.cut (Xa5 b q g _ nbF ents clock ks hl1 hpw hcl hge (λseen c1=>?_) _ #[] clock (Nat.le_refl _) (-1) rfl Xht));refine X0.glue ?_;refine X0.mapShutC hl1 hpw hcl ?_;refine X1f [Bf,.no] ?_ (o:=Xyi);refine X0.mapDel (d:=.int .i64) X9 rfl rfl rfl rfl rfl Tryz.underlying3 rfl rfl rfl trivial trivial rfl Xlu ?_;rw[X052];refine X1f [] ?_;refine wkT [(1,3)] (X0.cut (Xgn b g (X82 ks) (out++[X82 ks]) nbF g.Channels hl g.Channels 0 rfl _ ?_));refine X0.glue ?_;exact X3 [] (k:=wkT [] (ih _ _ nbF (by simp;omega) (Xlv _ _ hto (X00e hge)) _ h C))
   refine wkT [] (X0.cut (Xa5 b q g _ nbS ents clock ks hl1 hpw hcl hge (λseen c1=>?_) _ #[] clock (Nat.le_refl _) (-1) rfl Xht));refine X0.glue ?_;refine X0.mapShutC hl1 hpw hcl ?_;refine X1f [Bf,.no] ?_ (o:=Xyi);refine X0.mapDel (d:=.int .i64) X9 rfl rfl rfl rfl rfl Tryz.underlying3 rfl rfl rfl trivial trivial rfl Xlu ?_;rw[X052];refine X1f [] ?_;refine wkT [(1,3)] (X0.cut (Xgn b g (X82 ks) [X82 ks] nbF g.Channels hl g.Channels 0 rfl _ ?_));refine X0.glue ?_;exact X3 [] (k:=wkT [] (ih _ _ nbF (by simp;omega) (Xlv _ _ hto (X00e hge)) _ h C))
  intro h;obtain rfl:=oj h;rcases nb with ⟨_|_,hn⟩<;>(try obtain rfl:=hn rfl);all_goals
   refine X1f [] ?_;refine X0.mapLen X9 rfl rfl rfl rfl rfl rfl trivial ?_;rw[List.length_map]
  ·exact X3 [Bf] (k:=wkT [(0,1)] (C nbF _))
  exact X3 [Bf] (k:=wkT [] (C nbS _))
instance Xni:PCs Tryz.prog 103 (∀ (a0:Xt) (r:List Int),Xcd a0=some r->X05 Tryz.prog 103 [(Xb false a0)] (Lt (List.map (aI .i64) r))):=⟨λa0 r h=>by
 refine X05.sym X9 X0dq (nt:=84) rfl rfl ?_ okM;unfold Xcd at h;revert h;refine bI λu1 h1=>bI λu2 h2=>bI λu3 h3=>?_;intro h;have q1:=X0l h1;have q2:=X0l h2;have hto:∀ c∈(a0.Channels.map λc=>(c.From,c.To)),0<=c.2:=by
  intro c hc;obtain⟨x,hx,rfl⟩:=List.mem_map.1 hc;unfold X06l at h3
  cases hb:a0.Channels.all (λc=>decide (0<=c.To)) with
  |false=>rw[hb] at h3;cases h3
  |true=>exact of_decide_eq_true (List.all_eq_true.1 hb x hx)
 refine X1f [] ?_;refine X0.mapNew rfl rfl rfl λb=>?_;refine X1f [] ?_;refine wkT [] (X0.cut (Xnl b a0 (a0.Ops.length) q1 (a0.Ops.length) 0 (by simp) [] ?_));refine X0.glue ?_;refine X1f [] ?_;refine wkT [] (X0.cut (Xnk b a0 a0.Channels q2 a0.Channels 0 rfl _ ?_));refine X0.glue ?_;refine X1f [] ?_;unfold ordL at h;rw[List.map_map] at h;refine wkT [] (X0.cut (Xnj b a0 q2 hto 1000 _ [] nbS (by simp) (Xrk _ (by intro c hc;obtain⟨x,hx,rfl⟩:=List.mem_map.1 hc;exact hto (x.From,x.To) (List.mem_map.2 ⟨x,hx,rfl⟩)) (Xtx _ (Int.le_refl _) (by intro p hp;cases hp))) r h (λnb' es=>?_)));refine X0.glue ?_;rcases nb' with ⟨_|_,hn⟩<;>(try obtain rfl:=hn rfl);all_goals exact X3 [] (k:=fi)⟩
theorem Xjh {Q:Xp->St->Mu->Prop} {μ:Mu} (Xe:Xt) (Xou:(List GOp)) (hl:Xou.length<=140737488355328):∀ (xs:List GOp) (k:Nat) (hx:Xou.drop k=xs) (o:X7h) (h:X4m Xe Xou xs k  = some o)
  (C0:o=X7h.x0->X0 Tryz.prog 53 0 Q (.exit (.exit 0)) [] ⟨fr [(1,(AV.ptr 0 0 0))],hp ([(0,Ob [(Xb false Xe)] 2)]),1⟩ μ)
  (C1:o=X7h.x1->X0 Tryz.prog 53 0 Q (.exit .ret) [] ⟨fr [(2,(aI .i64 8))],hp ([]),0⟩ μ),
  X0 Tryz.prog 53 0 Q (.loop (X0w 0 (Xd Tryz.f58))) [] ⟨fr [(1,(AV.ptr 0 0 0)),(16,(Lf (Xou.map X2g))),(17,(aI .i64 (Xou.length:Int))),(18,(aI .i64 (k:Int)))],hp ([(0,Ob [(Xb false Xe)] 2)]),1⟩ μ:=by
 intro xs
 induction xs with
 |nil =>
  intro k hx  o h C0 C1;have hk:=X06 hx;have hc:decide ((k:Int)<(Xou.length:Int))=false:=Yf om;rw[X4m] at h;refine X0.round ?_;revert h;exact λe=>X3 [Bf] (k:=wkT [] (C0  (oj e).symm))
 |cons x xs ih =>
  intro k hx  o h C0 C1;obtain⟨hk,hg,hx1⟩:=Xy hx;have hc:decide ((k:Int)<(Xou.length:Int))=true:=Yt om;rw[X4m] at h;refine X0.round ?_;revert h;refine brI (λh11=>λe=>X3 [Bt,.el (X2g x),Bt] (k:=wkT [] (C1  (oj e).symm))) λh11=>rnI [Bt,.el (X2g x),Bf] ?_;intro h;exact wkT [] (ih (k+1) hx1  o h C0 C1)
instance X01y:PCs Tryz.prog 58 (∀ (a0:Xt) (r:Int),Xce a0=some r->X05 Tryz.prog 58 [(Xb false a0)] (aI .i64 r)):=⟨λa0 r h=>by
 refine X05.sym X9 fn58 (nt:=53) rfl rfl ?_ okM;unfold Xce at h;revert h;refine bI λX07r h4=>rnI [.stop 1] ?_;intro h;refine X0.join (s':=⟨fr [(1,(AV.ptr 0 0 0)),(14,(aB X07r))],hp ([(0,Ob [(Xb false a0)] 2)]),1⟩) ?_ (λJ=>X0.cut ?_)
 ·
  revert h;refine brI (λh5=>λe=>oj e▸X3 [Bt] (k:=fi)) λh5=>bI λu6 h7=>?_;have qh7:=X0l h7;refine bI λo12 h13=>rnI [Bf,.el (aI .i64 (a0.Ops.length:Int))] ?_;intro h;refine wkT [] (X0.cut (Xjh a0 a0.Ops qh7 a0.Ops 0 (by simp) _ h13 ?_ ?_))
  ·
   intro eo12;subst eo12;refine X0.glue ?_;try dsimp only at h
   revert h;refine bI λXzg h25=>rnI [.stop 9] ?_;intro h;refine X0.join (s':=⟨fr [(52,(aB Xzg))],hp ([]),0⟩) ?_ (λJ=>X0.cut ?_)
   ·
    revert h;exact brI (λh26=>λe=>oj e▸X3 [Bt] (k:=fi)) λh26=>λe=>oj e▸X3 [Bf] (k:=fi)
   clear h;revert h25;refine bI λv20 h21=>brI (λh22=>?_) λh22=>?_
   ·
    intro h;obtain rfl:=oj h;exact X3 [.pure [(Xb false a0)] (aB v20),Gf,Gf,Gf,Gf,Gf,Gf,Gf,Gt] (o:=by repeat' first|apply Ya|exact pcM|exact(pn (Xfo _ _ h21) (cc (X9g (cc (X1c (X0p Xcv a0.Ops)) (cc (X1c (X0p X37 a0.Channels)) cn))) cn))|exact X04) (k:=wkT [] (X0.glue J))
   refine bI λv23 h24=>?_;intro h;obtain rfl:=oj h;exact X3 [.pure [(Xb false a0)] (aB v20),Gt,Gt,.pure [(Xb false a0)] (Lt (List.map (aI .i64) v23)),Gt,.el (aI .i64 (v23.length:Int)),Gt,Gt,Gt,.el (aI .i64 (a0.Ops.length:Int)),Gt] (o:=by repeat' first|apply Ya|exact pcM|exact(pn (Xfo _ _ h21) (cc (X9g (cc (X1c (X0p Xcv a0.Ops)) (cc (X1c (X0p X37 a0.Channels)) cn))) cn))|exact(pn (Xni _ _ h24) (cc (X9g (cc (X1c (X0p Xcv a0.Ops)) (cc (X1c (X0p X37 a0.Channels)) cn))) cn))|exact X04) (k:=wkT [] (X0.glue J))
  intro eo12;subst eo12;refine X0.glue ?_;try dsimp only at h
  revert h;exact λe=>oj e▸X3 [] (k:=fi)
 clear h;revert h4;refine brI (λh3=>?_) λh3=>?_
 ·
  intro h;obtain rfl:=oj h;exact X3 [.el (aI .i64 (a0.Ops.length:Int)),Gf,Gf,Gf,Gf] (k:=wkT [] (X0.glue J))
 intro h;obtain rfl:=oj h;exact X3 [.el (aI .i64 (a0.Ops.length:Int)),Gt,Gt,Gt,.el (aI .i64 (a0.Channels.length:Int)),Gt] (k:=wkT [] (X0.glue J))⟩
instance Xvg:PCs Tryz.prog 154 (∀ (a0:Int) (r:Bool),X4j a0=some r->X05 Tryz.prog 154 [(aI .i64 a0)] (aB r)):=⟨λa0 r h=>by
 refine X05.sym X9 X0db (nt:=9) rfl rfl ?_ okM;unfold X4j at h;revert h;exact λe=>oj e▸X3 [] (k:=fi)⟩
instance Xvh:PCs Tryz.prog 155 (∀ (a0:Int) (r:Bool),X5s a0=some r->X05 Tryz.prog 155 [(aI .i64 a0)] (aB r)):=⟨λa0 r h=>by
 refine X05.sym X9 X0da (nt:=9) rfl rfl ?_ okM;unfold X5s at h;revert h;exact bI λv1 h2=>λe=>oj e▸X3 [.pure _ (aB v1)] (k:=fi)⟩
instance Xwn:PCs Tryz.prog 104 (∀ (a0:Xo) (r:Int),X34 a0=some r->X05 Tryz.prog 104 [(Xw a0)] (aI .i64 r)):=⟨λa0 r h=>by
 refine X05.sym X9 X0dp (nt:=59) rfl rfl ?_ okM;unfold X34 at h;revert h;refine bI λX07t h4=>rnI [] ?_;intro h;refine X0.join (s':=⟨fr [(1,(AV.ptr 0 0 0)),(3,(aB false)),(4,(AV.ptr 1 0 0)),(10,(aI .u8 a0.Kind)),(11,(aB X07t))],hp ([(0,Ob [(Xw a0)] 10),(1,Ob [(Xw (Xo.mk a0.Kind (X07.mk 0 0 0) 0 (X9f.mk 0 (X5w.mk 0 0) (V2.mk 0 0))))] 10)]),2⟩) ?_ (λJ=>X0.cut ?_)
 ·
  revert h;refine bI λw12 h20=>?_;intro h;obtain⟨X0bx,X0ae⟩:=w12;try dsimp only at h
  refine X1f [] ?_;refine X0.join (s':=⟨fr [(1,(AV.ptr 0 0 0)),(3,(aB X0bx)),(4,(AV.ptr 1 0 0))],hp ([(0,Ob [(Xw a0)] 10),(1,Ob [(Xw X0ae)] 10)]),2⟩) ?_ (λJ=>X0.cut ?_)
  ·
   revert h;exact brI (λh21=>λe=>oj e▸X3 [Bt] (k:=fi)) λh21=>λe=>oj e▸X3 [Bf] (k:=fi)
  clear h;revert h20;refine brI (λh13=>?_) λh13=>?_
  ·
   refine bI λv14 h15=>?_;intro h;simp only[Option.some.injEq,Prod.mk.injEq] at h;obtain⟨rfl,rfl⟩:=h;exact X3 [Bt,.pure _ (aB v14)] (k:=wkT [] (X0.glue J))
  refine brI (λh16=>?_) λh16=>?_
  ·
   refine bI λv17 h18=>?_;intro h;simp only[Option.some.injEq,Prod.mk.injEq] at h;obtain⟨rfl,rfl⟩:=h;exact X3 [Bf,Bt,.pure _ (aB v17)] (k:=wkT [] (X0.glue J))
  refine brI (λh19=>?_) λh19=>?_
  ·
   intro h;simp only[Option.some.injEq,Prod.mk.injEq] at h;obtain⟨rfl,rfl⟩:=h;exact X3 [Bf,Bf,Bt] (k:=wkT [] (X0.glue J))
  intro h;simp only[Option.some.injEq,Prod.mk.injEq] at h;obtain⟨rfl,rfl⟩:=h;exact X3 [Bf,Bf,Bf] (k:=wkT [] (X0.glue J))
 clear h;revert h4;refine brI (λh3=>?_) λh3=>?_
 ·
  intro h;obtain rfl:=oj h;exact X3 [Bt] (k:=wkT [] (X0.glue J))
 intro h;obtain rfl:=oj h;exact X3 [Bf] (k:=wkT [] (X0.glue J))⟩
theorem Xha {Q:Xp->St->Mu->Prop} {μ:Mu} (Xot:(List Xo)) (hl:Xot.length<=140737488355328):∀ (xs:List Xo) (k:Nat) (hx:Xot.drop k=xs) (o:X63) (h:X2e Xot xs k  = some o)
  (C0:o=X63.x0->X0 Tryz.prog 35 0 Q (.exit (.exit 0)) [] ⟨fr [],hp ([]),0⟩ μ)
  (C1:∀ (X7s:Int),o=X63.x1 X7s->X0 Tryz.prog 35 0 Q (.exit .ret) [] ⟨fr [(2,(aI .i64 X7s))],hp ([]),0⟩ μ),
  X0 Tryz.prog 35 0 Q (.loop (X0w 0 (Xd Tryz.f59))) [] ⟨fr [(23,(Lf (Xot.map Xw))),(24,(aI .i64 (Xot.length:Int))),(25,(aI .i64 (k:Int)))],hp ([]),0⟩ μ:=by
 intro xs
 induction xs with
 |nil =>
  intro k hx  o h C0 C1;have hk:=X06 hx;have hc:decide ((k:Int)<(Xot.length:Int))=false:=Yf om;rw[X2e] at h;refine X0.round ?_;revert h;exact λe=>X3 [Bf] (k:=wkT [] (C0  (oj e).symm))
 |cons x xs ih =>
  intro k hx  o h C0 C1;obtain⟨hk,hg,hx1⟩:=Xy hx;have hc:decide ((k:Int)<(Xot.length:Int))=true:=Yt om;rw[X2e] at h;refine X0.round ?_;revert h;refine bI λv17 h18=>brI (λh19=>λe=>X3 [Bt,.el (Xw x),.pure _ (aI .i64 v17),Bt] (k:=wkT [] (C1 _  (oj e).symm))) λh19=>rnI [Bt,.el (Xw x),.pure _ (aI .i64 v17),Bf] ?_;intro h;exact wkT [] (ih (k+1) hx1  o h C0 C1)
instance Xwq:PCs Tryz.prog 59 (∀ (a0:X0e) (r:Int),X6p a0=some r->X05 Tryz.prog 59 [(Xq false a0)] (aI .i64 r)):=⟨λa0 r h=>by
 refine X05.sym X9 fn59 (nt:=35) rfl rfl ?_ okM;unfold X6p at h;revert h;refine bI λX07l h6=>rnI [.stop 1] ?_;intro h;refine X0.join (s':=⟨fr [(1,(AV.ptr 0 0 0)),(21,(aB X07l))],hp ([(0,Ob [(Xq false a0)] 2)]),1⟩) ?_ (λJ=>X0.cut ?_)
 ·
  revert h;refine brI (λh7=>λe=>oj e▸X3 [Bt] (k:=fi)) λh7=>bI λu8 h9=>?_;have qh9:=X0l h9;refine bI λo20 h21=>rnI [Bf,.el (aI .i64 (a0.List.length:Int))] ?_;intro h;refine wkT [] (X0.cut (Xha a0.List qh9 a0.List 0 (by simp) _ h21 ?_ ?_))
  ·
   intro eo20;subst eo20;refine X0.glue ?_;try dsimp only at h
   revert h;exact λe=>oj e▸X3 [] (k:=fi)
  intro X7s eo20;subst eo20;refine X0.glue ?_;try dsimp only at h
  revert h;exact λe=>oj e▸X3 [] (k:=fi)
 clear h;revert h6;refine brI (λh4=>?_) λh4=>?_
 ·
  intro h;obtain rfl:=oj h;exact X3 [Gf,Gf,Gf,Gf,Gf,Gf,Gf,Gf,Gf] (o:=by repeat' first|apply Ya|exact pcM|exact fq (X6 h4 rfl)|exact X04) (k:=wkT [] (X0.glue J))
 refine brI (λh5=>?_) λh5=>?_
 ·
  intro h;obtain rfl:=oj h;exact X3 [Gt,Gt,Gt,Gf,Gf,Gf,Gf,Gf,Gf] (o:=by repeat' first|apply Ya|exact pcM|exact fq (X5 h4 h5)|exact X04) (k:=wkT [] (X0.glue J))
 intro h;obtain rfl:=oj h;exact X3 [Gt,Gt,Gt,Gt,Gt,Gt,.el (aI .i64 (a0.List.length:Int)),Gt,Gt,Gt] (o:=by repeat' first|apply Ya|exact pcM|exact fq (X5 h4 h5)|exact X04) (k:=wkT [] (X0.glue J))⟩
instance X00z:PCs Tryz.prog 156 (∀ (a0:Int) (r:Int×Int×Bool×Bool×Bool×Bool),Xbi a0=some r->X05 Tryz.prog 156 [(aI .u8 a0)] (AV.tup [(aI .i64 r.1),(aI .i64 r.2.1),(aB r.2.2.1),(aB r.2.2.2.1),(aB r.2.2.2.2.1),(aB r.2.2.2.2.2)])):=⟨λa0 r h=>by
 refine X05.sym X9 X0d9 (nt:=23) rfl rfl ?_ okM;unfold Xbi at h;revert h;refine bI λw8 h16=>?_;intro h;obtain⟨j8_2,j8_3,j8_4,j8_5,j8_6,j8_7⟩:=w8;try dsimp only at h
 refine X1f [] ?_;refine X0.join (s':=⟨fr [(2,(aI .i64 j8_2)),(3,(aI .i64 j8_3)),(4,(aB j8_4)),(5,(aB j8_5)),(6,(aB j8_6)),(7,(aB j8_7))],hp ([]),0⟩) ?_ (λJ=>X0.cut ?_)
 ·
  revert h;exact λe=>oj e▸X3 [] (k:=fi)
 clear h;revert h16;refine brI (λh9=>?_) λh9=>?_
 ·
  intro h;simp only[Option.some.injEq,Prod.mk.injEq] at h;obtain⟨rfl,rfl,rfl,rfl,rfl,rfl⟩:=h;exact X3 [Bt] (k:=wkT [] (X0.glue J))
 refine brI (λh10=>?_) λh10=>?_
 ·
  intro h;simp only[Option.some.injEq,Prod.mk.injEq] at h;obtain⟨rfl,rfl,rfl,rfl,rfl,rfl⟩:=h;exact X3 [Bf,Bt] (k:=wkT [] (X0.glue J))
 refine brI (λh11=>?_) λh11=>?_
 ·
  intro h;simp only[Option.some.injEq,Prod.mk.injEq] at h;obtain⟨rfl,rfl,rfl,rfl,rfl,rfl⟩:=h;exact X3 [Bf,Bf,Bt] (k:=wkT [] (X0.glue J))
 refine brI (λh12=>?_) λh12=>?_
 ·
  intro h;simp only[Option.some.injEq,Prod.mk.injEq] at h;obtain⟨rfl,rfl,rfl,rfl,rfl,rfl⟩:=h;exact X3 [Bf,Bf,Bf,Bt] (k:=wkT [] (X0.glue J))
 refine brI (λh13=>?_) λh13=>?_
 ·
  intro h;simp only[Option.some.injEq,Prod.mk.injEq] at h;obtain⟨rfl,rfl,rfl,rfl,rfl,rfl⟩:=h;exact X3 [Bf,Bf,Bf,Bf,Bt] (k:=wkT [] (X0.glue J))
 refine brI (λh14=>?_) λh14=>?_
 ·
  intro h;simp only[Option.some.injEq,Prod.mk.injEq] at h;obtain⟨rfl,rfl,rfl,rfl,rfl,rfl⟩:=h;exact X3 [Bf,Bf,Bf,Bf,Bf,Bt] (k:=wkT [] (X0.glue J))
 refine brI (λh15=>?_) λh15=>?_
 ·
  intro h;simp only[Option.some.injEq,Prod.mk.injEq] at h;obtain⟨rfl,rfl,rfl,rfl,rfl,rfl⟩:=h;exact X3 [Bf,Bf,Bf,Bf,Bf,Bf,Bt] (k:=wkT [] (X0.glue J))
 intro h;simp only[Option.some.injEq,Prod.mk.injEq] at h;obtain⟨rfl,rfl,rfl,rfl,rfl,rfl⟩:=h;exact X3 [Bf,Bf,Bf,Bf,Bf,Bf,Bf] (k:=wkT [] (X0.glue J))⟩
instance X04q:PCs Tryz.prog 157 (∀ (a0:Bool) (a1:Int) (r:Int),Xbh a0 a1=some r->X05 Tryz.prog 157 [(aB a0),(aI .i64 a1)] (aI .i64 r)):=⟨λa0 a1 r h=>by
 refine X05.sym X9 X0d8 (nt:=7) rfl rfl ?_ okM;unfold Xbh at h;revert h;exact brI (λh1=>λe=>oj e▸X3 [Bt] (k:=fi)) λh1=>λe=>oj e▸X3 [Bf] (k:=fi)⟩
theorem Xk4 {Q:Xp->St->Mu->Prop} {μ:Mu} (X87:(List X3i)) (hl:X87.length<=140737488355328):∀ (xs:List X3i) (k:Nat) (hx:X87.drop k=xs) (o:X8a) (h:X50 X87 xs k  = some o)
  (C0:o=X8a.x0->X0 Tryz.prog 26 0 Q (.exit (.exit 0)) [] ⟨fr [],hp ([]),0⟩ μ)
  (C1:o=X8a.x1->X0 Tryz.prog 26 0 Q (.exit .ret) [] ⟨fr [(2,(aB false))],hp ([]),0⟩ μ),
  X0 Tryz.prog 26 0 Q (.loop (X0w 0 (Xd Tryz.f158))) [] ⟨fr [(5,(Lf (X87.map X0i))),(6,(aI .i64 (X87.length:Int))),(7,(aI .i64 (k:Int)))],hp ([]),0⟩ μ:=by
 intro xs
 induction xs with
 |nil =>
  intro k hx  o h C0 C1;have hk:=X06 hx;have hc:decide ((k:Int)<(X87.length:Int))=false:=Yf om;rw[X50] at h;refine X0.round ?_;revert h;exact λe=>X3 [Bf] (k:=wkT [] (C0  (oj e).symm))
 |cons x xs ih =>
  intro k hx  o h C0 C1;obtain⟨hk,hg,hx1⟩:=Xy hx;have hc:decide ((k:Int)<(X87.length:Int))=true:=Yt om;rw[X50] at h;refine X0.round ?_;revert h;refine bI λXzc h35=>rnI [Bt,.el (X0i x),.stop 4] ?_;intro h;refine X0.join (s':=⟨fr [(5,(Lf (X87.map X0i))),(6,(aI .i64 (X87.length:Int))),(7,(aI .i64 (k:Int))),(24,(aB Xzc))],hp ([]),0⟩) ?_ (λJ=>X0.cut ?_)
  ·
   revert h;refine brI (λh36=>λe=>X3 [Bt] (k:=wkT [] (C1  (oj e).symm))) λh36=>rnI [Bf] ?_;intro h;exact wkT [] (ih (k+1) hx1  o h C0 C1)
  clear h;revert h35;refine brI (λh31=>?_) λh31=>?_
  ·
   intro h;obtain rfl:=oj h;exact X3 [Gf,Gf,Gf,Gf,Gf,Gf,Gf] (o:=by repeat' first|apply Ya|exact pcM|exact fq (X6 h31 rfl)|exact X04) (k:=wkT [] (X0.glue J))
  refine brI (λh32=>?_) λh32=>?_
  ·
   intro h;obtain rfl:=oj h;exact X3 [Gt,Gt,Gt,Gf,Gf,Gf,Gf] (o:=by repeat' first|apply Ya|exact pcM|exact fq (X5 h31 h32)|exact X04) (k:=wkT [] (X0.glue J))
  refine bI λv33 h34=>?_;intro h;obtain rfl:=oj h;exact X3 [Gt,Gt,Gt,Gt,Gt,Gt,.pure _ (aI .i64 v33),Gt] (o:=by repeat' first|apply Ya|exact pcM|exact fq (X5 h31 h32)|exact X04) (k:=wkT [] (X0.glue J))
instance X02c:PCs Tryz.prog 158 (∀ (a0:(List X3i)) (r:Bool),Xd9 a0=some r->X05 Tryz.prog 158 [(Lf (a0.map X0i))] (aB r)):=⟨λa0 r h=>by
 refine X05.sym X9 X0d7 (nt:=26) rfl rfl ?_ okM;unfold Xd9 at h;revert h;refine bI λu1 h2=>?_;have qh2:=X0l h2;refine bI λo37 h38=>rnI [.el (aI .i64 (a0.length:Int))] ?_;intro h;refine wkT [] (X0.cut (Xk4 a0 qh2 a0 0 (by simp) _ h38 ?_ ?_))
 ·
  intro eo37;subst eo37;refine X0.glue ?_;try dsimp only at h
  revert h;exact λe=>oj e▸X3 [] (k:=fi)
 intro eo37;subst eo37;refine X0.glue ?_;try dsimp only at h
 revert h;exact λe=>oj e▸X3 [] (k:=fi)⟩
instance X9a:PCs Tryz.prog 258 (∀ (a0:X4z) (r:Int),X40 a0=some r->X05 Tryz.prog 258 [(X84 a0)] (aI .i64 r)):=⟨λa0 r h=>by
 refine X05.sym X9 X0c7 (nt:=43) rfl rfl ?_ okM;unfold X40 at h;revert h;refine bI λj4_3 h8=>rnI [] ?_;intro h;refine X0.join (s':=⟨fr [(3,(aB j4_3))],hp ([]),0⟩) ?_ (λJ=>X0.cut ?_)
 ·
  revert h;exact brI (λh9=>λe=>oj e▸X3 [Bt] (k:=fi)) λh9=>λe=>oj e▸X3 [Bf] (k:=fi)
 clear h;revert h8;refine brI (λh5=>?_) λh5=>?_
 ·
  intro h;obtain rfl:=oj h;exact X3 [Bt] (k:=wkT [] (X0.glue J))
 refine brI (λh6=>?_) λh6=>?_
 ·
  intro h;obtain rfl:=oj h;exact X3 [Bf,Bt] (k:=wkT [] (X0.glue J))
 refine brI (λh7=>?_) λh7=>?_
 ·
  intro h;obtain rfl:=oj h;exact X3 [Bf,Bf,Bt] (k:=wkT [] (X0.glue J))
 intro h;obtain rfl:=oj h;exact X3 [Bf,Bf,Bf] (k:=wkT [] (X0.glue J))⟩
instance Xcy:PCs Tryz.prog 218 (∀ (a0:Xg) (r:Bool),X7k a0=some r->X05 Tryz.prog 218 [(X1 a0)] (aB r)):=⟨λa0 r h=>by
 refine X05.sym X9 X0ck (nt:=46) rfl rfl ?_ okM;unfold X7k at h;revert h;refine brI (λh1=>λe=>oj e▸X3 [Bt] (k:=fi)) λh1=>bI λj8_2 h15=>rnI [Bf,.stop 3] ?_;intro h;refine X0.join (s':=⟨fr [(2,(aB j8_2))],hp ([]),0⟩) ?_ (λJ=>X0.cut ?_)
 ·
  revert h;exact λe=>oj e▸X3 [] (k:=fi)
 clear h;revert h15;refine bI λv9 h10=>brI (λh11=>?_) λh11=>?_
 ·
  refine bI λv12 h13=>brI (λh14=>?_) λh14=>?_
  ·
   intro h;obtain rfl:=oj h;exact X3 [.ix 0,.pure _ (aI .i64 v9),Gt,Gt,.ix 1,Gt,Gt,.pure _ (aI .i64 v12),Gt,Gt,Gt,.ix 0,Gt,Gt,Gt,Gt,.ix 1,Gt,Gt,Gt,.wrap,Gt] (o:=by repeat' first|apply Ya|exact pcM|exact fq (X6 h11 h14)|exact X04) (k:=wkT [] (X0.glue J))
  intro h;obtain rfl:=oj h;exact X3 [.ix 0,.pure _ (aI .i64 v9),Gt,Gt,.ix 1,Gt,Gt,.pure _ (aI .i64 v12),Gt,Gf,Gf,Gf,Gf,Gf,Gf,Gf,Gf,Gf,Gf] (o:=by repeat' first|apply Ya|exact pcM|exact fq (X6 h11 h14)|exact X04) (k:=wkT [] (X0.glue J))
 intro h;obtain rfl:=oj h;exact X3 [.ix 0,.pure _ (aI .i64 v9),Gf,Gf,Gf,Gf,Gf,Gf,Gf,Gf,Gf,Gf,Gf,Gf,Gf,Gf,Gf] (o:=by repeat' first|apply Ya|exact pcM|exact fq (X5 h11 rfl)|exact X04) (k:=wkT [] (X0.glue J))⟩
instance Xuj:PCs Tryz.prog 123 (∀ (a0:Int) (r:Bool),X6e a0=some r->X05 Tryz.prog 123 [(aI .i64 a0)] (aB r)):=⟨λa0 r h=>by
 refine X05.sym X9 X0dj (nt:=6) rfl rfl ?_ okM;unfold X6e at h;revert h;exact λe=>oj e▸X3 [] (k:=fi)⟩
instance Xro:PCs Tryz.prog 77 (∀ (a0:Int) (a1:Int) (r:Int),X11 a0 a1=some r->X05 Tryz.prog 77 [(aI .i64 a0),(aI .i64 a1)] (aI .i64 r)):=⟨λa0 a1 r h=>by
 refine X05.sym X9 fn77 (nt:=20) rfl rfl ?_ okM;unfold X11 at h;revert h;exact bI λv1 h2=>bI λv3 h4=>brI (λh5=>brI (λh6=>λe=>oj e▸X3 [.pure _ (aB v1),.pure _ (aB v3),Bt,Bt] (k:=fi)) λh6=>λe=>oj e▸X3 [.pure _ (aB v1),.pure _ (aB v3),Bt,Bf] (k:=fi)) λh5=>brI (λh7=>λe=>oj e▸X3 [.pure _ (aB v1),.pure _ (aB v3),Bf,Bt] (k:=fi)) λh7=>brI (λh8=>λe=>oj e▸X3 [.pure _ (aB v1),.pure _ (aB v3),Bf,Bf,Bt] (k:=fi)) λh8=>brI (λh9=>λe=>oj e▸X3 [.pure _ (aB v1),.pure _ (aB v3),Bf,Bf,Bf,Bt] (k:=fi)) λh9=>λe=>oj e▸X3 [.pure _ (aB v1),.pure _ (aB v3),Bf,Bf,Bf,Bf] (k:=fi)⟩
end Go.Av.Tryz