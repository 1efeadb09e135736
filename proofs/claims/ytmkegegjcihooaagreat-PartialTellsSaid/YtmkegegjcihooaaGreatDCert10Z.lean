/- Printed by decomp.py: that the program computes the functions. -/
import Derived.Test.YtmkegegjcihooaaGreatDCert9Z
set_option linter.all false

namespace Go.Av.Tryz
open Go.Proofs Go.D
set_option maxRecDepth 100000
set_option maxHeartbeats 40000000
theorem X04f (a b:Int):X4t a b=some (cmI a b):=by
 unfold X4t cmI;by_cases h:a<b
 ·simp[h,X2n]
 by_cases h2:a>b
 ·simp[h,h2,X2n]
 simp[h,h2,X2n]
theorem Xvl (g:Xt) (x y:Int) (hx:0<=x/\x<g.Channels.length) (hy:0<=y/\y<g.Channels.length) :
  X05 Tryz.prog 81 [aI .i64 x,aI .i64 y,.elem false (Xb false g) 0] (aI .i64 (cmI (Xrq g x) (Xrq g y))):=by
 refine X05.sym X9 fn81 (nt:=19) rfl rfl ?_ (Xs .sc (Xs .sc (Xs .elem X3k)));have h1:g.Channels[x.toNat]?=some (g.Channels[x.toNat]?.getD default):=by rw[Ye om];rfl
 have h2:g.Channels[y.toNat]?=some (g.Channels[y.toNat]?.getD default):=by rw[Ye om];rfl
 have hc:=X04f (Xrq g x) (Xrq g y);refine X1f [.el (X8 (g.Channels[x.toNat]?.getD default)),.el (X8 (g.Channels[y.toNat]?.getD default)),.pure [aI .i64 (Xrq g x),aI .i64 (Xrq g y)] (aI .i64 (cmI (Xrq g x) (Xrq g y)))] (o:=?o1) ?k1
 case o1 =>
  repeat' first |refine Ya ?_ ?_|exact trivial|exact hx.1|exact hy.1|exact pcM|(rw[List.getElem?_map,h1];rfl)|(rw[List.getElem?_map,h2];rfl)
 exact fi
theorem Xkz {P:Prop} (h:P:=by repeat' first|refine Ya ?_ ?_|(refine X1n hq rfl ?_;first|(simp;done)|(simp<;>omega))|(refine X0h hq (by decide) ?_;first|(simp;done)|(simp<;>omega))|exact X04):P:=h
theorem Xzq {Q:Xp->St->Mu->Prop} {μ:Mu} (g:Xt) (op:Int) (hl:g.Channels.length<=1000):∀ (xs:List Xk) (k:Nat) (hx:g.Channels.drop k=xs) (l:List Int) (nb:Nb l) (hll:l.length<=k) (hkl:k<=g.Channels.length)
  (C:∀ nb':Nb (l++X4l (λc=>c.To==op) xs k),X0 Tryz.prog 29 0 Q (.exit (.exit 0)) [] ⟨fr [(2,AV.ptr 0 0 0),(5,slE nb'.1 1 (List.map (aI .i64) (l++X4l (λc=>c.To==op) xs k)))],hp ([(0,Ob [Xb false g] 2)]++opE nb'.1 1 1 (List.map (aI .i64) (l++X4l (λc=>c.To==op) xs k))),2⟩ μ),
  X0 Tryz.prog 29 0 Q (.loop (X0w 0 (Xd Tryz.f47))) [] ⟨fr [(1,aI .i64 op),(2,AV.ptr 0 0 0),(5,slE nb.1 1 (List.map (aI .i64) l)),(9,AV.list false (g.Channels.map X8)),(10,aI .i64 (g.Channels.length:Int)),(11,aI .i64 (k:Int))],hp ([(0,Ob [Xb false g] 2)]++opE nb.1 1 1 (List.map (aI .i64) l)),2⟩ μ:=by
 intro xs
 induction xs with
 |nil =>
  intro k hx l nb hll hkl C;have hk:=X06 hx;have hc:decide ((k:Int)<(g.Channels.length:Int))=false:=Yf om;refine X0.round ?_;rw[X4l,List.append_nil] at C;rcases nb with ⟨_|_,hn⟩<;>(try obtain rfl:=hn rfl)
  ·exact X3 [Bf] (k:=wkT [] (C nbF))
  ·exact X3 [Bf] (k:=wkT [] (C nbS))
 |cons x xs ih =>
  intro k hx l nb hll hkl C;obtain⟨hk,hg,hx1⟩:=Xy hx;have hc:decide ((k:Int)<(g.Channels.length:Int))=true:=Yt om;refine X0.round ?_
  cases hp:x.To==op with
  |true =>
   have he:l++X4l (λc=>c.To==op) (x::xs) k=(l++[(k:Int)])++X4l (λc=>c.To==op) xs (k+1):=by rw[X4l,hp,cond_true];simp
   rw[he] at C;have hq:X0a (List.length (l++[(k:Int)])) 8=some ():=if_pos (by simp;omega);rcases nb with ⟨_|_,hn⟩<;>(try obtain rfl:=hn rfl)
   ·refine X1f [Bt,.el (X8 x),Bt,.no] ?_ (o:=Xkz);exact wkT [(1,4)] (ih (k+1) hx1 _ nbF (by simp<;>omega) om C)
   refine X1f [Bt,.el (X8 x),Bt,.no] ?_ (o:=Xkz);exact wkT [(1,4)] (ih (k+1) hx1 _ nbF (by simp<;>omega) om C)
  |false =>
   have he:l++X4l (λc=>c.To==op) (x::xs) k=l++X4l (λc=>c.To==op) xs (k+1):=by rw[X4l,hp,cond_false]
   rw[he] at C;rcases nb with ⟨_|_,hn⟩<;>(try obtain rfl:=hn rfl)
   ·refine X1f [Bt,.el (X8 x),Bf] ?_;exact wkT [] (ih (k+1) hx1 _ nbF om om C)
   refine X1f [Bt,.el (X8 x),Bf] ?_;exact wkT [] (ih (k+1) hx1 _ nbS om om C)
theorem Xn6 (a0:Xt) (a1:Int) (r:List Int) (h:Xbq a0 a1=some r) :
  X05 Tryz.prog 47 [Xb false a0,aI .i64 a1] (Lt (List.map (aI .i64) r)):=by
 unfold Xbq at h;revert h;refine brI (λh1=>brI (λh2 h=>?_) (λ_ h=>by cases h)) (λ_ h=>by cases h);have q1:=of_decide_eq_true h1;have q2:=of_decide_eq_true h2;obtain rfl:=oj h;refine X05.sym X9 fn47 (nt:=29) rfl rfl ?_ okM;refine X1f [] ?_;refine wkT [] (X0.cut (Xzq a0 a1 q1 a0.Channels 0 rfl [] nbS (Nat.zero_le _) (Nat.zero_le _) (λnb'=>?_)));refine X0.glue ?_;have hlen:=Xmg (λc:Xk=>c.To==a1) a0.Channels 0;have hmem:=Xmf (λc:Xk=>c.To==a1) a0.Channels 0;revert nb';show ∀ nb':Nb (X4l (λc:Xk=>c.To==a1) a0.Channels 0),X0 Tryz.prog 29 0 _ _ _ ⟨fr [(2,AV.ptr 0 0 0),(5,slE nb'.1 1 (List.map (aI .i64) (X4l (λc:Xk=>c.To==a1) a0.Channels 0)))],hp ([(0,Ob [Xb false a0] 2)]++opE nb'.1 1 1 (List.map (aI .i64) (X4l (λc:Xk=>c.To==a1) a0.Channels 0))),2⟩ _;generalize X4l (λc:Xk=>c.To==a1) a0.Channels 0=l at *;intro nb';rcases nb' with ⟨_|_,hn⟩
 ·by_cases hne:l=[]
  ·subst hne;refine X1f [.call (.tup []) [(0,Ob [Xb false a0] 2),(1,Ob [] 1)] 2] (o:=?o3) ?k3
   case o3=>exact⟨⟨Xo2 Tryz.sortLayG80 rfl ⟨_,_,fn80⟩⟩,trivial⟩
   rw[show X8f (Xrq a0) []=[] from List.eq_nil_of_length_eq_zero (X3f _ [])];exact fi
  ·refine X1f [.call (.tup []) [(1,Ob ((X8f (Xrq a0) l).map (aI .i64)) 1),(0,Ob [Xb false a0] 2),(1,Ob (l.map (aI .i64)) 1)] 2] (o:=?o1) ?k1
   case o1 =>
    refine⟨Xxb Tryz.sortLayF80 rfl (Xrq a0) hne (Xm1 q2) (bcaps:=[.elem false (Xb false a0) 0]) ?_ (λx hx y hy=>Xvl a0 x y ?_ ?_) rfl (by simp) om ⟨_,_,fn80⟩ ⟨_,_,fn81⟩,trivial⟩
    ·exact cc cvM cn
    ·obtain⟨i,rfl,_,h3⟩:=hmem x hx;omega
    ·obtain⟨i,rfl,_,h3⟩:=hmem y hy;omega
   have hs:=X3f (Xrq a0) l;exact fi
 ·obtain rfl:=hn rfl;refine X1f [.call (.tup []) [(0,Ob [Xb false a0] 2)] 2] (o:=?o2) ?k2
  case o2=>exact⟨⟨Xtk (cap:=0) Tryz.sortLayG80 rfl ⟨_,_,fn80⟩⟩,trivial⟩
  rw[show X8f (Xrq a0) []=[] from List.eq_nil_of_length_eq_zero (X3f _ [])];exact fi
theorem X00h (a b:Int):X4t a b=some (cmI a b):=by
 unfold X4t cmI;by_cases h:a<b
 ·simp[h,X2n]
 by_cases h2:a>b
 ·simp[h,h2,X2n]
 simp[h,h2,X2n]
theorem Xs6 (g:Xt) (x y:Int) (hx:0<=x/\x<g.Channels.length) (hy:0<=y/\y<g.Channels.length) :
  X05 Tryz.prog 128 [aI .i64 x,aI .i64 y,.elem false (Xb false g) 0] (aI .i64 (cmI (Xge g x) (Xge g y))):=by
 refine X05.sym X9 X0al (nt:=19) rfl rfl ?_ (Xs .sc (Xs .sc (Xs .elem X3k)));have h1:g.Channels[x.toNat]?=some (g.Channels[x.toNat]?.getD default):=by rw[Ye om];rfl
 have h2:g.Channels[y.toNat]?=some (g.Channels[y.toNat]?.getD default):=by rw[Ye om];rfl
 have hc:=X00h (Xge g x) (Xge g y);refine X1f [.el (X8 (g.Channels[x.toNat]?.getD default)),.el (X8 (g.Channels[y.toNat]?.getD default)),.pure [aI .i64 (Xge g x),aI .i64 (Xge g y)] (aI .i64 (cmI (Xge g x) (Xge g y)))] (o:=?o1) ?k1
 case o1 =>
  repeat' first |refine Ya ?_ ?_|exact trivial|exact hx.1|exact hy.1|exact pcM|(rw[List.getElem?_map,h1];rfl)|(rw[List.getElem?_map,h2];rfl)
 exact fi
theorem Xvb {Q:Xp->St->Mu->Prop} {μ:Mu} (g:Xt) (op:Int) (hl:g.Channels.length<=1000):∀ (xs:List Xk) (k:Nat) (hx:g.Channels.drop k=xs) (l:List Int) (nb:Nb l) (hll:l.length<=k) (hkl:k<=g.Channels.length)
  (C:∀ nb':Nb (l++X4l (λc=>c.From==op) xs k),X0 Tryz.prog 29 0 Q (.exit (.exit 0)) [] ⟨fr [(2,AV.ptr 0 0 0),(5,slE nb'.1 1 (List.map (aI .i64) (l++X4l (λc=>c.From==op) xs k)))],hp ([(0,Ob [Xb false g] 2)]++opE nb'.1 1 1 (List.map (aI .i64) (l++X4l (λc=>c.From==op) xs k))),2⟩ μ),
  X0 Tryz.prog 29 0 Q (.loop (X0w 0 (Xd Tryz.f84))) [] ⟨fr [(1,aI .i64 op),(2,AV.ptr 0 0 0),(5,slE nb.1 1 (List.map (aI .i64) l)),(9,AV.list false (g.Channels.map X8)),(10,aI .i64 (g.Channels.length:Int)),(11,aI .i64 (k:Int))],hp ([(0,Ob [Xb false g] 2)]++opE nb.1 1 1 (List.map (aI .i64) l)),2⟩ μ:=by
 intro xs
 induction xs with
 |nil =>
  intro k hx l nb hll hkl C;have hk:=X06 hx;have hc:decide ((k:Int)<(g.Channels.length:Int))=false:=Yf om;refine X0.round ?_;rw[X4l,List.append_nil] at C;rcases nb with ⟨_|_,hn⟩<;>(try obtain rfl:=hn rfl)
  ·exact X3 [Bf] (k:=wkT [] (C nbF))
  ·exact X3 [Bf] (k:=wkT [] (C nbS))
 |cons x xs ih =>
  intro k hx l nb hll hkl C;obtain⟨hk,hg,hx1⟩:=Xy hx;have hc:decide ((k:Int)<(g.Channels.length:Int))=true:=Yt om;refine X0.round ?_
  cases hp:x.From==op with
  |true =>
   have he:l++X4l (λc=>c.From==op) (x::xs) k=(l++[(k:Int)])++X4l (λc=>c.From==op) xs (k+1):=by rw[X4l,hp,cond_true];simp
   rw[he] at C;have hq:X0a (List.length (l++[(k:Int)])) 8=some ():=if_pos (by simp;omega);rcases nb with ⟨_|_,hn⟩<;>(try obtain rfl:=hn rfl)
   ·refine X1f [Bt,.el (X8 x),Bt,.no] ?_ (o:=Xkz);exact wkT [(1,4)] (ih (k+1) hx1 _ nbF (by simp<;>omega) om C)
   refine X1f [Bt,.el (X8 x),Bt,.no] ?_ (o:=Xkz);exact wkT [(1,4)] (ih (k+1) hx1 _ nbF (by simp<;>omega) om C)
  |false =>
   have he:l++X4l (λc=>c.From==op) (x::xs) k=l++X4l (λc=>c.From==op) xs (k+1):=by rw[X4l,hp,cond_false]
   rw[he] at C;rcases nb with ⟨_|_,hn⟩<;>(try obtain rfl:=hn rfl)
   ·refine X1f [Bt,.el (X8 x),Bf] ?_;exact wkT [] (ih (k+1) hx1 _ nbF om om C)
   refine X1f [Bt,.el (X8 x),Bf] ?_;exact wkT [] (ih (k+1) hx1 _ nbS om om C)
theorem Xll (a0:Xt) (a1:Int) (r:List Int) (h:Xab a0 a1=some r) :
  X05 Tryz.prog 84 [Xb false a0,aI .i64 a1] (Lt (List.map (aI .i64) r)):=by
 unfold Xab at h;revert h;refine brI (λh1=>brI (λh2 h=>?_) (λ_ h=>by cases h)) (λ_ h=>by cases h);have q1:=of_decide_eq_true h1;have q2:=of_decide_eq_true h2;obtain rfl:=oj h;refine X05.sym X9 fn84 (nt:=29) rfl rfl ?_ okM;refine X1f [] ?_;refine wkT [] (X0.cut (Xvb a0 a1 q1 a0.Channels 0 rfl [] nbS (Nat.zero_le _) (Nat.zero_le _) (λnb'=>?_)));refine X0.glue ?_;have hlen:=Xmg (λc:Xk=>c.From==a1) a0.Channels 0;have hmem:=Xmf (λc:Xk=>c.From==a1) a0.Channels 0;revert nb';show ∀ nb':Nb (X4l (λc:Xk=>c.From==a1) a0.Channels 0),X0 Tryz.prog 29 0 _ _ _ ⟨fr [(2,AV.ptr 0 0 0),(5,slE nb'.1 1 (List.map (aI .i64) (X4l (λc:Xk=>c.From==a1) a0.Channels 0)))],hp ([(0,Ob [Xb false a0] 2)]++opE nb'.1 1 1 (List.map (aI .i64) (X4l (λc:Xk=>c.From==a1) a0.Channels 0))),2⟩ _;generalize X4l (λc:Xk=>c.From==a1) a0.Channels 0=l at *;intro nb';rcases nb' with ⟨_|_,hn⟩
 ·by_cases hne:l=[]
  ·subst hne;refine X1f [.call (.tup []) [(0,Ob [Xb false a0] 2),(1,Ob [] 1)] 2] (o:=?o3) ?k3
   case o3=>exact⟨⟨Xo2 Tryz.sortLayG80 rfl ⟨_,_,fn80⟩⟩,trivial⟩
   rw[show X8f (Xge a0) []=[] from List.eq_nil_of_length_eq_zero (X3f _ [])];exact fi
  ·refine X1f [.call (.tup []) [(1,Ob ((X8f (Xge a0) l).map (aI .i64)) 1),(0,Ob [Xb false a0] 2),(1,Ob (l.map (aI .i64)) 1)] 2] (o:=?o1) ?k1
   case o1 =>
    refine⟨Xxb Tryz.sortLayF80 rfl (Xge a0) hne (Xm1 q2) (bcaps:=[.elem false (Xb false a0) 0]) ?_ (λx hx y hy=>Xs6 a0 x y ?_ ?_) rfl (by simp) om ⟨_,_,fn80⟩ ⟨_,_,X0al⟩,trivial⟩
    ·exact cc cvM cn
    ·obtain⟨i,rfl,_,h3⟩:=hmem x hx;omega
    ·obtain⟨i,rfl,_,h3⟩:=hmem y hy;omega
   have hs:=X3f (Xge a0) l;exact fi
 ·obtain rfl:=hn rfl;refine X1f [.call (.tup []) [(0,Ob [Xb false a0] 2)] 2] (o:=?o2) ?k2
  case o2=>exact⟨⟨Xtk (cap:=0) Tryz.sortLayG80 rfl ⟨_,_,fn80⟩⟩,trivial⟩
  rw[show X8f (Xge a0) []=[] from List.eq_nil_of_length_eq_zero (X3f _ [])];exact fi
theorem Xlm {Q:Xp->St->Mu->Prop} {μ:Mu} (Xe:Xf) (Xj:Xv) (X85:Int) (Xrt:Int) (Xos:(List X3i)) (hl:Xos.length<=140737488355328):∀ (xs:List X3i) (k:Nat) (hx:Xos.drop k=xs) (o:Xa3) (h:X4x Xe Xj X85 Xrt Xos xs k  = some o)
  (C0:o=Xa3.x0->X0 Tryz.prog 86 0 Q (.exit (.exit 0)) [] ⟨fr [(2,(AV.ptr 0 0 0)),(5,(AV.ptr 1 0 0)),(6,(aI .i64 X85)),(7,(aI .i64 Xrt))],hp ([(0,Ob [(Xc false Xe)] 14),(1,Ob [(Xa false Xj)] 9)]),2⟩ μ)
  (C1:o=Xa3.x1->X0 Tryz.prog 86 0 Q (.exit .ret) [] ⟨fr [(4,(aB false))],hp ([]),0⟩ μ),
  X0 Tryz.prog 86 0 Q (.loop (X0w 0 (Xd Tryz.f60))) [] ⟨fr [(2,(AV.ptr 0 0 0)),(5,(AV.ptr 1 0 0)),(6,(aI .i64 X85)),(7,(aI .i64 Xrt)),(41,(Lf (Xos.map X0i))),(42,(aI .i64 (Xos.length:Int))),(43,(aI .i64 (k:Int)))],hp ([(0,Ob [(Xc false Xe)] 14),(1,Ob [(Xa false Xj)] 9)]),2⟩ μ:=by
 intro xs
 induction xs with
 |nil =>
  intro k hx  o h C0 C1;have hk:=X06 hx;have hc:decide ((k:Int)<(Xos.length:Int))=false:=Yf om;rw[X4x] at h;refine X0.round ?_;revert h;exact λe=>X3 [Bf] (k:=wkT [] (C0  (oj e).symm))
 |cons x xs ih =>
  intro k hx  o h C0 C1;obtain⟨hk,hg,hx1⟩:=Xy hx;have hc:decide ((k:Int)<(Xos.length:Int))=true:=Yt om;rw[X4x] at h;refine X0.round ?_;revert h;refine brI (λh25=>λe=>X3 [Bt,.el (X0i x),Bt] (k:=wkT [] (C1  (oj e).symm))) λh25=>rnI [Bt,.el (X0i x),Bf] ?_;intro h;exact wkT [] (ih (k+1) hx1  o h C0 C1)
instance X04s:PCs Tryz.prog 60 (∀ (a0:Xf) (a1:Int) (r:Bool),Xfb a0 a1=some r->X05 Tryz.prog 60 [(Xc false a0),(aI .i64 a1)] (aB r)):=⟨λa0 a1 r h=>by
 refine X05.sym X9 fn60 (nt:=86) rfl rfl ?_ okM;unfold Xfb at h;revert h;refine bI λe1 h2=>?_;try have qh2:=Xi h2
 refine bI λX072 h14=>rnI [.el (Xa false e1),.stop 2] ?_;intro h;refine X0.join (s':=⟨fr [(1,(aI .i64 a1)),(2,(AV.ptr 0 0 0)),(5,(AV.ptr 1 0 0)),(29,(aB X072))],hp ([(0,Ob [(Xc false a0)] 14),(1,Ob [(Xa false e1)] 9)]),2⟩) ?_ (λJ=>X0.cut ?_)
 ·
  revert h;refine brI (λh15=>λe=>oj e▸X3 [Bt] (k:=fi)) λh15=>bI λv16 h17=>bI λv18 h19=>bI λu20 h21=>?_;have qh21:=X0l h21;refine bI λo26 h27=>rnI [Bf,.pure [(Xb false a0.Graph),(aI .i64 a1)] (Lt (List.map (aI .i64) v16)),.el (aI .i64 (v16.length:Int)),.pure [(Xb false a0.Graph),(aI .i64 a1)] (Lt (List.map (aI .i64) v18)),.el (aI .i64 (v18.length:Int)),.el (aI .i64 (e1.Pending.length:Int))] (o:=by repeat' first|apply Ya|exact pcM|exact(pn (Xn6 _ _ _ h17) (cc (X9g (cc (X1c (X0p Xcv a0.Graph.Ops)) (cc (X1c (X0p X37 a0.Graph.Channels)) cn))) (cc .sc cn)))|exact(pn (Xll _ _ _ h19) (cc (X9g (cc (X1c (X0p Xcv a0.Graph.Ops)) (cc (X1c (X0p X37 a0.Graph.Channels)) cn))) (cc .sc cn)))|exact X04) ?_;intro h;refine wkT [] (X0.cut (Xlm a0 e1 (v16.length:Int) (v18.length:Int) e1.Pending qh21 e1.Pending 0 (by simp) _ h27 ?_ ?_))
  ·
   intro eo26;subst eo26;refine X0.glue ?_;try dsimp only at h
   revert h;refine brI (λh28=>?_) λh28=>brI (λh33=>λe=>oj e▸X3 [Bf,Bt,.el (aI .i64 (e1.Marks.length:Int))] (k:=fi)) λh33=>brI (λh34=>λe=>oj e▸X3 [Bf,Bf,Bt] (k:=fi)) λh34=>λe=>oj e▸X3 [Bf,Bf,Bf] (k:=fi);refine bI λXzd h32=>rnI [Bt] ?_;intro h;refine X0.join (s':=⟨fr [(7,(aI .i64 (v18.length:Int))),(10,(aI .i64 Xzd))],hp ([]),0⟩) ?_ (λJ=>X0.cut ?_)
   ·
    revert h;exact λe=>oj e▸X3 [] (k:=fi)
   clear h;revert h32;refine brI (λh31=>?_) λh31=>?_
   ·
    intro h;obtain rfl:=oj h;exact X3 [Bt] (k:=wkT [] (X0.glue J))
   intro h;obtain rfl:=oj h;exact X3 [Bf] (k:=wkT [] (X0.glue J))
  intro eo26;subst eo26;refine X0.glue ?_;try dsimp only at h
  revert h;exact λe=>oj e▸X3 [] (k:=fi)
 clear h;revert h14;refine bI λe9 h10=>?_;try have qh10:=Xi h10
 refine brI (λh11=>?_) λh11=>?_
 ·
  intro h;obtain rfl:=oj h;exact X3 [.el (X2g e9),Gf,Gf,Gf,Gt] (k:=wkT [] (X0.glue J))
 refine bI λv12 h13=>?_;intro h;obtain rfl:=oj h;exact X3 [.el (X2g e9),Gt,Gt,.pure _ (aI .i64 v12),Gt] (k:=wkT [] (X0.glue J))⟩
theorem Xkb {Q:Xp->St->Mu->Prop} {μ:Mu} (Xe:Xf) (Xlb:(List X0e)) (hl:Xlb.length<=140737488355328):∀ (xs:List X0e) (k:Nat) (hx:Xlb.drop k=xs) (o:X8c) (h:X3x Xe Xlb xs k  = some o)
  (C0:o=X8c.x0->X0 Tryz.prog 77 0 Q (.exit (.exit 0)) [] ⟨fr [(1,(AV.ptr 0 0 0))],hp ([(0,Ob [(Xc false Xe)] 14)]),1⟩ μ)
  (C1:o=X8c.x1->X0 Tryz.prog 77 0 Q (.exit .ret) [] ⟨fr [(2,(aI .i64 8))],hp ([]),0⟩ μ),
  X0 Tryz.prog 77 0 Q (.loop (X0w 0 (Xd Tryz.f25))) [] ⟨fr [(1,(AV.ptr 0 0 0)),(43,(Lf (List.map (Xq false) Xlb))),(44,(aI .i64 (Xlb.length:Int))),(45,(aI .i64 (k:Int)))],hp ([(0,Ob [(Xc false Xe)] 14)]),1⟩ μ:=by
 intro xs
 induction xs with
 |nil =>
  intro k hx  o h C0 C1;have hk:=X06 hx;have hc:decide ((k:Int)<(Xlb.length:Int))=false:=Yf om;rw[X3x] at h;refine X0.round ?_;revert h;exact λe=>X3 [Bf] (k:=wkT [] (C0  (oj e).symm))
 |cons x xs ih =>
  intro k hx  o h C0 C1;obtain⟨hk,hg,hx1⟩:=Xy hx;have hc:decide ((k:Int)<(Xlb.length:Int))=true:=Yt om;rw[X3x] at h;refine X0.round ?_;revert h;refine bI λXz9 h56=>rnI [Bt,.el (Xq false x),.stop 7] ?_;intro h;refine X0.join (s':=⟨fr [(1,(AV.ptr 0 0 0)),(43,(Lf (List.map (Xq false) Xlb))),(44,(aI .i64 (Xlb.length:Int))),(45,(aI .i64 (k:Int))),(64,(aB Xz9))],hp ([(0,Ob [(Xc false Xe)] 14)]),1⟩) ?_ (λJ=>X0.cut ?_)
  ·
   revert h;refine brI (λh57=>λe=>X3 [Bt] (k:=wkT [] (C1  (oj e).symm))) λh57=>rnI [Bf] ?_;intro h;exact wkT [] (ih (k+1) hx1  o h C0 C1)
  clear h;revert h56;refine bI λe51 h52=>?_;try have qh52:=Xi h52
  refine brI (λh53=>?_) λh53=>?_
  ·
   intro h;obtain rfl:=oj h;exact X3 [.el (X8 e51),Gf,Gf,Gf,Gt] (k:=wkT [] (X0.glue J))
  refine bI λv54 h55=>?_;intro h;obtain rfl:=oj h;exact X3 [.el (X8 e51),Gt,Gt,.pure _ (aI .i64 v54),Gt] (k:=wkT [] (X0.glue J))
theorem Xka {Q:Xp->St->Mu->Prop} {μ:Mu} (X09:Xf) (y1_L:(List Xv)) (hl:y1_L.length<=140737488355328):∀ (xs:List Xv) (k:Nat) (hx:y1_L.drop k=xs) (o:X8b) (h:X3w X09 y1_L xs k  = some o)
  (C0:o=X8b.x0->X0 Tryz.prog 77 0 Q (.exit (.exit 2)) [] ⟨fr [],hp ([]),0⟩ μ)
  (C1:o=X8b.x1->X0 Tryz.prog 77 0 Q (.exit .ret) [] ⟨fr [(2,(aI .i64 8))],hp ([]),0⟩ μ),
  X0 Tryz.prog 77 0 Q (.loop (X0w 1 (Xd Tryz.f25))) [] ⟨fr [(1,(AV.ptr 0 0 0)),(68,(aI .i64 (y1_L.length:Int))),(69,(aI .i64 (k:Int)))],hp ([(0,Ob [(Xc false X09)] 14)]),1⟩ μ:=by
 intro xs
 induction xs with
 |nil =>
  intro k hx  o h C0 C1;have hk:=X06 hx;have hc:decide ((k:Int)<(y1_L.length:Int))=false:=Yf om;rw[X3w] at h;refine X0.round ?_;revert h;exact λe=>X3 [Bf] (k:=wkT [] (C0  (oj e).symm))
 |cons x xs ih =>
  intro k hx  o h C0 C1;obtain⟨hk,hg,hx1⟩:=Xy hx;have hc:decide ((k:Int)<(y1_L.length:Int))=true:=Yt om;rw[X3w] at h;refine X0.round ?_;revert h;refine bI λv69 h70=>brI (λh71=>λe=>X3 [Bt,.pure _ (aB v69),Bt] (k:=wkT [] (C1  (oj e).symm))) λh71=>rnI [Bt,.pure _ (aB v69),Bf] ?_;intro h;exact wkT [] (ih (k+1) hx1  o h C0 C1)
instance X02e:PCs Tryz.prog 25 (∀ (a0:Xf) (r:Int),Xb8 a0=some r->X05 Tryz.prog 25 [(Xc false a0)] (aI .i64 r)):=⟨λa0 r h=>by
 refine X05.sym X9 fn25 (nt:=77) rfl rfl ?_ okM;unfold Xb8 at h;revert h;refine bI λv1 h2=>bI λX070 h14=>rnI [.pure _ (AV.tup [(aI .i64 v1.1),(aI .i64 v1.2)]),.stop 2] ?_;intro h;refine X0.join (s':=⟨fr [(1,(AV.ptr 0 0 0)),(41,(aB X070))],hp ([(0,Ob [(Xc false a0)] 14)]),1⟩) ?_ (λJ=>X0.cut ?_)
 ·
  revert h;refine brI (λh15=>λe=>oj e▸X3 [Bt] (k:=fi)) λh15=>bI λu16 h17=>?_;have qh17:=X0l h17;refine bI λo58 h59=>rnI [Bf,.el (aI .i64 (a0.Queues.length:Int))] ?_;intro h;refine wkT [] (X0.cut (Xkb a0 a0.Queues qh17 a0.Queues 0 (by simp) _ h59 ?_ ?_))
  ·
   intro eo58;subst eo58;refine X0.glue ?_;try dsimp only at h
   revert h;refine bI λu60 h61=>?_;have qh61:=X0l h61;refine bI λo72 h73=>rnI [.el (aI .i64 (a0.Tasks.length:Int))] ?_;intro h;refine wkT [] (X0.cut (Xka a0 a0.Tasks qh61 a0.Tasks 0 (by simp) _ h73 ?_ ?_))
   ·
    intro eo72;subst eo72;refine X0.glue ?_;try dsimp only at h
    revert h;exact λe=>oj e▸X3 [] (k:=fi)
   intro eo72;subst eo72;refine X0.glue ?_;try dsimp only at h
   revert h;exact λe=>oj e▸X3 [] (k:=fi)
  intro eo58;subst eo58;refine X0.glue ?_;try dsimp only at h
  revert h;exact λe=>oj e▸X3 [] (k:=fi)
 clear h;revert h14;refine brI (λh9=>?_) λh9=>?_
 ·
  intro h;obtain rfl:=oj h;exact X3 [Gf,Gf,Gf,Gf,Gf,Gf,Gf,Gf,Gf,Gf,Gf,Gf,Gf,Gf,Gf,Gf,Gf,Gf,Gf,Gf] (o:=by repeat' first|apply Ya|exact pcM|exact fq (X6 h9 rfl)|exact fq (X6 (X6 h9 rfl) rfl)|exact X04) (k:=wkT [] (X0.glue J))
 refine bI λv10 h11=>brI (λh12=>?_) λh12=>?_
 ·
  intro h;obtain rfl:=oj h;exact X3 [Gt,Gt,Gt,.pure _ (aI .i64 v10),Gt,Gf,Gf,Gf,Gf,Gf,Gf,Gf,Gf,Gf,Gf,Gf,Gf,Gf,Gf,Gf,Gf] (o:=by repeat' first|apply Ya|exact pcM|exact fq (X5 h9 h12)|exact fq (X6 (X5 h9 h12) rfl)|exact X04) (k:=wkT [] (X0.glue J))
 refine rnI [Gt,Gt,Gt,.pure _ (aI .i64 v10),Gt,Gt,Gt,Gt,.el (aI .i64 (a0.Tasks.length:Int)),Gt,Gt,Gt,Gt,.el (aI .i64 (a0.Graph.Ops.length:Int)),Gt,.stop 999999] (o:=by repeat' first|apply Ya|exact pcM|exact fq (X5 h9 h12)|exact X04) ?_;refine brI (λh13=>?_) λh13=>?_
 ·
  intro h;obtain rfl:=oj h;exact X3 [Gf,Gf,Gf,Gf,Gf,Gf,Gf,Gf] (o:=by repeat' first|apply Ya|exact pcM|exact fq (X5 (X5 h9 h12) h13)|exact X04) (k:=wkT [] (X0.glue J))
 intro h;obtain rfl:=oj h;exact X3 [Gt,Gt,Gt,.el (aI .i64 (a0.Queues.length:Int)),Gt,Gt,Gt,Gt,.el (aI .i64 (a0.Graph.Channels.length:Int)),Gt] (o:=by repeat' first|apply Ya|exact pcM|exact fq (X5 (X5 h9 h12) h13)|exact X04) (k:=wkT [] (X0.glue J))⟩
instance Xwj:PCs Tryz.prog 41 (∀ (a0:Xg) (a1:Xg) (r:Int),Xax a0 a1=some r->X05 Tryz.prog 41 [(X1 a0),(X1 a1)] (aI .i64 r)):=⟨λa0 a1 r h=>by
 refine X05.sym X9 fn41 (nt:=26) rfl rfl ?_ okM;unfold Xax at h;revert h;exact bI λv1 h2=>bI λv3 h4=>bI λv5 h6=>bI λv7 h8=>λe=>oj e▸X3 [.pure _ (aI .i64 v1),.pure _ (aI .i64 v3),.pure _ (aI .i64 v5),.pure _ (aI .i64 v7)] (k:=fi)⟩
theorem Xck {Q:Xp->St->Mu->Prop} {μ:Mu}:∀ (n:Nat) (X08:(List Xg)) (X4w:(List Xg)) (Xe:(List Xg)) (X1r:Nb Xe) (o:X4i) (h:X0v  n X08 X4w Xe=some o)
  (C0:∀ (Xa8:(List Xg)) (X88:(List Xg)) (Xz:(List Xg)) (X0f:Nb Xz),o=X4i.x0 Xa8 X88 Xz->X0 Tryz.prog 46 0 Q (.exit (.exit 0)) [] ⟨fr [(0,(Lf (Xa8.map X1))),(1,(Lf (X88.map X1))),(7,(slE X0f.1 0 (Xz.map X1)))],hp ([]++opE X0f.1 0 11 (Xz.map X1)),1⟩ μ),
  X0 Tryz.prog 46 0 Q (.loop (X0w 0 (Xd Tryz.f40))) [] ⟨fr [(0,(Lf (X08.map X1))),(1,(Lf (X4w.map X1))),(2,(AV.fn 41 [])),(7,(slE X1r.1 0 (Xe.map X1)))],hp ([]++opE X1r.1 0 11 (Xe.map X1)),1⟩ μ:=by
 intro n
 induction n with
 |zero=>intro X08 X4w Xe X1r o h C0;cases h
 |succ n ih =>
  intro X08 X4w Xe X1r o h C0;rw[X0v] at h;rcases X1r with ⟨_|_,X6l⟩
  ·
   refine X0.round ?_;revert h;refine bI λXz4 h85=>rnI [.stop 2] ?_;intro h;refine X0.join (s':=⟨fr [(0,(Lf (X08.map X1))),(1,(Lf (X4w.map X1))),(2,(AV.fn 41 [])),(7,(AV.ref 0 0 (Xe.length))),(15,(aB Xz4))],hp ([(0,Ob (Xe.map X1) 11)]),1⟩) ?_ (λJ=>X0.cut ?_)
   ·
    revert h;refine brI (λh86=>?_) λh86=>λe=>X3 [Bf] (k:=wkT [] (C0 _ _ _  nbF (oj e).symm));refine bI λe87 h88=>?_;try have qh88:=Xi h88
    refine bI λe89 h90=>?_;try have qh90:=Xi h90
    refine bI λv91 h92=>brI (λh93=>?_) λh93=>?_
    ·
     refine bI λu94 h95=>bI λm96 h97=>?_;obtain⟨qah97,qbh97,qch97,qh97⟩:=X1l h97;have qlh97:=X3n h97;refine rnI [Bt,.el (X1 e87),.el (X1 e89),.pure _ (aI .i64 v91),Bt,.el (X1 e87),.no,.via (Lf (m96.map X1))] (o:=by repeat' first|apply Ya|exact pcM|(refine X1n h95 rfl ?_;first|(simp<;>omega)|(simp[h86,h93]<;>omega))|(refine X0h h95 (by decide) ?_;first|(simp<;>omega)|(simp[h86,h93]<;>omega))|(simp at qah97 qbh97 qch97 ⊢;omega)|(rw[qh97];simp[Ym,Yd];done)|exact X04) ?_;intro h;exact wkT [(0,15)] (ih  _ _ _ nbF o h C0)
    refine bI λu98 h99=>bI λm100 h101=>?_;obtain⟨qah101,qbh101,qch101,qh101⟩:=X1l h101;have qlh101:=X3n h101;refine rnI [Bt,.el (X1 e87),.el (X1 e89),.pure _ (aI .i64 v91),Bf,.el (X1 e89),.no,.via (Lf (m100.map X1))] (o:=by repeat' first|apply Ya|exact pcM|(refine X1n h99 rfl ?_;first|(simp<;>omega)|(simp[h86,h93]<;>omega))|(refine X0h h99 (by decide) ?_;first|(simp<;>omega)|(simp[h86,h93]<;>omega))|(simp at qah101 qbh101 qch101 ⊢;omega)|(rw[qh101];simp[Ym,Yd];done)|exact X04) ?_;intro h;exact wkT [(0,15)] (ih  _ _ _ nbF o h C0)
   clear h;revert h85;refine brI (λh84=>?_) λh84=>?_
   ·
    intro h;obtain rfl:=oj h;exact X3 [.el (aI .i64 (X08.length:Int)),Gt,Gt,.el (aI .i64 (X4w.length:Int)),Gt] (k:=wkT [] (X0.glue J))
   intro h;obtain rfl:=oj h;exact X3 [.el (aI .i64 (X08.length:Int)),Gf,Gf,Gf] (k:=wkT [] (X0.glue J))
  obtain rfl:=X6l rfl;refine X0.round ?_;revert h;refine bI λX081 h105=>rnI [.stop 2] ?_;intro h;refine X0.join (s':=⟨fr [(0,(Lf (X08.map X1))),(1,(Lf (X4w.map X1))),(2,(AV.fn 41 [])),(7,AV.nils),(15,(aB X081))],hp ([]),1⟩) ?_ (λJ=>X0.cut ?_)
  ·
   revert h;refine brI (λh106=>?_) λh106=>λe=>X3 [Bf] (k:=wkT [] (C0 _ _ _  nbS (oj e).symm));refine bI λe107 h108=>?_;try have qh108:=Xi h108
   refine bI λe109 h110=>?_;try have qh110:=Xi h110
   refine bI λv111 h112=>brI (λh113=>?_) λh113=>?_
   ·
    refine bI λu114 h115=>bI λm116 h117=>?_;obtain⟨qah117,qbh117,qch117,qh117⟩:=X1l h117;have qlh117:=X3n h117;refine rnI [Bt,.el (X1 e107),.el (X1 e109),.pure _ (aI .i64 v111),Bt,.el (X1 e107),.no,.via (Lf (m116.map X1))] (o:=by repeat' first|apply Ya|exact pcM|(refine X1n h115 rfl ?_;first|(simp<;>omega)|(simp[h106,h113]<;>omega))|(refine X0h h115 (by decide) ?_;first|(simp<;>omega)|(simp[h106,h113]<;>omega))|(simp at qah117 qbh117 qch117 ⊢;omega)|(rw[qh117];simp[Ym,Yd];done)|exact X04) ?_;intro h;exact wkT [(0,15)] (ih  _ _ _ nbF o h C0)
   refine bI λu118 h119=>bI λm120 h121=>?_;obtain⟨qah121,qbh121,qch121,qh121⟩:=X1l h121;have qlh121:=X3n h121;refine rnI [Bt,.el (X1 e107),.el (X1 e109),.pure _ (aI .i64 v111),Bf,.el (X1 e109),.no,.via (Lf (m120.map X1))] (o:=by repeat' first|apply Ya|exact pcM|(refine X1n h119 rfl ?_;first|(simp<;>omega)|(simp[h106,h113]<;>omega))|(refine X0h h119 (by decide) ?_;first|(simp<;>omega)|(simp[h106,h113]<;>omega))|(simp at qah121 qbh121 qch121 ⊢;omega)|(rw[qh121];simp[Ym,Yd];done)|exact X04) ?_;intro h;exact wkT [(0,15)] (ih  _ _ _ nbF o h C0)
  clear h;revert h105;refine brI (λh104=>?_) λh104=>?_
  ·
   intro h;obtain rfl:=oj h;exact X3 [.el (aI .i64 (X08.length:Int)),Gt,Gt,.el (aI .i64 (X4w.length:Int)),Gt] (k:=wkT [] (X0.glue J))
  intro h;obtain rfl:=oj h;exact X3 [.el (aI .i64 (X08.length:Int)),Gf,Gf,Gf] (k:=wkT [] (X0.glue J))
theorem X6r (a0:(List Xg)) (a1:(List Xg)) (r:(List Xg)) (h:X0o a0 a1=some r):X05 Tryz.prog 40 [(Lf (a0.map X1)),(Lf (a1.map X1)),(AV.fn 41 [])] (Lt (r.map X1)):=by
 refine X05.sym X9 fn40 (nt:=46) rfl rfl ?_ okM;unfold X0o at h;revert h;refine bI λo122 h123=>rnI [] ?_;intro h;refine wkT [] (X0.cut (Xck _ _ _ _ nbS _ h123 ?_));intro Xa8 X88 Xz X0f eo122;subst eo122;refine X0.glue ?_;try dsimp only at h
 rcases X0f with ⟨_|_,X4s⟩<;>(try obtain rfl:=X4s rfl);all_goals
  revert h;refine brI (λq=>?_) λq=>?_
  ·
   intro h;have h124:Xa8=[]:=List.isEmpty_iff.1 q;revert h;refine brI (λq=>?_) λq=>?_
   ·
    intro h;have h125:X88=[]:=List.isEmpty_iff.1 q;revert h;exact λe=>oj e▸X3 [.ne false,.ne false] (k:=fi)
   intro h;have h125:¬ (X88=[]):=(λe=>by rw[e] at q;cases q);revert h;exact bI λu126 h127=>λe=>oj e▸X3 [.ne false,.via (Lt (X88.map X1))] (o:=by repeat' first|apply Ya|exact pcM|(refine X1n h127 rfl ?_;first|(simp<;>omega)|(simp[h124,h125]<;>omega))|(refine X0h h127 (by decide) ?_;first|(simp<;>omega)|(simp[h124,h125]<;>omega))|exact X04) (k:=fi)
  intro h;have h124:¬ (Xa8=[]):=(λe=>by rw[e] at q;cases q);revert h;refine bI λu128 h129=>brI (λq=>?_) λq=>?_
  ·
   intro h;have h130:X88=[]:=List.isEmpty_iff.1 q;revert h;exact λe=>oj e▸X3 [.via (Lt (Xa8.map X1)),.ne false] (o:=by repeat' first|apply Ya|exact pcM|(refine X1n h129 rfl ?_;first|(simp<;>omega)|(simp[h124,h130]<;>omega))|(refine X0h h129 (by decide) ?_;first|(simp<;>omega)|(simp[h124,h130]<;>omega))|exact X04) (k:=fi)
  intro h;have h130:¬ (X88=[]):=(λe=>by rw[e] at q;cases q);revert h;exact bI λu131 h132=>λe=>oj e▸X3 [.via (Lt (Xa8.map X1)),.via (Lt (X88.map X1))] (o:=by repeat' first|apply Ya|exact pcM|(refine X1n h129 rfl ?_;first|(simp<;>omega)|(simp[h124,h130]<;>omega))|(refine X0h h129 (by decide) ?_;first|(simp<;>omega)|(simp[h124,h130]<;>omega))|(refine X1n h132 rfl ?_;first|(simp<;>omega)|(simp[h124,h130]<;>omega))|(refine X0h h132 (by decide) ?_;first|(simp<;>omega)|(simp[h124,h130]<;>omega))|exact X04) (k:=fi)
end Go.Av.Tryz