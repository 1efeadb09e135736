/- Printed by decomp.py: that the program computes the functions. -/
import Derived.Test.YtednehploaffcaaGreatDoorDFunZ
import Derived.Test.YtednehploaffcaaGreatDoorTabX
set_option linter.all false

namespace Go.Av.Tryz
open Go.Proofs Go.D Go.Proofs.Tryz
set_option maxRecDepth 10000
set_option maxHeartbeats 40000000
abbrev SK (nt:Nat) (Q:Xp->St->Mu->Prop):=X9 Tryz.prog nt 0 Q
abbrev Sx (nt:Nat) (Q:Xp->St->Mu->Prop) (L:List (Nat×AV)) (G:List (Nat×Obj)) (n:Nat) (μ:Mu):=SK nt Q (.exit (.exit 0)) [] ⟨fr L,hp G,n⟩ μ
abbrev Sr (nt:Nat) (Q:Xp->St->Mu->Prop) (L:List (Nat×AV)) (G:List (Nat×Obj)) (n:Nat) (μ:Mu):=SK nt Q (.exit .ret) [] ⟨fr L,hp G,n⟩ μ
abbrev Sl (nt:Nat) (Q:Xp->St->Mu->Prop) (f:Func) (L:List (Nat×AV)) (G:List (Nat×Obj)) (n:Nat) (μ:Mu):=SK nt Q (.loop (X3l 0 (X1g f))) [] ⟨fr L,hp G,n⟩ μ
theorem lpN {α:Type} {l:List α} {k:Nat} (h:l.drop k=[]):decide ((k:Int)<(l.length:Int))=false:=by have:=List.drop_eq_nil_iff.1 h;exact Yf om
theorem lpC {α:Type} {l xs:List α} {x:α} {k:Nat} (h:l.drop k=x::xs):decide ((k:Int)<(l.length:Int))=true:=by have:=congrArg (λq:List α=>q.length) h;simp at this;exact Yt om
theorem jn {P:Program} {nt n0:Nat} {Q:Xp->St->Mu->Prop} {cf:Cf} {K:List Kn} {μ:Mu} {s:St} (L:List (Nat×AV)) (G:List (Nat×Obj)) (n:Nat) (h1:X9 P nt n0 Q (.exit .normal) K ⟨fr L,hp G,n⟩ μ) (h2:X9 P nt n0 Q (.exit .normal) K ⟨fr L,hp G,n⟩ μ->X9 P nt n0 Q cf K s μ):X9 P nt n0 Q cf K s μ:=h2 h1
abbrev PZ:=PCs Tryz.prog
abbrev Pz:=X8t Tryz.prog
abbrev Qt:=Xp->St->Mu->Prop
theorem tmD:X7a Tryz.prog Xlr.find/\Tryz.prog.follows .mixedOrders=true:=⟨Xh,by kernel_rfl⟩
instance tmI:TmD Tryz.prog Xlr.find:=⟨tmD⟩
def fn3:=fk func3
def fn5:=fk func5
def fn6:=fk func6
def fn7:=fk func7
def fn8:=fk func8
def fn9:=fk func9
def fn11:=fk func11
def fn12:=fk func12
def fn13:=fk func13
def fn14:=fk func14
def fn15:=fk func15
def fn16:=fk func16
def fn17:=fk func17
def fn18:=fk func18
def fn19:=fk func19
def fn20:=fk func20
def fn21:=fk func21
def fn22:=fk func22
def fn23:=fk func23
def fn24:=fk func24
def fn25:=fk func25
def fn26:=fk func26
def fn27:=fk func27
def fn28:=fk func28
def fn29:=fk func29
def fn30:=fk func30
def fn31:=fk func31
def fn32:=fk func32
def fn33:=fk func33
def fn34:=fk func34
def fn36:=fk func36
def fn37:=fk func37
def fn38:=fk func38
def fn39:=fk func39
def fn40:=fk func40
def fn41:=fk func41
def fn42:=fk func42
def fn43:=fk func43
def fn44:=fk func44
def fn45:=fk func45
def fn46:=fk func46
def fn47:=fk func47
def fn48:=fk func48
def fn49:=fk func49
def fn50:=fk func50
def fn51:=fk func51
def fn52:=fk func52
def fn53:=fk func53
def fn54:=fk func54
def fn55:=fk func55
def fn56:=fk func56
def fn57:=fk func57
def fn58:=fk func58
def fn60:=fk func60
def fn61:=fk func61
def fn62:=fk func62
def fn63:=fk func63
def fn64:=fk func64
def fn65:=fk func65
def fn66:=fk func66
def fn67:=fk func67
def fn68:=fk func68
def fn69:=fk func69
def fn70:=fk func70
def fn71:=fk func71
def fn72:=fk func72
def fn73:=fk func73
def fn74:=fk func74
def fn75:=fk func75
def fn76:=fk func76
def fn77:=fk func77
def fn80:=fk func80
def fn81:=fk func81
def fn82:=fk func82
def fn83:=fk func83
def fn84:=fk func84
def fn85:=fk func85
def fn86:=fk func86
def fn87:=fk func87
def fn88:=fk func88
def fn89:=fk func89
def fn90:=fk func90
def fn91:=fk func91
def fn92:=fk func92
def fn93:=fk func93
def fn94:=fk func94
def fn95:=fk func95
def fn96:=fk func96
def X0fu:=fk func106
def X0ft:=fk func107
def X0fs:=fk func108
def X0fr:=fk func109
def X0bs:=fk func110
def X0fq:=fk func111
def X0fp:=fk func112
def X0fo:=fk func113
def X0fn:=fk func114
def X0fm:=fk func115
def X0fl:=fk func116
def X0fk:=fk func117
def X0fj:=fk func118
def X0fi:=fk func119
def X02q:=fk func121
def X0fh:=fk func131
def X0fg:=fk func132
def X0ff:=fk func133
def X0fe:=fk func134
def X0fd:=fk func135
def X0fc:=fk func136
def X0fb:=fk func137
def X0fa:=fk func138
def X0br:=fk func139
def X0f9:=fk func140
def Xme:=fk func141
def X0f8:=fk func142
def X0f7:=fk func143
def X0f6:=fk func144
def X02p:=fk func145
def X0f5:=fk func154
def X0f4:=fk func155
instance X002:PZ 60 (∀ (a0:(List X1)) (r:Bool),Xa3 a0=some r->Pz 60 [(Lf (a0.map X0))] (aB r)):=⟨λa0 r=>by
 unfold Xa3;exact psI fn60 6 λe=>oj e▸X8 [.el (aI .i64 (a0.length:Int))] (k:=fi)⟩
instance Xzv:PZ 36 (∀ (a0:X6) (r:Bool),Xa0 a0=some r->Pz 36 [(Xa false a0)] (aB r)):=⟨λa0 r=>by
 unfold Xa0;refine psI fn36 17<|bI λj7_2 h14=>rnI [.stop 1] ?_;exact jnI ⟨fr [(2,(aB j7_2))],hp ([]),0⟩ h14 (λe=>oj e▸X8 [] (k:=fi)) λJ=>bI λv8 h9=>brI (λh10=>λe=>X8 [.pure _ (aB v8),Gf,Gf,Gf,Gf,Gf,Gf,Gf] (o:=by repeat' first|apply Ya|exact pcM|exact fq (X5 h10 rfl)|exact X0y) (k:=wJ [] J)) λh10=>bI λv11 h12=>brI (λh13=>λe=>X8 [.pure _ (aB v8),Gt,Gt,Gt,.pure _ (aB v11),Gf,Gf,Gf,Gf] (o:=by repeat' first|apply Ya|exact pcM|exact fq (Xb h10 h13)|exact X0y) (k:=wJ [] J)) λh13=>λe=>X8 [.pure _ (aB v8),Gt,Gt,Gt,.pure _ (aB v11),Gt,Gt,Gt,.el (aI .i64 (a0.Sources.length:Int)),Gt] (o:=by repeat' first|apply Ya|exact pcM|exact fq (Xb h10 h13)|exact X0y) (k:=wJ [] J)⟩
theorem Xh3 {Q:Qt} {μ:Mu} (X3n:(List (List Xv))) (hl:X3n.length<=140737488355328):Dr X3n λxs k=>∀ o,Lq Tryz.prog 25 0 Q μ o (fun|.x0=>(.exit 0,⟨fr [],hp ([]),0⟩)|.x1=>(.ret,⟨fr [(4,(aB true))],hp ([]),0⟩))
  (X3l 0 (X1g Tryz.f11)) ⟨fr [(1,(Lf (List.map (X82 false Xd) X3n))),(5,(aI .i64 (k:Int)))],hp ([]),0⟩ (X3q X3n xs k ):=by
 refine drI ?_ ?_
 ·
  intro k hk hc  o C;rw[X3q];exact rdI<|λe=>X8 [.el (aI .i64 (X3n.length:Int)),Bf] (k:=wC e C)
 ·
  intro x xs k hk hg hc ih  o C;rw[X3q];exact rdI<|brI (λh9=>λe=>X8 [.el (aI .i64 (X3n.length:Int)),Bt,.el (X82 false Xd x),.el (aI .i64 (x.length:Int)),Bt] (k:=wC e C)) λh9=>rnK [.el (aI .i64 (X3n.length:Int)),Bt,.el (X82 false Xd x),.el (aI .i64 (x.length:Int)),Bf] (k:=wkI [] (ih   o C))
instance Xzo:PZ 11 (∀ (a0:X6) (a1:(List (List Xv))) (r:Bool),X9v a0 a1=some r->Pz 11 [(Xa false a0),(Lf (List.map (X82 false Xd) a1))] (aB r)):=⟨λa0 a1 r=>by
 unfold X9v;refine psI fn11 25<|bI λv1 h2=>brI (λh3=>λe=>oj e▸X8 [.pure _ (aB v1),.el (aI .i64 (a1.length:Int)),Bt] (k:=fi)) λh3=>bI λu4 h5=>?_;have qh5:=X1b h5;refine bI λo10 h11=>rnI [.pure _ (aB v1),.el (aI .i64 (a1.length:Int)),Bf] ?_;intro h;refine wkT [] (X9.cut (drA (Xh3 a1 qh5) _ ?_ h11));revert h;rcases o10 with _|_
 ·
  exact lGI rfl λe=>oj e▸X8 [] (k:=fi)
 exact lGI rfl λe=>oj e▸X8 [] (k:=fi)⟩
instance X003:PZ 131 (∀ (a0:Int) (r:Int),X1w a0=some r->Pz 131 [(aI .u8 a0)] (aI .i64 r)):=⟨λa0 r=>by
 unfold X1w;exact psI X0fh 7<|brI (λh1=>λe=>oj e▸X8 [Bt] (k:=fi)) λh1=>brI (λh2=>λe=>oj e▸X8 [Bf,Bt] (k:=fi)) λh2=>λe=>oj e▸X8 [Bf,Bf] (k:=fi)⟩
instance X000:PZ 132 (∀ (a0:X1) (a1:Int) (a2:Int) (r:Bool),X67 a0 a1 a2=some r->Pz 132 [(X0 a0),(aI .i64 a1),(aI .i64 a2)] (aB r)):=⟨λa0 a1 a2 r=>by
 unfold X67;exact psI X0fg 52 λe=>oj e▸X8 [] (k:=fi)⟩
theorem Xh8 {Q:Qt} {μ:Mu} (X0f:(List X1)) (hl:X0f.length<=140737488355328):∀ (xs:List X1) (k:Nat) (hx:X0f.drop k=xs) (Xs:(List Int)) (Xc:(List Int)) (X31:Nb Xs) (X00:Nb Xc) (o:X4r) (h:X1p X0f xs k Xs Xc=some o)
  (C0:∀ (X0n:(List Int)) (X0j:(List Int)) (X2d:Nb X0n) (X10:Nb X0j),o=X4r.x0 X0n X0j->Sx 102 Q [(0,(Lf (X0f.map X0))),(5,(slE X2d.1 0 (List.map (aI .i64) X0n))),(6,(slE X10.1 1 (List.map (aI .i64) X0j)))] ([]++opE X2d.1 0 1 (List.map (aI .i64) X0n)++opE X10.1 1 1 (List.map (aI .i64) X0j)) 2 μ)
  (C1:∀ (X0e:(List Int)) (X6l:(List Int)) (X0g:Nb X0e) (Xe3:Nb X6l),o=X4r.x1 X0e X6l->Sr 102 Q [(2,(slE X0g.1 0 (List.map (aI .i64) X0e))),(3,(slE Xe3.1 1 (List.map (aI .i64) X6l))),(4,(aB false))] ([]++opE X0g.1 0 1 (List.map (aI .i64) X0e)++opE Xe3.1 1 1 (List.map (aI .i64) X6l)) 2 μ),
  Sl 102 Q f106 [(0,(Lf (X0f.map X0))),(5,(slE X31.1 0 (List.map (aI .i64) Xs))),(6,(slE X00.1 1 (List.map (aI .i64) Xc))),(7,(aI .i64 (k:Int)))] ([]++opE X31.1 0 1 (List.map (aI .i64) Xs)++opE X00.1 1 1 (List.map (aI .i64) Xc)) 2 μ:=by
 intro xs
 induction xs with
 |nil =>
  intro k hx Xs Xc X31 X00 o h C0 C1;have hk:=drop_nil hx;have hc:=lpN hx;rw[X1p] at h;rcases X31 with ⟨_|_,X95⟩
  ·
   rcases X00 with ⟨_|_,X12⟩
   ·
    refine X9.round ?_;revert h;exact λe=>X8 [.el (aI .i64 (X0f.length:Int)),Bf] (k:=wkT [] (C0 _ _  nbF nbF (oj e).symm))
   obtain rfl:=X12 rfl;refine X9.round ?_;revert h;exact λe=>X8 [.el (aI .i64 (X0f.length:Int)),Bf] (k:=wkT [] (C0 _ _  nbF nbS (oj e).symm))
  ·
   obtain rfl:=X95 rfl;rcases X00 with ⟨_|_,X12⟩
   ·
    refine X9.round ?_;revert h;exact λe=>X8 [.el (aI .i64 (X0f.length:Int)),Bf] (k:=wkT [] (C0 _ _  nbS nbF (oj e).symm))
   ·
    obtain rfl:=X12 rfl;refine X9.round ?_;revert h;exact λe=>X8 [.el (aI .i64 (X0f.length:Int)),Bf] (k:=wkT [] (C0 _ _  nbS nbS (oj e).symm))
 |cons x xs ih =>
  intro k hx Xs Xc X31 X00 o h C0 C1;obtain⟨hk,hg,hx1⟩:=drop_cons hx;have hc:=lpC hx;rw[X1p] at h;rcases X31 with ⟨_|_,X95⟩
  ·
   rcases X00 with ⟨_|_,X12⟩
   ·
    refine X9.round ?_;revert h;refine bI λv156 h157=>brI (λh158=>?_) λh158=>?_
    ·
     refine brI (λh159=>λe=>X8 [.el (aI .i64 (X0f.length:Int)),Bt,.el (X0 x),.pure _ (aI .i64 v156),Bt,.wrap,Bt] (k:=wkT [] (C1 _ _  nbS nbS (oj e).symm))) λh159=>bI λe160 h161=>?_;try have qh161:=Xo h161
     refine bI λe162 h163=>?_;try have qh163:=Xo h163
     refine rnI [.el (aI .i64 (X0f.length:Int)),Bt,.el (X0 x),.pure _ (aI .i64 v156),Bt,.wrap,Bf,.el (aI .i64 e160),.ld (aI .i64 e160),.wrap,.el (aI .i64 e160),.ld (aI .i64 e160),.wrap,.el (aI .i64 e162),.ld (aI .i64 e162),.wrap] ?_;refine brI (λh164=>?_) λh164=>?_
     ·
      refine brI (λh165=>λe=>X8 [Bt,Bt] (k:=wkT [] (C1 _ _  nbS nbS (oj e).symm))) λh165=>bI λe166 h167=>?_;try have qh167:=Xo h167
      refine bI λe168 h169=>?_;try have qh169:=Xo h169
      refine bI λv170 h171=>rnI [Bt,Bf,.el (aI .i64 e166),.ld (aI .i64 e166),.wrap,.el (aI .i64 e168),.ld (aI .i64 e168),.wrap,.el (X0 x),.pure _ (aB v170)] ?_;refine brI (λh172=>λe=>X8 [Bt] (k:=wkT [] (C1 _ _  nbS nbS (oj e).symm))) λh172=>bI λu173 h174=>bI λu175 h176=>rnI [Bf,.no,.no] (o:=by repeat' first|apply Ya|exact pcM|(refine X14 h174 rfl ?_;first|(simp<;>omega)|(simp[hc,h158,h159,h164,h165,h172]<;>omega))|(refine X03 h174 (by decide) ?_;first|(simp<;>omega)|(simp[hc,h158,h159,h164,h165,h172]<;>omega))|(refine X14 h176 rfl ?_;first|(simp<;>omega)|(simp[hc,h158,h159,h164,h165,h172]<;>omega))|(refine X03 h176 (by decide) ?_;first|(simp<;>omega)|(simp[hc,h158,h159,h164,h165,h172]<;>omega))|exact X0y) ?_;intro h;exact wkT [(0,3),(1,5)] (ih (k+1) hx1 _ _ nbF nbF o h C0 C1)
     refine bI λv177 h178=>brI (λh179=>λe=>X8 [Bf,.el (X0 x),.pure _ (aB v177),Bt] (k:=wkT [] (C1 _ _  nbS nbS (oj e).symm))) λh179=>bI λu180 h181=>bI λu182 h183=>rnI [Bf,.el (X0 x),.pure _ (aB v177),Bf,.no,.no] (o:=by repeat' first|apply Ya|exact pcM|(refine X14 h181 rfl ?_;first|(simp<;>omega)|(simp[hc,h158,h159,h164,h179]<;>omega))|(refine X03 h181 (by decide) ?_;first|(simp<;>omega)|(simp[hc,h158,h159,h164,h179]<;>omega))|(refine X14 h183 rfl ?_;first|(simp<;>omega)|(simp[hc,h158,h159,h164,h179]<;>omega))|(refine X03 h183 (by decide) ?_;first|(simp<;>omega)|(simp[hc,h158,h159,h164,h179]<;>omega))|exact X0y) ?_;intro h;exact wkT [(0,3),(1,5)] (ih (k+1) hx1 _ _ nbF nbF o h C0 C1)
    refine bI λv184 h185=>brI (λh186=>λe=>X8 [.el (aI .i64 (X0f.length:Int)),Bt,.el (X0 x),.pure _ (aI .i64 v156),Bf,.el (X0 x),.pure _ (aB v184),Bt] (k:=wkT [] (C1 _ _  nbS nbS (oj e).symm))) λh186=>bI λu187 h188=>bI λu189 h190=>rnI [.el (aI .i64 (X0f.length:Int)),Bt,.el (X0 x),.pure _ (aI .i64 v156),Bf,.el (X0 x),.pure _ (aB v184),Bf,.no,.no] (o:=by repeat' first|apply Ya|exact pcM|(refine X14 h188 rfl ?_;first|(simp<;>omega)|(simp[hc,h158,h186]<;>omega))|(refine X03 h188 (by decide) ?_;first|(simp<;>omega)|(simp[hc,h158,h186]<;>omega))|(refine X14 h190 rfl ?_;first|(simp<;>omega)|(simp[hc,h158,h186]<;>omega))|(refine X03 h190 (by decide) ?_;first|(simp<;>omega)|(simp[hc,h158,h186]<;>omega))|exact X0y) ?_;intro h;exact wkT [(0,3),(1,5)] (ih (k+1) hx1 _ _ nbF nbF o h C0 C1)
   obtain rfl:=X12 rfl;refine X9.round ?_;revert h;refine bI λv191 h192=>brI (λh193=>?_) λh193=>?_
   ·
    refine brI (λh194=>λe=>X8 [.el (aI .i64 (X0f.length:Int)),Bt,.el (X0 x),.pure _ (aI .i64 v191),Bt,.wrap,Bt] (k:=wkT [] (C1 _ _  nbS nbS (oj e).symm))) λh194=>bI λe195 h196=>?_;try have qh196:=Xo h196
    refine bI λe197 h198=>?_;try have qh198:=Xo h198
    intro h
    first|exact absurd (h198) (by simp[getI];done)|(simp[getI,hc,h193,h194] at h;done)|(simp[hc,h193,h194] at hg;done)|exact absurd (h198) (by simp[getI,hc,h193,h194];done)
   refine bI λv199 h200=>brI (λh201=>λe=>X8 [.el (aI .i64 (X0f.length:Int)),Bt,.el (X0 x),.pure _ (aI .i64 v191),Bf,.el (X0 x),.pure _ (aB v199),Bt] (k:=wkT [] (C1 _ _  nbS nbS (oj e).symm))) λh201=>bI λu202 h203=>bI λu204 h205=>rnI [.el (aI .i64 (X0f.length:Int)),Bt,.el (X0 x),.pure _ (aI .i64 v191),Bf,.el (X0 x),.pure _ (aB v199),Bf,.no,.no] (o:=by repeat' first|apply Ya|exact pcM|(refine X14 h203 rfl ?_;first|(simp<;>omega)|(simp[hc,h193,h201]<;>omega))|(refine X03 h203 (by decide) ?_;first|(simp<;>omega)|(simp[hc,h193,h201]<;>omega))|(refine X14 h205 rfl ?_;first|(simp<;>omega)|(simp[hc,h193,h201]<;>omega))|(refine X03 h205 (by decide) ?_;first|(simp<;>omega)|(simp[hc,h193,h201]<;>omega))|exact X0y) ?_;intro h;exact wkT [(0,3),(1,5)] (ih (k+1) hx1 _ _ nbF nbF o h C0 C1)
  obtain rfl:=X95 rfl;rcases X00 with ⟨_|_,X12⟩<;>(try obtain rfl:=X12 rfl);all_goals
   refine X9.round ?_;revert h;refine bI λv206 h207=>brI (λh208=>?_) λh208=>?_
   ·
    refine brI (λh209=>λe=>X8 [.el (aI .i64 (X0f.length:Int)),Bt,.el (X0 x),.pure _ (aI .i64 v206),Bt,.wrap,Bt] (k:=wkT [] (C1 _ _  nbS nbS (oj e).symm))) λh209=>bI λe210 h211=>?_;try have qh211:=Xo h211
    intro h
    first|exact absurd (h211) (by simp[getI];done)|(simp[getI,hc,h208,h209] at h;done)|(simp[hc,h208,h209] at hg;done)|exact absurd (h211) (by simp[getI,hc,h208,h209];done)
   refine bI λv212 h213=>brI (λh214=>λe=>X8 [.el (aI .i64 (X0f.length:Int)),Bt,.el (X0 x),.pure _ (aI .i64 v206),Bf,.el (X0 x),.pure _ (aB v212),Bt] (k:=wkT [] (C1 _ _  nbS nbS (oj e).symm))) λh214=>bI λu215 h216=>bI λu217 h218=>rnI [.el (aI .i64 (X0f.length:Int)),Bt,.el (X0 x),.pure _ (aI .i64 v206),Bf,.el (X0 x),.pure _ (aB v212),Bf,.no,.no] (o:=by repeat' first|apply Ya|exact pcM|(refine X14 h216 rfl ?_;first|(simp<;>omega)|(simp[hc,h208,h214]<;>omega))|(refine X03 h216 (by decide) ?_;first|(simp<;>omega)|(simp[hc,h208,h214]<;>omega))|(refine X14 h218 rfl ?_;first|(simp<;>omega)|(simp[hc,h208,h214]<;>omega))|(refine X03 h218 (by decide) ?_;first|(simp<;>omega)|(simp[hc,h208,h214]<;>omega))|exact X0y) ?_;intro h;exact wkT [(0,3),(1,5)] (ih (k+1) hx1 _ _ nbF nbF o h C0 C1)
instance X001:PZ 106 (∀ (a0:(List X1)) (r:(List Int)×(List Int)×Bool),Xc6 a0=some r->Pz 106 [(Lf (a0.map X0))] (AV.tup [(Lt (List.map (aI .i64) r.1)),(Lt (List.map (aI .i64) r.2.1)),(aB r.2.2)])):=⟨λa0 r=>by
 unfold Xc6;refine psI X0fu 102<|bI λu1 h2=>?_;have qh2:=X1b h2;refine bI λo232 h233=>rnI [] ?_;intro h;refine wkT [] (X9.cut (Xh8 a0 qh2 a0 0 (by simp) _ _ nbS nbS _ h233 ?_ ?_))
 ·
  intro X0n X0j X2d X10 eo232;subst eo232;refine X9.glue ?_;try dsimp only at h
  rcases X2d with ⟨_|_,X7t⟩
  ·
   rcases X10 with ⟨_|_,X46⟩
   ·
    revert h;refine bI λXxn h241=>rnI [.stop 25] ?_;refine jnI ⟨fr [(2,(AV.ref 0 0 (X0n.length))),(3,(AV.ref 1 0 (X0j.length))),(4,(aB Xxn))],hp ([(0,Ob (List.map (aI .i64) X0n) 1),(1,Ob (List.map (aI .i64) X0j) 1)]),2⟩ h241 (λe=>oj e▸X8 [] (k:=fi)) λJ=>?_;refine brI (λh238=>?_) λh238=>λe=>X8 [.el (aI .i64 (a0.length:Int)),Gf,Gf,Gf,Gf,Gf,Gf,Gf,Gf,Gf,Gf] (k:=wJ [] J);refine bI λe239 h240=>?_;try have qh240:=Xo h240
    exact λe=>X8 [.el (aI .i64 (a0.length:Int)),Gt,Gt,Gt,.el (aI .i64 (a0.length:Int)),Gt,.wrap,Gt,.el (aI .i64 e239),Gt,.ld (aI .i64 e239),Gt,Gt,.el (aI .i64 (a0.length:Int)),Gt] (k:=wJ [] J)
   obtain rfl:=X46 rfl;revert h;refine bI λX0b9 h249=>rnI [.stop 25] ?_;refine jnI ⟨fr [(2,(AV.ref 0 0 (X0n.length))),(3,AV.nils),(4,(aB X0b9))],hp ([(0,Ob (List.map (aI .i64) X0n) 1)]),2⟩ h249 (λe=>oj e▸X8 [] (k:=fi)) λJ=>?_;refine brI (λh246=>?_) λh246=>λe=>X8 [.el (aI .i64 (a0.length:Int)),Gf,Gf,Gf,Gf,Gf,Gf,Gf,Gf,Gf,Gf] (k:=wJ [] J);refine bI λe247 h248=>?_;try have qh248:=Xo h248
   exact λe=>X8 [.el (aI .i64 (a0.length:Int)),Gt,Gt,Gt,.el (aI .i64 (a0.length:Int)),Gt,.wrap,Gt,.el (aI .i64 e247),Gt,.ld (aI .i64 e247),Gt,Gt,.el (aI .i64 (a0.length:Int)),Gt] (k:=wJ [] J)
  obtain rfl:=X7t rfl;rcases X10 with ⟨_|_,X46⟩
  ·
   revert h;refine bI λX0b8 h257=>rnI [.stop 25] ?_;refine jnI ⟨fr [(2,AV.nils),(3,(AV.ref 1 0 (X0j.length))),(4,(aB X0b8))],hp ([(1,Ob (List.map (aI .i64) X0j) 1)]),2⟩ h257 (λe=>oj e▸X8 [] (k:=fi)) λJ=>?_;refine brI (λh254=>?_) λh254=>λe=>X8 [.el (aI .i64 (a0.length:Int)),Gf,Gf,Gf,Gf,Gf,Gf,Gf,Gf,Gf,Gf] (k:=wJ [] J);refine bI λe255 h256=>?_;try have qh256:=Xo h256
   intro h
   first|exact absurd (h256) (by simp[getI];done)|(simp[getI,h254] at h;done)|(simp[h254] at hg;done)|exact absurd (h256) (by simp[getI,h254];done)
  obtain rfl:=X46 rfl;revert h;refine bI λX0b7 h265=>rnI [.stop 25] ?_;refine jnI ⟨fr [(2,AV.nils),(3,AV.nils),(4,(aB X0b7))],hp ([]),2⟩ h265 (λe=>oj e▸X8 [] (k:=fi)) λJ=>?_;refine brI (λh262=>?_) λh262=>λe=>X8 [.el (aI .i64 (a0.length:Int)),Gf,Gf,Gf,Gf,Gf,Gf,Gf,Gf,Gf,Gf] (k:=wJ [] J);refine bI λe263 h264=>?_;try have qh264:=Xo h264
  intro h
  first|exact absurd (h264) (by simp[getI];done)|(simp[getI,h262] at h;done)|(simp[h262] at hg;done)|exact absurd (h264) (by simp[getI,h262];done)
 intro X0e X6l X0g Xe3 eo232;subst eo232;refine X9.glue ?_;try dsimp only at h
 rcases X0g with ⟨_|_,X45⟩<;>(try obtain rfl:=X45 rfl);all_goals
  rcases Xe3 with ⟨_|_,Xun⟩<;>(try obtain rfl:=Xun rfl);all_goals
   revert h;exact λe=>oj e▸X8 [] (k:=fi)⟩
instance X004:PZ 80 (∀ (a0:(List X1)) (r:Int),X4h a0=some r->Pz 80 [(Lf (a0.map X0))] (aI .i64 r)):=⟨λa0 r=>by
 unfold X4h;refine psI fn80 24<|brI (λh1=>λe=>oj e▸X8 [.el (aI .i64 (a0.length:Int)),Bt] (k:=fi)) λh1=>bI λv2 h3=>rnI [.el (aI .i64 (a0.length:Int)),Bf,.pure _ (AV.tup [(Lt (List.map (aI .i64) v2.1)),(Lt (List.map (aI .i64) v2.2.1)),(aB v2.2.2)])] ?_;refine brI (λh4=>λe=>oj e▸X8 [Bt] (k:=fi)) λh4=>bI λe5 h6=>?_;try have qh6:=Xo h6
 exact brI (λh7=>λe=>oj e▸X8 [Bf,.el (aI .i64 (a0.length:Int)),.wrap,.el (aI .i64 e5),Bt] (k:=fi)) λh7=>λe=>oj e▸X8 [Bf,.el (aI .i64 (a0.length:Int)),.wrap,.el (aI .i64 e5),Bf] (k:=fi)⟩
theorem Xfg {Q:Qt} {μ:Mu} (X0f:(List Int)) (hl:X0f.length<=140737488355328):Dr X0f λxs k=>∀ o,Lq Tryz.prog 60 0 Q μ o (fun|.x0=>(.exit 0,⟨fr [(0,(Lf (List.map (aI .i64) X0f)))],hp ([]),0⟩)|.x1=>(.ret,⟨fr [(4,(aI .i64 8))],hp ([]),0⟩))
  (X3l 0 (X1g Tryz.f81)) ⟨fr [(0,(Lf (List.map (aI .i64) X0f))),(5,(aI .i64 (k:Int)))],hp ([]),0⟩ (X2x X0f xs k ):=by
 refine drI ?_ ?_
 ·
  intro k hk hc  o C;rw[X2x];exact rdI<|λe=>X8 [.el (aI .i64 (X0f.length:Int)),Bf] (k:=wC e C)
 ·
  intro x xs k hk hg hc ih  o C;rw[X2x];refine rdI<|bI λXxq h19=>rnI [.el (aI .i64 (X0f.length:Int)),Bt,.stop 8] ?_;exact jnI ⟨fr [(0,(Lf (List.map (aI .i64) X0f))),(5,(aI .i64 (k:Int))),(39,(aB Xxq))],hp ([]),0⟩ h19 (brI (λh20=>λe=>X8 [Bt] (k:=wC e C)) λh20=>rnK [Bf] (k:=wkI [] (ih   o C))) λJ=>brI (λh18=>λe=>X8 [.el (aI .i64 x),Gf,Gf,Gf,Gf,Gf] (k:=wJ [] J)) λh18=>λe=>X8 [.el (aI .i64 x),Gt,Gt,Gt,.el (aI .i64 x),Gt,Gt] (k:=wJ [] J)
theorem Xfe {Q:Qt} {μ:Mu} (y2_0:(List Int)) (y2_6:Int):∀ (n:Nat) (Xpf:Int) o,Lq Tryz.prog 60 0 Q μ o (fun|.x0=>(.ret,⟨fr [(4,(aI .i64 43))],hp ([]),0⟩)|.x1=>(.exit 4,⟨fr [(0,(Lf (List.map (aI .i64) y2_0))),(6,(aI .i64 y2_6))],hp ([]),0⟩))
  (X3l 2 (X1g Tryz.f81)) ⟨fr [(0,(Lf (List.map (aI .i64) y2_0))),(6,(aI .i64 y2_6)),(7,(aI .i64 Xpf))],hp ([]),0⟩ (X2w y2_0 y2_6 n Xpf):=by
 intro n
 induction n with
 |zero=>intro Xpf o C h;cases h
 |succ n ih =>
  intro Xpf o C;rw[X2w];refine rdI<|brI (λh79=>?_) λh79=>λe=>X8 [Bf] (k:=wC e C);refine bI λe80 h81=>?_;try have qh81:=Xo h81
  refine bI λe82 h83=>?_;try have qh83:=Xo h83
  exact brI (λh84=>λe=>X8 [Bt,.el (aI .i64 e80),.el (aI .i64 e82),Bt] (k:=wC e C)) λh84=>rnK [Bt,.el (aI .i64 e80),.el (aI .i64 e82),Bf,.wrap] (k:=wkI [] (ih  _ o C))
theorem Xff {Q:Qt} {μ:Mu} (Xzk:(List Int)) (hl:Xzk.length<=140737488355328):Dr Xzk λxs k=>∀ o,Lq Tryz.prog 60 0 Q μ o (fun|.x0=>(.exit 2,⟨fr [],hp ([]),0⟩)|.x1=>(.ret,⟨fr [(4,(aI .i64 43))],hp ([]),0⟩))
  (X3l 1 (X1g Tryz.f81)) ⟨fr [(0,(Lf (List.map (aI .i64) Xzk))),(6,(aI .i64 (k:Int)))],hp ([]),0⟩ (X2f Xzk xs k ):=by
 refine drI ?_ ?_
 ·
  intro k hk hc  o C;rw[X2f];exact rdI<|λe=>X8 [.el (aI .i64 (Xzk.length:Int)),Bf] (k:=wC e C)
 ·
  intro x xs k hk hg hc ih  o C;rw[X2f];refine rdI<|bI λo85 h86=>rnI [.el (aI .i64 (Xzk.length:Int)),Bt] ?_;intro h;refine wkT [] (X9.cut (Xfe Xzk (k:Int) _ _ _ ?_ h86));revert h;rcases o85 with _|_
  ·
   exact lGI rfl λe=>X8 [] (k:=wC e C)
  exact lGI rfl<|rnK [] (k:=wkI [] (ih   o C))
instance Xvh:PZ 81 (∀ (a0:(List Int)) (a1:Bool) (r:Int),X6t a0 a1=some r->Pz 81 [(Lf (List.map (aI .i64) a0)),(aB a1)] (aI .i64 r)):=⟨λa0 a1 r=>by
 unfold X6t;refine psI fn81 60<|brI (λh1=>λe=>oj e▸X8 [.el (aI .i64 (a0.length:Int)),Bt] (k:=fi)) λh1=>brI (λh2=>λe=>oj e▸X8 [.el (aI .i64 (a0.length:Int)),Bf,.el (aI .i64 (a0.length:Int)),.el (aI .i64 (a0.length:Int)),Bt] (k:=fi)) λh2=>bI λu3 h4=>?_;have qh4:=X1b h4;refine bI λo21 h22=>rnI [.el (aI .i64 (a0.length:Int)),Bf,.el (aI .i64 (a0.length:Int)),.el (aI .i64 (a0.length:Int)),Bf] ?_;intro h;refine wkT [] (X9.cut (drA (Xfg a0 qh4) _ ?_ h22));revert h;rcases o21 with _|_
 ·
  refine lGI rfl<|bI λo87 h88=>rnI [] ?_;intro h;refine wkT [] (X9.cut (drA (Xff a0 qh4) _ ?_ h88));revert h;rcases o87 with _|_
  ·
   exact lGI rfl λe=>oj e▸X8 [] (k:=fi)
  exact lGI rfl λe=>oj e▸X8 [] (k:=fi)
 exact lGI rfl λe=>oj e▸X8 [] (k:=fi)⟩
instance X019:PZ 82 (∀ (a0:Xi) (r:Bool),X7n a0=some r->Pz 82 [(X7y a0)] (aB r)):=⟨λa0 r=>by
 unfold X7n;exact psI fn82 45<|brI (λh1=>λe=>oj e▸X8 [Bt] (k:=fi)) λh1=>brI (λh2=>λe=>oj e▸X8 [Bf,Bt,.wrap] (k:=fi)) λh2=>λe=>oj e▸X8 [Bf,Bf] (k:=fi)⟩
instance Xzw:PZ 61 (∀ (a0:X6) (r:Int),Xa1 a0=some r->Pz 61 [(Xa false a0)] (aI .i64 r)):=⟨λa0 r=>by
 unfold Xa1;refine psI fn61 80<|brI (λh1=>λe=>oj e▸X8 [Bt] (k:=fi)) λh1=>brI (λh2=>λe=>oj e▸X8 [Bf,.el (aI .i64 (a0.Arg.length:Int)),Bt] (k:=fi)) λh2=>bI λX06w h10=>rnI [Bf,.el (aI .i64 (a0.Arg.length:Int)),Bf,.stop 5] ?_;refine jnI ⟨fr [(1,(AV.ptr 0 0 0)),(38,(aB X06w))],hp ([(0,Ob [(Xa false a0)] 10)]),1⟩ h10 ?_ λJ=>brI (λh7=>bI λv8 h9=>λe=>X8 [Gt,Gt,Gt,.pure _ (aI .i64 v8),Gt] (k:=wJ [] J)) λh7=>λe=>X8 [Gf,Gf,Gf,Gf] (k:=wJ [] J);refine brI (λh11=>bI λv12 h13=>λe=>oj e▸X8 [Bt,.pure _ (aI .i64 v12)] (k:=fi)) λh11=>bI λXxp h21=>rnI [Bf,.stop 7] ?_;exact jnI ⟨fr [(1,(AV.ptr 0 0 0)),(51,(aB Xxp))],hp ([(0,Ob [(Xa false a0)] 10)]),1⟩ h21 (brI (λh22=>bI λv23 h24=>λe=>oj e▸X8 [Bt,.pure _ (aI .i64 v23)] (k:=fi)) λh22=>bI λv25 h26=>brI (λh27=>λe=>oj e▸X8 [Bf,.pure _ (aI .i64 v25),Bt,.pure _ (aI .i64 v25)] (k:=fi)) λh27=>bI λv28 h29=>brI (λh30=>λe=>oj e▸X8 [Bf,.pure _ (aI .i64 v25),Bf,.pure _ (aB v28),Bt] (k:=fi)) λh30=>λe=>oj e▸X8 [Bf,.pure _ (aI .i64 v25),Bf,.pure _ (aB v28),Bf] (k:=fi)) λJ=>brI (λh18=>bI λv19 h20=>λe=>X8 [.el (aI .i64 (a0.Where.length:Int)),Gt,Gt,Gt,.pure _ (aI .i64 v19),Gt] (k:=wJ [] J)) λh18=>λe=>X8 [.el (aI .i64 (a0.Where.length:Int)),Gf,Gf,Gf,Gf] (k:=wJ [] J)⟩
instance Xzz:PZ 134 (∀ (a0:Int) (r:Bool),X7p a0=some r->Pz 134 [(aI .u8 a0)] (aB r)):=⟨λa0 r=>by
 unfold X7p;exact psI X0fe 9 λe=>oj e▸X8 [] (k:=fi)⟩
instance X01a:PZ 154 (∀ (a0:(List X1)) (a1:Int) (r:Bool),Xbe a0 a1=some r->Pz 154 [(Lf (a0.map X0)),(aI .i64 a1)] (aB r)):=⟨λa0 a1 r=>by
 unfold Xbe;refine psI X0f5 67<|bI λe1 h2=>?_;try have qh2:=Xo h2
 refine bI λe3 h4=>?_;try have qh4:=Xo h4
 refine bI λv5 h6=>bI λe7 h8=>?_;try have qh8:=Xo h8
 exact bI λv9 h10=>brI (λh11=>λe=>oj e▸X8 [.el (X0 e1),.el (X0 e3),.pure _ (aB v5),.el (X0 e7),.pure _ (aB v9),Bt] (k:=fi)) λh11=>brI (λh12=>λe=>oj e▸X8 [.el (X0 e1),.el (X0 e3),.pure _ (aB v5),.el (X0 e7),.pure _ (aB v9),Bf,Bt] (k:=fi)) λh12=>brI (λh13=>λe=>oj e▸X8 [.el (X0 e1),.el (X0 e3),.pure _ (aB v5),.el (X0 e7),.pure _ (aB v9),Bf,Bf,Bt] (k:=fi)) λh13=>brI (λh14=>λe=>oj e▸X8 [.el (X0 e1),.el (X0 e3),.pure _ (aB v5),.el (X0 e7),.pure _ (aB v9),Bf,Bf,Bf,Bt] (k:=fi)) λh14=>brI (λh15=>λe=>oj e▸X8 [.el (X0 e1),.el (X0 e3),.pure _ (aB v5),.el (X0 e7),.pure _ (aB v9),Bf,Bf,Bf,Bf,Bt] (k:=fi)) λh15=>λe=>oj e▸X8 [.el (X0 e1),.el (X0 e3),.pure _ (aB v5),.el (X0 e7),.pure _ (aB v9),Bf,Bf,Bf,Bf,Bf] (k:=fi)⟩
theorem Xh7 {Q:Qt} {μ:Mu} (X0f:(List X1)) (hl:X0f.length<=140737488355328):Dr X0f λxs k=>∀ o,Lq Tryz.prog 17 0 Q μ o (fun|.x0=>(.exit 0,⟨fr [(0,(Lf (X0f.map X0)))],hp ([]),0⟩)|.x1 Xpi=>(.ret,⟨fr [(2,(aI .i64 Xpi))],hp ([]),0⟩))
  (X3l 0 (X1g Tryz.f133)) ⟨fr [(0,(Lf (X0f.map X0))),(3,(aI .i64 (k:Int)))],hp ([]),0⟩ (X3t X0f xs k ):=by
 refine drI ?_ ?_
 ·
  intro k hk hc  o C;rw[X3t];exact rdI<|λe=>X8 [.el (aI .i64 (X0f.length:Int)),Bf] (k:=wC e C)
 ·
  intro x xs k hk hg hc ih  o C;rw[X3t];exact rdI<|bI λv10 h11=>brI (λh12=>λe=>X8 [.el (aI .i64 (X0f.length:Int)),Bt,.pure _ (aB v10),Bt] (k:=wC e C)) λh12=>rnK [.el (aI .i64 (X0f.length:Int)),Bt,.pure _ (aB v10),Bf] (k:=wkI [] (ih   o C))
instance Xzy:PZ 133 (∀ (a0:(List X1)) (r:Int),Xc5 a0=some r->Pz 133 [(Lf (a0.map X0))] (aI .i64 r)):=⟨λa0 r=>by
 unfold Xc5;refine psI X0ff 17<|bI λu1 h2=>?_;have qh2:=X1b h2;refine bI λo13 h14=>rnI [] ?_;intro h;refine wkT [] (X9.cut (drA (Xh7 a0 qh2) _ ?_ h14));revert h;rcases o13 with _|⟨Xpi⟩
 ·
  exact lGI rfl λe=>oj e▸X8 [.el (aI .i64 (a0.length:Int))] (k:=fi)
 exact lGI rfl λe=>oj e▸X8 [] (k:=fi)⟩
instance X068:PZ 107 (∀ (a0:(List X1)) (r:Bool×Int×Int),Xg6 a0=some r->Pz 107 [(Lf (a0.map X0))] (AV.tup [(aB r.1),(aI .i64 r.2.1),(aI .i64 r.2.2)])):=⟨λa0 r=>by
 unfold Xg6;refine psI X0ft 29<|bI λv1 h2=>brI (λh3=>λe=>oj e▸X8 [.pure _ (aI .i64 v1),Bt,.pure _ (aI .i64 v1)] (k:=fi)) λh3=>bI λv4 h5=>brI (λh6=>λe=>oj e▸X8 [.pure _ (aI .i64 v1),Bf,.pure _ (aI .i64 v4),.el (aI .i64 (a0.length:Int)),Bt] (k:=fi)) λh6=>bI λe7 h8=>?_;try have qh8:=Xo h8
 exact bI λv9 h10=>λe=>oj e▸X8 [.pure _ (aI .i64 v1),Bf,.pure _ (aI .i64 v4),.el (aI .i64 (a0.length:Int)),Bf,.el (aI .i64 (a0.length:Int)),.wrap,.el (X0 e7),.pure _ (aB v9),.el (aI .i64 (a0.length:Int)),.wrap] (k:=fi)⟩
instance X01b:PZ 83 (∀ (a0:(List X1)) (a1:Bool) (r:Int×Int),X7o a0 a1=some r->Pz 83 [(Lf (a0.map X0)),(aB a1)] (AV.tup [(aI .i64 r.1),(aI .i64 r.2)])):=⟨λa0 a1 r=>by
 unfold X7o;exact psI fn83 25<|bI λv1 h2=>brI (λh3=>λe=>oj e▸X8 [.pure _ (AV.tup [(aB v1.1),(aI .i64 v1.2.1),(aI .i64 v1.2.2)]),Bt] (k:=fi)) λh3=>λe=>oj e▸X8 [.pure _ (AV.tup [(aB v1.1),(aI .i64 v1.2.1),(aI .i64 v1.2.2)]),Bf] (k:=fi)⟩
instance Xzt:PZ 62 (∀ (a0:X6) (r:Int×Int),X9y a0=some r->Pz 62 [(Xa false a0)] (AV.tup [(aI .i64 r.1),(aI .i64 r.2)])):=⟨λa0 r=>by
 unfold X9y;refine psI fn62 46<|brI (λh1=>?_) λh1=>?_
 ·
  refine bI λv2 h3=>brI (λh4=>?_) λh4=>?_
  ·
   refine bI λe5 h6=>?_;try have qh6:=Xo h6
   exact λe=>oj e▸X8 [.el (aI .i64 (a0.Arg.length:Int)),Bt,.pure _ (AV.tup [(aI .i64 v2.1),(aI .i64 v2.2)]),Bt,.el (X0 e5)] (k:=fi)
  refine rnI [.el (aI .i64 (a0.Arg.length:Int)),Bt,.pure _ (AV.tup [(aI .i64 v2.1),(aI .i64 v2.2)]),Bf,.el (aI .i64 (a0.Where.length:Int))] ?_;refine brI (λh7=>?_) λh7=>λe=>oj e▸X8 [Bf] (k:=fi);refine bI λv8 h9=>brI (λh10=>?_) λh10=>λe=>oj e▸X8 [Bt,.pure _ (AV.tup [(aI .i64 v8.1),(aI .i64 v8.2)]),Bf] (k:=fi);refine bI λe11 h12=>?_;try have qh12:=Xo h12
  exact λe=>oj e▸X8 [Bt,.pure _ (AV.tup [(aI .i64 v8.1),(aI .i64 v8.2)]),Bt,.el (X0 e11)] (k:=fi)
 refine brI (λh13=>?_) λh13=>λe=>oj e▸X8 [.el (aI .i64 (a0.Arg.length:Int)),Bf,.el (aI .i64 (a0.Where.length:Int)),Bf] (k:=fi);refine bI λv14 h15=>rnI [.el (aI .i64 (a0.Arg.length:Int)),Bf,.el (aI .i64 (a0.Where.length:Int)),Bt,.pure _ (AV.tup [(aI .i64 v14.1),(aI .i64 v14.2)])] ?_;refine brI (λh16=>?_) λh16=>λe=>oj e▸X8 [Bf] (k:=fi);refine bI λe17 h18=>?_;try have qh18:=Xo h18
 exact λe=>oj e▸X8 [Bt,.el (X0 e17)] (k:=fi)⟩
instance Xzu:PZ 37 (∀ (a0:X6) (r:Int×Int),X9z a0=some r->Pz 37 [(Xa false a0)] (AV.tup [(aI .i64 r.1),(aI .i64 r.2)])):=⟨λa0 r=>by
 unfold X9z;exact psI fn37 13<|bI λv1 h2=>brI (λh3=>λe=>oj e▸X8 [.pure _ (aI .i64 v1),Bt,.pure _ (aI .i64 v1)] (k:=fi)) λh3=>bI λv4 h5=>λe=>oj e▸X8 [.pure _ (aI .i64 v1),Bf,.pure _ (AV.tup [(aI .i64 v4.1),(aI .i64 v4.2)])] (k:=fi)⟩
instance Xzs:PZ 84 (∀ (a0:Int) (a1:Int) (r:Int),X7m a0 a1=some r->Pz 84 [(aI .i64 a0),(aI .i64 a1)] (aI .i64 r)):=⟨λa0 a1 r=>by
 unfold X7m;exact psI fn84 17<|brI (λh1=>λe=>oj e▸X8 [Bt] (k:=fi)) λh1=>brI (λh2=>λe=>oj e▸X8 [Bf,Bt] (k:=fi)) λh2=>λe=>oj e▸X8 [Bf,Bf] (k:=fi)⟩
instance Xzq:PZ 63 (∀ (a0:Xv) (r:Bool),X9w a0=some r->Pz 63 [(Xd a0)] (aB r)):=⟨λa0 r=>by
 unfold X9w;refine psI fn63 30<|brI (λh1=>?_) λh1=>?_
 ·
  refine bI λj6_2 h11=>rnI [Bt,.stop 2] ?_;exact jnI ⟨fr [(2,(aB j6_2))],hp ([]),0⟩ h11 (λe=>oj e▸X8 [] (k:=fi)) λJ=>brI (λh7=>brI (λh8=>λe=>X8 [Gt,Gt,Gt,Gt,Gf,Gf,Gf,Gf,Gt] (k:=wJ [] J)) λh8=>bI λv9 h10=>λe=>X8 [Gt,Gt,Gt,Gt,Gt,Gt,Gt,.pure _ (aI .i64 v9),Gt,Gt] (k:=wJ [] J)) λh7=>λe=>X8 [Gf,Gf,Gf,Gf,Gf,Gf,Gf,Gf,Gf] (k:=wJ [] J)
 refine bI λX07a h19=>rnI [Bf,.stop 3] ?_;exact jnI ⟨fr [(2,(aB X07a))],hp ([]),0⟩ h19 (λe=>oj e▸X8 [] (k:=fi)) λJ=>brI (λh16=>bI λv17 h18=>λe=>X8 [Gt,Gt,Gt,Gt,.pure _ (aI .i64 v17),Gt] (k:=wJ [] J)) λh16=>λe=>X8 [Gf,Gf,Gf,Gf,Gf] (k:=wJ [] J)⟩
theorem Xh5 {Q:Qt} {μ:Mu} (X0f:(List Xv)) (hl:X0f.length<=140737488355328):Dr X0f λxs k=>∀ o,Lq Tryz.prog 19 0 Q μ o (fun|.x0=>(.exit 0,⟨fr [],hp ([]),0⟩)|.x1=>(.ret,⟨fr [(2,(aI .i64 8))],hp ([]),0⟩))
  (X3l 0 (X1g Tryz.f38)) ⟨fr [(0,(Lf (X0f.map Xd))),(3,(aI .i64 (k:Int)))],hp ([]),0⟩ (X3s X0f xs k ):=by
 refine drI ?_ ?_
 ·
  intro k hk hc  o C;rw[X3s];exact rdI<|λe=>X8 [.el (aI .i64 (X0f.length:Int)),Bf] (k:=wC e C)
 ·
  intro x xs k hk hg hc ih  o C;rw[X3s];exact rdI<|bI λv11 h12=>brI (λh13=>λe=>X8 [.el (aI .i64 (X0f.length:Int)),Bt,.el (Xd x),.pure _ (aB v11),Bt] (k:=wC e C)) λh13=>rnK [.el (aI .i64 (X0f.length:Int)),Bt,.el (Xd x),.pure _ (aB v11),Bf] (k:=wkI [] (ih   o C))
instance Xzr:PZ 38 (∀ (a0:(List Xv)) (r:Int),X9x a0=some r->Pz 38 [(Lf (a0.map Xd))] (aI .i64 r)):=⟨λa0 r=>by
 unfold X9x;refine psI fn38 19<|brI (λh1=>λe=>oj e▸X8 [.el (aI .i64 (a0.length:Int)),Bt] (k:=fi)) λh1=>bI λu2 h3=>?_;have qh3:=X1b h3;refine bI λo14 h15=>rnI [.el (aI .i64 (a0.length:Int)),Bf] ?_;intro h;refine wkT [] (X9.cut (drA (Xh5 a0 qh3) _ ?_ h15));revert h;rcases o14 with _|_
 ·
  exact lGI rfl λe=>oj e▸X8 [] (k:=fi)
 exact lGI rfl λe=>oj e▸X8 [] (k:=fi)⟩
end Go.Av.Tryz