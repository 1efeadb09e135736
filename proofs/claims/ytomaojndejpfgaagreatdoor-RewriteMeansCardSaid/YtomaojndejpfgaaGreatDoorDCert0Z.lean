/- Printed by decomp.py: that the program computes the functions. -/
import Derived.Test.YtomaojndejpfgaaGreatDoorDFunZ
import Derived.Test.YtomaojndejpfgaaGreatDoorTabX
import Derived.Test.YtomaojndejpfgaaGreatDoorDeleteZ
import Derived.Test.YtomaojndejpfgaaGreatDoorInsertZ
set_option linter.all false

namespace Go.Av.Tryz
open Go.Proofs Go.D Go.Proofs.Tryz
set_option maxRecDepth 10000
set_option maxHeartbeats 40000000
abbrev SK (nt:Nat) (Q:Xr->St->Mu->Prop):=X7 Tryz.prog nt 0 Q
abbrev Sx (nt:Nat) (Q:Xr->St->Mu->Prop) (L:List (Nat×AV)) (G:List (Nat×Obj)) (n:Nat) (μ:Mu):=SK nt Q (.exit (.exit 0)) [] ⟨fr L,hp G,n⟩ μ
abbrev Sr (nt:Nat) (Q:Xr->St->Mu->Prop) (L:List (Nat×AV)) (G:List (Nat×Obj)) (n:Nat) (μ:Mu):=SK nt Q (.exit .ret) [] ⟨fr L,hp G,n⟩ μ
abbrev Sl (nt:Nat) (Q:Xr->St->Mu->Prop) (f:Func) (L:List (Nat×AV)) (G:List (Nat×Obj)) (n:Nat) (μ:Mu):=SK nt Q (.loop (X64 0 (X1l f))) [] ⟨fr L,hp G,n⟩ μ
theorem lpN {α:Type} {l:List α} {k:Nat} (h:l.drop k=[]):decide ((k:Int)<(l.length:Int))=false:=by have:=List.drop_eq_nil_iff.1 h;exact Yf om
theorem lpC {α:Type} {l xs:List α} {x:α} {k:Nat} (h:l.drop k=x::xs):decide ((k:Int)<(l.length:Int))=true:=by have:=congrArg (λq:List α=>q.length) h;simp at this;exact Yt om
theorem jn {P:Program} {nt n0:Nat} {Q:Xr->St->Mu->Prop} {cf:Cf} {K:List Kn} {μ:Mu} {s:St} (L:List (Nat×AV)) (G:List (Nat×Obj)) (n:Nat) (h1:X7 P nt n0 Q (.exit .normal) K ⟨fr L,hp G,n⟩ μ) (h2:X7 P nt n0 Q (.exit .normal) K ⟨fr L,hp G,n⟩ μ->X7 P nt n0 Q cf K s μ):X7 P nt n0 Q cf K s μ:=h2 h1
abbrev PZ:=PCs Tryz.prog
abbrev Pz:=X76 Tryz.prog
abbrev Qt:=Xr->St->Mu->Prop
theorem tmD:X71 Tryz.prog Xlu.find/\Tryz.prog.follows .mixedOrders=true:=⟨Xf,by kernel_rfl⟩
instance tmI:TmD Tryz.prog Xlu.find:=⟨tmD⟩
def fn3:=fk func3
def fn5:=fk func5
def fn6:=fk func6
def fn7:=fk func7
def fn8:=fk func8
def fn9:=fk func9
def fn10:=fk func10
def fn11:=fk func11
def fn12:=fk func12
def fn14:=fk func14
def fn15:=fk func15
def fn16:=fk func16
def fn17:=fk func17
def fn18:=fk func18
def fn19:=fk func19
def fn20:=fk func20
def fn21:=fk func21
def fn24:=fk func24
def fn25:=fk func25
def fn26:=fk func26
def fn27:=fk func27
def fn28:=fk func28
def fn29:=fk func29
def fn30:=fk func30
def fn31:=fk func31
def fn32:=fk func32
def fn33:=fk func33
def fn34:=fk func34
def fn35:=fk func35
def fn36:=fk func36
def fn37:=fk func37
def fn38:=fk func38
def fn39:=fk func39
def fn40:=fk func40
def fn41:=fk func41
def fn48:=fk func48
def fn49:=fk func49
def fn50:=fk func50
def fn51:=fk func51
def fn52:=fk func52
def fn53:=fk func53
def fn54:=fk func54
def fn55:=fk func55
def fn56:=fk func56
def fn57:=fk func57
def fn58:=fk func58
def fn59:=fk func59
def fn60:=fk func60
def fn61:=fk func61
def fn62:=fk func62
def fn63:=fk func63
def fn64:=fk func64
def fn65:=fk func65
def fn66:=fk func66
def fn67:=fk func67
def fn68:=fk func68
def fn69:=fk func69
def fn70:=fk func70
def fn71:=fk func71
def fn72:=fk func72
def fn82:=fk func82
def fn83:=fk func83
def fn84:=fk func84
def fn85:=fk func85
def fn86:=fk func86
def fn87:=fk func87
def fn88:=fk func88
def fn89:=fk func89
def fn90:=fk func90
def fn91:=fk func91
def fn92:=fk func92
def fn93:=fk func93
def fn94:=fk func94
def fn95:=fk func95
def fn96:=fk func96
def fn97:=fk func97
def fn98:=fk func98
def fn99:=fk func99
def X0jo:=fk func100
def X0jn:=fk func101
def X0jm:=fk func102
def X0jl:=fk func103
def X0b4:=fk func104
def X0jk:=fk func105
def X0jj:=fk func106
def X0ff:=fk func107
def X0ji:=fk func108
def X0jh:=fk func109
def X0jg:=fk func110
def X0jf:=fk func111
def X0je:=fk func112
def X0jd:=fk func113
def X0jc:=fk func130
def X0jb:=fk func131
def X0ja:=fk func132
def X0j9:=fk func133
def X0j8:=fk func134
def X0j7:=fk func135
def X0j6:=fk func136
def X0j5:=fk func137
def X0fe:=fk func138
def X0fd:=fk func139
def X0j4:=fk func141
def X0j3:=fk func142
def X0fc:=fk func143
def X0j2:=fk func146
def X0j1:=fk func147
def X0j0:=fk func148
def X0iz:=fk func149
def X0iy:=fk func150
def X0ix:=fk func151
def X0fb:=fk func152
def X0iw:=fk func153
def Xmh:=fk func154
def X0iv:=fk func155
def X0iu:=fk func170
def X0it:=fk func171
def X0is:=fk func172
def X0fa:=fk func173
def X0ir:=fk func174
def X0iq:=fk func175
def X0f9:=fk func176
def X069:=fk func178
def X0ip:=fk func184
def X0f8:=fk func201
instance X03g:PZ 24 (∀ (a0:(List X4)) (r:Bool),X9s a0=some r->Pz 24 [(Lf (a0.map X0))] (aB r)):=⟨λa0 r=>by
 unfold X9s;exact psI fn24 6 λe=>oj e▸X8 [.el (aI .i64 (a0.length:Int))] (k:=fi)⟩
instance X03a:PZ 14 (∀ (a0:Xb) (r:Bool),X9q a0=some r->Pz 14 [(Xc false a0)] (aB r)):=⟨λa0 r=>by
 unfold X9q;refine psI fn14 17<|bI λj7_2 h14=>rnI [.stop 1] ?_;exact jnI ⟨fr [(2,(aB j7_2))],hp ([]),0⟩ h14 (λe=>oj e▸X8 [] (k:=fi)) λJ=>bI λv8 h9=>brI (λh10=>λe=>X8 [.pure _ (aB v8),Gf,Gf,Gf,Gf,Gf,Gf,Gf] (o:=by repeat' first|apply Ya|exact pcM|exact fq (X02h h10 rfl)|exact X24) (k:=wJ [] J)) λh10=>bI λv11 h12=>brI (λh13=>λe=>X8 [.pure _ (aB v8),Gt,Gt,Gt,.pure _ (aB v11),Gf,Gf,Gf,Gf] (o:=by repeat' first|apply Ya|exact pcM|exact fq (Xrc h10 h13)|exact X24) (k:=wJ [] J)) λh13=>λe=>X8 [.pure _ (aB v8),Gt,Gt,Gt,.pure _ (aB v11),Gt,Gt,Gt,.el (aI .i64 (a0.Sources.length:Int)),Gt] (o:=by repeat' first|apply Ya|exact pcM|exact fq (Xrc h10 h13)|exact X24) (k:=wJ [] J)⟩
instance X03h:PZ 130 (∀ (a0:Int) (r:Int),X1e a0=some r->Pz 130 [(aI .u8 a0)] (aI .i64 r)):=⟨λa0 r=>by
 unfold X1e;exact psI X0jc 7<|brI (λh1=>λe=>oj e▸X8 [Bt] (k:=fi)) λh1=>brI (λh2=>λe=>oj e▸X8 [Bf,Bt] (k:=fi)) λh2=>λe=>oj e▸X8 [Bf,Bf] (k:=fi)⟩
instance X03e:PZ 131 (∀ (a0:X4) (a1:Int) (a2:Int) (r:Bool),X62 a0 a1 a2=some r->Pz 131 [(X0 a0),(aI .i64 a1),(aI .i64 a2)] (aB r)):=⟨λa0 a1 a2 r=>by
 unfold X62;exact psI X0jb 52 λe=>oj e▸X8 [] (k:=fi)⟩
theorem Xgt {Q:Qt} {μ:Mu} (X0g:(List X4)) (hl:X0g.length<=140737488355328):∀ (xs:List X4) (k:Nat) (hx:X0g.drop k=xs) (Xd:(List Int)) (Xe:(List Int)) (X0j:Nb Xd) (Xp:Nb Xe) (o:X4f) (h:X17 X0g xs k Xd Xe=some o)
  (C0:∀ (Xo:(List Int)) (X00:(List Int)) (X02:Nb Xo) (X07:Nb X00),o=X4f.x0 Xo X00->Sx 102 Q [(0,(Lf (X0g.map X0))),(5,(slE X02.1 0 (List.map (aI .i64) Xo))),(6,(slE X07.1 1 (List.map (aI .i64) X00)))] ([]++opE X02.1 0 1 (List.map (aI .i64) Xo)++opE X07.1 1 1 (List.map (aI .i64) X00)) 2 μ)
  (C1:∀ (Xy:(List Int)) (X32:(List Int)) (Xx:Nb Xy) (X5f:Nb X32),o=X4f.x1 Xy X32->Sr 102 Q [(2,(slE Xx.1 0 (List.map (aI .i64) Xy))),(3,(slE X5f.1 1 (List.map (aI .i64) X32))),(4,(aB false))] ([]++opE Xx.1 0 1 (List.map (aI .i64) Xy)++opE X5f.1 1 1 (List.map (aI .i64) X32)) 2 μ),
  Sl 102 Q f82 [(0,(Lf (X0g.map X0))),(5,(slE X0j.1 0 (List.map (aI .i64) Xd))),(6,(slE Xp.1 1 (List.map (aI .i64) Xe))),(7,(aI .i64 (k:Int)))] ([]++opE X0j.1 0 1 (List.map (aI .i64) Xd)++opE Xp.1 1 1 (List.map (aI .i64) Xe)) 2 μ:=by
 intro xs
 induction xs with
 |nil =>
  intro k hx Xd Xe X0j Xp o h C0 C1;have hk:=drop_nil hx;have hc:=lpN hx;rw[X17] at h;rcases X0j with ⟨_|_,X2s⟩
  ·
   rcases Xp with ⟨_|_,X06⟩
   ·
    refine X7.round ?_;revert h;exact λe=>X8 [.el (aI .i64 (X0g.length:Int)),Bf] (k:=wkT [] (C0 _ _  nbF nbF (oj e).symm))
   obtain rfl:=X06 rfl;refine X7.round ?_;revert h;exact λe=>X8 [.el (aI .i64 (X0g.length:Int)),Bf] (k:=wkT [] (C0 _ _  nbF nbS (oj e).symm))
  ·
   obtain rfl:=X2s rfl;rcases Xp with ⟨_|_,X06⟩
   ·
    refine X7.round ?_;revert h;exact λe=>X8 [.el (aI .i64 (X0g.length:Int)),Bf] (k:=wkT [] (C0 _ _  nbS nbF (oj e).symm))
   ·
    obtain rfl:=X06 rfl;refine X7.round ?_;revert h;exact λe=>X8 [.el (aI .i64 (X0g.length:Int)),Bf] (k:=wkT [] (C0 _ _  nbS nbS (oj e).symm))
 |cons x xs ih =>
  intro k hx Xd Xe X0j Xp o h C0 C1;obtain⟨hk,hg,hx1⟩:=drop_cons hx;have hc:=lpC hx;rw[X17] at h;rcases X0j with ⟨_|_,X2s⟩
  ·
   rcases Xp with ⟨_|_,X06⟩
   ·
    refine X7.round ?_;revert h;refine bI λv156 h157=>brI (λh158=>?_) λh158=>?_
    ·
     refine brI (λh159=>λe=>X8 [.el (aI .i64 (X0g.length:Int)),Bt,.el (X0 x),.pure _ (aI .i64 v156),Bt,.wrap,Bt] (k:=wkT [] (C1 _ _  nbS nbS (oj e).symm))) λh159=>bI λe160 h161=>?_;try have qh161:=Xq h161
     refine bI λe162 h163=>?_;try have qh163:=Xq h163
     refine rnI [.el (aI .i64 (X0g.length:Int)),Bt,.el (X0 x),.pure _ (aI .i64 v156),Bt,.wrap,Bf,.el (aI .i64 e160),.ld (aI .i64 e160),.wrap,.el (aI .i64 e160),.ld (aI .i64 e160),.wrap,.el (aI .i64 e162),.ld (aI .i64 e162),.wrap] ?_;refine brI (λh164=>?_) λh164=>?_
     ·
      refine brI (λh165=>λe=>X8 [Bt,Bt] (k:=wkT [] (C1 _ _  nbS nbS (oj e).symm))) λh165=>bI λe166 h167=>?_;try have qh167:=Xq h167
      refine bI λe168 h169=>?_;try have qh169:=Xq h169
      refine bI λv170 h171=>rnI [Bt,Bf,.el (aI .i64 e166),.ld (aI .i64 e166),.wrap,.el (aI .i64 e168),.ld (aI .i64 e168),.wrap,.el (X0 x),.pure _ (aB v170)] ?_;refine brI (λh172=>λe=>X8 [Bt] (k:=wkT [] (C1 _ _  nbS nbS (oj e).symm))) λh172=>bI λu173 h174=>bI λu175 h176=>rnI [Bf,.no,.no] (o:=by repeat' first|apply Ya|exact pcM|(refine X1r h174 rfl ?_;first|(simp<;>omega)|(simp[hc,h158,h159,h164,h165,h172]<;>omega))|(refine X0p h174 (by decide) ?_;first|(simp<;>omega)|(simp[hc,h158,h159,h164,h165,h172]<;>omega))|(refine X1r h176 rfl ?_;first|(simp<;>omega)|(simp[hc,h158,h159,h164,h165,h172]<;>omega))|(refine X0p h176 (by decide) ?_;first|(simp<;>omega)|(simp[hc,h158,h159,h164,h165,h172]<;>omega))|exact X24) ?_;intro h;exact wkT [(0,3),(1,5)] (ih (k+1) hx1 _ _ nbF nbF o h C0 C1)
     refine bI λv177 h178=>brI (λh179=>λe=>X8 [Bf,.el (X0 x),.pure _ (aB v177),Bt] (k:=wkT [] (C1 _ _  nbS nbS (oj e).symm))) λh179=>bI λu180 h181=>bI λu182 h183=>rnI [Bf,.el (X0 x),.pure _ (aB v177),Bf,.no,.no] (o:=by repeat' first|apply Ya|exact pcM|(refine X1r h181 rfl ?_;first|(simp<;>omega)|(simp[hc,h158,h159,h164,h179]<;>omega))|(refine X0p h181 (by decide) ?_;first|(simp<;>omega)|(simp[hc,h158,h159,h164,h179]<;>omega))|(refine X1r h183 rfl ?_;first|(simp<;>omega)|(simp[hc,h158,h159,h164,h179]<;>omega))|(refine X0p h183 (by decide) ?_;first|(simp<;>omega)|(simp[hc,h158,h159,h164,h179]<;>omega))|exact X24) ?_;intro h;exact wkT [(0,3),(1,5)] (ih (k+1) hx1 _ _ nbF nbF o h C0 C1)
    refine bI λv184 h185=>brI (λh186=>λe=>X8 [.el (aI .i64 (X0g.length:Int)),Bt,.el (X0 x),.pure _ (aI .i64 v156),Bf,.el (X0 x),.pure _ (aB v184),Bt] (k:=wkT [] (C1 _ _  nbS nbS (oj e).symm))) λh186=>bI λu187 h188=>bI λu189 h190=>rnI [.el (aI .i64 (X0g.length:Int)),Bt,.el (X0 x),.pure _ (aI .i64 v156),Bf,.el (X0 x),.pure _ (aB v184),Bf,.no,.no] (o:=by repeat' first|apply Ya|exact pcM|(refine X1r h188 rfl ?_;first|(simp<;>omega)|(simp[hc,h158,h186]<;>omega))|(refine X0p h188 (by decide) ?_;first|(simp<;>omega)|(simp[hc,h158,h186]<;>omega))|(refine X1r h190 rfl ?_;first|(simp<;>omega)|(simp[hc,h158,h186]<;>omega))|(refine X0p h190 (by decide) ?_;first|(simp<;>omega)|(simp[hc,h158,h186]<;>omega))|exact X24) ?_;intro h;exact wkT [(0,3),(1,5)] (ih (k+1) hx1 _ _ nbF nbF o h C0 C1)
   obtain rfl:=X06 rfl;refine X7.round ?_;revert h;refine bI λv191 h192=>brI (λh193=>?_) λh193=>?_
   ·
    refine brI (λh194=>λe=>X8 [.el (aI .i64 (X0g.length:Int)),Bt,.el (X0 x),.pure _ (aI .i64 v191),Bt,.wrap,Bt] (k:=wkT [] (C1 _ _  nbS nbS (oj e).symm))) λh194=>bI λe195 h196=>?_;try have qh196:=Xq h196
    refine bI λe197 h198=>?_;try have qh198:=Xq h198
    intro h
    first|exact absurd (h198) (by simp[getI];done)|(simp[getI,hc,h193,h194] at h;done)|(simp[hc,h193,h194] at hg;done)|exact absurd (h198) (by simp[getI,hc,h193,h194];done)
   refine bI λv199 h200=>brI (λh201=>λe=>X8 [.el (aI .i64 (X0g.length:Int)),Bt,.el (X0 x),.pure _ (aI .i64 v191),Bf,.el (X0 x),.pure _ (aB v199),Bt] (k:=wkT [] (C1 _ _  nbS nbS (oj e).symm))) λh201=>bI λu202 h203=>bI λu204 h205=>rnI [.el (aI .i64 (X0g.length:Int)),Bt,.el (X0 x),.pure _ (aI .i64 v191),Bf,.el (X0 x),.pure _ (aB v199),Bf,.no,.no] (o:=by repeat' first|apply Ya|exact pcM|(refine X1r h203 rfl ?_;first|(simp<;>omega)|(simp[hc,h193,h201]<;>omega))|(refine X0p h203 (by decide) ?_;first|(simp<;>omega)|(simp[hc,h193,h201]<;>omega))|(refine X1r h205 rfl ?_;first|(simp<;>omega)|(simp[hc,h193,h201]<;>omega))|(refine X0p h205 (by decide) ?_;first|(simp<;>omega)|(simp[hc,h193,h201]<;>omega))|exact X24) ?_;intro h;exact wkT [(0,3),(1,5)] (ih (k+1) hx1 _ _ nbF nbF o h C0 C1)
  obtain rfl:=X2s rfl;rcases Xp with ⟨_|_,X06⟩<;>(try obtain rfl:=X06 rfl);all_goals
   refine X7.round ?_;revert h;refine bI λv206 h207=>brI (λh208=>?_) λh208=>?_
   ·
    refine brI (λh209=>λe=>X8 [.el (aI .i64 (X0g.length:Int)),Bt,.el (X0 x),.pure _ (aI .i64 v206),Bt,.wrap,Bt] (k:=wkT [] (C1 _ _  nbS nbS (oj e).symm))) λh209=>bI λe210 h211=>?_;try have qh211:=Xq h211
    intro h
    first|exact absurd (h211) (by simp[getI];done)|(simp[getI,hc,h208,h209] at h;done)|(simp[hc,h208,h209] at hg;done)|exact absurd (h211) (by simp[getI,hc,h208,h209];done)
   refine bI λv212 h213=>brI (λh214=>λe=>X8 [.el (aI .i64 (X0g.length:Int)),Bt,.el (X0 x),.pure _ (aI .i64 v206),Bf,.el (X0 x),.pure _ (aB v212),Bt] (k:=wkT [] (C1 _ _  nbS nbS (oj e).symm))) λh214=>bI λu215 h216=>bI λu217 h218=>rnI [.el (aI .i64 (X0g.length:Int)),Bt,.el (X0 x),.pure _ (aI .i64 v206),Bf,.el (X0 x),.pure _ (aB v212),Bf,.no,.no] (o:=by repeat' first|apply Ya|exact pcM|(refine X1r h216 rfl ?_;first|(simp<;>omega)|(simp[hc,h208,h214]<;>omega))|(refine X0p h216 (by decide) ?_;first|(simp<;>omega)|(simp[hc,h208,h214]<;>omega))|(refine X1r h218 rfl ?_;first|(simp<;>omega)|(simp[hc,h208,h214]<;>omega))|(refine X0p h218 (by decide) ?_;first|(simp<;>omega)|(simp[hc,h208,h214]<;>omega))|exact X24) ?_;intro h;exact wkT [(0,3),(1,5)] (ih (k+1) hx1 _ _ nbF nbF o h C0 C1)
instance X03f:PZ 82 (∀ (a0:(List X4)) (r:(List Int)×(List Int)×Bool),Xbz a0=some r->Pz 82 [(Lf (a0.map X0))] (AV.tup [(Lt (List.map (aI .i64) r.1)),(Lt (List.map (aI .i64) r.2.1)),(aB r.2.2)])):=⟨λa0 r=>by
 unfold Xbz;refine psI fn82 102<|bI λu1 h2=>?_;have qh2:=X0e h2;refine bI λo232 h233=>rnI [] ?_;intro h;refine wkT [] (X7.cut (Xgt a0 qh2 a0 0 (by simp) _ _ nbS nbS _ h233 ?_ ?_))
 ·
  intro Xo X00 X02 X07 eo232;subst eo232;refine X7.glue ?_;try dsimp only at h
  rcases X02 with ⟨_|_,X1p⟩
  ·
   rcases X07 with ⟨_|_,X29⟩
   ·
    revert h;refine bI λX00l h241=>rnI [.stop 25] ?_;refine jnI ⟨fr [(2,(AV.ref 0 0 (Xo.length))),(3,(AV.ref 1 0 (X00.length))),(4,(aB X00l))],hp ([(0,Ob (List.map (aI .i64) Xo) 1),(1,Ob (List.map (aI .i64) X00) 1)]),2⟩ h241 (λe=>oj e▸X8 [] (k:=fi)) λJ=>?_;refine brI (λh238=>?_) λh238=>λe=>X8 [.el (aI .i64 (a0.length:Int)),Gf,Gf,Gf,Gf,Gf,Gf,Gf,Gf,Gf,Gf] (k:=wJ [] J);refine bI λe239 h240=>?_;try have qh240:=Xq h240
    exact λe=>X8 [.el (aI .i64 (a0.length:Int)),Gt,Gt,Gt,.el (aI .i64 (a0.length:Int)),Gt,.wrap,Gt,.el (aI .i64 e239),Gt,.ld (aI .i64 e239),Gt,Gt,.el (aI .i64 (a0.length:Int)),Gt] (k:=wJ [] J)
   obtain rfl:=X29 rfl;revert h;refine bI λX0es h249=>rnI [.stop 25] ?_;refine jnI ⟨fr [(2,(AV.ref 0 0 (Xo.length))),(3,AV.nils),(4,(aB X0es))],hp ([(0,Ob (List.map (aI .i64) Xo) 1)]),2⟩ h249 (λe=>oj e▸X8 [] (k:=fi)) λJ=>?_;refine brI (λh246=>?_) λh246=>λe=>X8 [.el (aI .i64 (a0.length:Int)),Gf,Gf,Gf,Gf,Gf,Gf,Gf,Gf,Gf,Gf] (k:=wJ [] J);refine bI λe247 h248=>?_;try have qh248:=Xq h248
   exact λe=>X8 [.el (aI .i64 (a0.length:Int)),Gt,Gt,Gt,.el (aI .i64 (a0.length:Int)),Gt,.wrap,Gt,.el (aI .i64 e247),Gt,.ld (aI .i64 e247),Gt,Gt,.el (aI .i64 (a0.length:Int)),Gt] (k:=wJ [] J)
  obtain rfl:=X1p rfl;rcases X07 with ⟨_|_,X29⟩
  ·
   revert h;refine bI λX0er h257=>rnI [.stop 25] ?_;refine jnI ⟨fr [(2,AV.nils),(3,(AV.ref 1 0 (X00.length))),(4,(aB X0er))],hp ([(1,Ob (List.map (aI .i64) X00) 1)]),2⟩ h257 (λe=>oj e▸X8 [] (k:=fi)) λJ=>?_;refine brI (λh254=>?_) λh254=>λe=>X8 [.el (aI .i64 (a0.length:Int)),Gf,Gf,Gf,Gf,Gf,Gf,Gf,Gf,Gf,Gf] (k:=wJ [] J);refine bI λe255 h256=>?_;try have qh256:=Xq h256
   intro h
   first|exact absurd (h256) (by simp[getI];done)|(simp[getI,h254] at h;done)|(simp[h254] at hg;done)|exact absurd (h256) (by simp[getI,h254];done)
  obtain rfl:=X29 rfl;revert h;refine bI λX0eq h265=>rnI [.stop 25] ?_;refine jnI ⟨fr [(2,AV.nils),(3,AV.nils),(4,(aB X0eq))],hp ([]),2⟩ h265 (λe=>oj e▸X8 [] (k:=fi)) λJ=>?_;refine brI (λh262=>?_) λh262=>λe=>X8 [.el (aI .i64 (a0.length:Int)),Gf,Gf,Gf,Gf,Gf,Gf,Gf,Gf,Gf,Gf] (k:=wJ [] J);refine bI λe263 h264=>?_;try have qh264:=Xq h264
  intro h
  first|exact absurd (h264) (by simp[getI];done)|(simp[getI,h262] at h;done)|(simp[h262] at hg;done)|exact absurd (h264) (by simp[getI,h262];done)
 intro Xy X32 Xx X5f eo232;subst eo232;refine X7.glue ?_;try dsimp only at h
 rcases Xx with ⟨_|_,X1o⟩<;>(try obtain rfl:=X1o rfl);all_goals
  rcases X5f with ⟨_|_,Xh5⟩<;>(try obtain rfl:=Xh5 rfl);all_goals
   revert h;exact λe=>oj e▸X8 [] (k:=fi)⟩
instance X03i:PZ 48 (∀ (a0:(List X4)) (r:Int),X47 a0=some r->Pz 48 [(Lf (a0.map X0))] (aI .i64 r)):=⟨λa0 r=>by
 unfold X47;refine psI fn48 24<|brI (λh1=>λe=>oj e▸X8 [.el (aI .i64 (a0.length:Int)),Bt] (k:=fi)) λh1=>bI λv2 h3=>rnI [.el (aI .i64 (a0.length:Int)),Bf,.pure _ (AV.tup [(Lt (List.map (aI .i64) v2.1)),(Lt (List.map (aI .i64) v2.2.1)),(aB v2.2.2)])] ?_;refine brI (λh4=>λe=>oj e▸X8 [Bt] (k:=fi)) λh4=>bI λe5 h6=>?_;try have qh6:=Xq h6
 exact brI (λh7=>λe=>oj e▸X8 [Bf,.el (aI .i64 (a0.length:Int)),.wrap,.el (aI .i64 e5),Bt] (k:=fi)) λh7=>λe=>oj e▸X8 [Bf,.el (aI .i64 (a0.length:Int)),.wrap,.el (aI .i64 e5),Bf] (k:=fi)⟩
theorem Xeu {Q:Qt} {μ:Mu} (X0g:(List Int)) (hl:X0g.length<=140737488355328):Dr X0g λxs k=>∀ o,Lq Tryz.prog 60 0 Q μ o (fun|.x0=>(.exit 0,⟨fr [(0,(Lf (List.map (aI .i64) X0g)))],hp ([]),0⟩)|.x1=>(.ret,⟨fr [(4,(aI .i64 8))],hp ([]),0⟩))
  (X64 0 (X1l Tryz.f49)) ⟨fr [(0,(Lf (List.map (aI .i64) X0g))),(5,(aI .i64 (k:Int)))],hp ([]),0⟩ (X2m X0g xs k):=by
 refine drI ?_ ?_
 ·
  intro k hk hc o C;rw[X2m];exact rdI<|λe=>X8 [.el (aI .i64 (X0g.length:Int)),Bf] (k:=wC e C)
 ·
  intro x xs k hk hg hc ih o C;rw[X2m];refine rdI<|bI λX00q h19=>rnI [.el (aI .i64 (X0g.length:Int)),Bt,.stop 8] ?_;exact jnI ⟨fr [(0,(Lf (List.map (aI .i64) X0g))),(5,(aI .i64 (k:Int))),(39,(aB X00q))],hp ([]),0⟩ h19 (brI (λh20=>λe=>X8 [Bt] (k:=wC e C)) λh20=>rnK [Bf] (k:=wkI [] (ih o C))) λJ=>brI (λh18=>λe=>X8 [.el (aI .i64 x),Gf,Gf,Gf,Gf,Gf] (k:=wJ [] J)) λh18=>λe=>X8 [.el (aI .i64 x),Gt,Gt,Gt,.el (aI .i64 x),Gt,Gt] (k:=wJ [] J)
theorem Xes {Q:Qt} {μ:Mu} (y2_0:(List Int)) (y2_6:Int):∀ (n:Nat) (y2_7:Int) o,Lq Tryz.prog 60 0 Q μ o (fun|.x0=>(.ret,⟨fr [(4,(aI .i64 43))],hp ([]),0⟩)|.x1=>(.exit 4,⟨fr [(0,(Lf (List.map (aI .i64) y2_0))),(6,(aI .i64 y2_6))],hp ([]),0⟩))
  (X64 2 (X1l Tryz.f49)) ⟨fr [(0,(Lf (List.map (aI .i64) y2_0))),(6,(aI .i64 y2_6)),(7,(aI .i64 y2_7))],hp ([]),0⟩ (X2l y2_0 y2_6 n y2_7):=by
 intro n
 induction n with
 |zero=>intro y2_7 o C h;cases h
 |succ n ih =>
  intro y2_7 o C;rw[X2l];refine rdI<|brI (λh79=>?_) λh79=>λe=>X8 [Bf] (k:=wC e C);refine bI λe80 h81=>?_;try have qh81:=Xq h81
  refine bI λe82 h83=>?_;try have qh83:=Xq h83
  exact brI (λh84=>λe=>X8 [Bt,.el (aI .i64 e80),.el (aI .i64 e82),Bt] (k:=wC e C)) λh84=>rnK [Bt,.el (aI .i64 e80),.el (aI .i64 e82),Bf,.wrap] (k:=wkI [] (ih  _ o C))
theorem Xet {Q:Qt} {μ:Mu} (y1_0:(List Int)) (hl:y1_0.length<=140737488355328):Dr y1_0 λxs k=>∀ o,Lq Tryz.prog 60 0 Q μ o (fun|.x0=>(.exit 2,⟨fr [],hp ([]),0⟩)|.x1=>(.ret,⟨fr [(4,(aI .i64 43))],hp ([]),0⟩))
  (X64 1 (X1l Tryz.f49)) ⟨fr [(0,(Lf (List.map (aI .i64) y1_0))),(6,(aI .i64 (k:Int)))],hp ([]),0⟩ (X21 y1_0 xs k):=by
 refine drI ?_ ?_
 ·
  intro k hk hc o C;rw[X21];exact rdI<|λe=>X8 [.el (aI .i64 (y1_0.length:Int)),Bf] (k:=wC e C)
 ·
  intro x xs k hk hg hc ih o C;rw[X21];refine rdI<|bI λo85 h86=>rnI [.el (aI .i64 (y1_0.length:Int)),Bt] ?_;intro h;refine wkT [] (X7.cut (Xes y1_0 (k:Int) _ _ _ ?_ h86));revert h;rcases o85 with _|_
  ·
   exact lGI rfl λe=>X8 [] (k:=wC e C)
  exact lGI rfl<|rnK [] (k:=wkI [] (ih o C))
instance Xy7:PZ 49 (∀ (a0:(List Int)) (a1:Bool) (r:Int),X6k a0 a1=some r->Pz 49 [(Lf (List.map (aI .i64) a0)),(aB a1)] (aI .i64 r)):=⟨λa0 a1 r=>by
 unfold X6k;refine psI fn49 60<|brI (λh1=>λe=>oj e▸X8 [.el (aI .i64 (a0.length:Int)),Bt] (k:=fi)) λh1=>brI (λh2=>λe=>oj e▸X8 [.el (aI .i64 (a0.length:Int)),Bf,.el (aI .i64 (a0.length:Int)),.el (aI .i64 (a0.length:Int)),Bt] (k:=fi)) λh2=>bI λu3 h4=>?_;have qh4:=X0e h4;refine bI λo21 h22=>rnI [.el (aI .i64 (a0.length:Int)),Bf,.el (aI .i64 (a0.length:Int)),.el (aI .i64 (a0.length:Int)),Bf] ?_;intro h;refine wkT [] (X7.cut (drA (Xeu a0 qh4) _ ?_ h22));revert h;rcases o21 with _|_
 ·
  refine lGI rfl<|bI λo87 h88=>rnI [] ?_;intro h;refine wkT [] (X7.cut (drA (Xet a0 qh4) _ ?_ h88));revert h;rcases o87 with _|_
  ·
   exact lGI rfl λe=>oj e▸X8 [] (k:=fi)
  exact lGI rfl λe=>oj e▸X8 [] (k:=fi)
 exact lGI rfl λe=>oj e▸X8 [] (k:=fi)⟩
instance X04k:PZ 50 (∀ (a0:Xn) (r:Bool),X7i a0=some r->Pz 50 [(X39 a0)] (aB r)):=⟨λa0 r=>by
 unfold X7i;exact psI fn50 45<|brI (λh1=>λe=>oj e▸X8 [Bt] (k:=fi)) λh1=>brI (λh2=>λe=>oj e▸X8 [Bf,Bt,.wrap] (k:=fi)) λh2=>λe=>oj e▸X8 [Bf,Bf] (k:=fi)⟩
instance X03b:PZ 25 (∀ (a0:Xb) (r:Int),X9r a0=some r->Pz 25 [(Xc false a0)] (aI .i64 r)):=⟨λa0 r=>by
 unfold X9r;refine psI fn25 80<|brI (λh1=>λe=>oj e▸X8 [Bt] (k:=fi)) λh1=>brI (λh2=>λe=>oj e▸X8 [Bf,.el (aI .i64 (a0.Arg.length:Int)),Bt] (k:=fi)) λh2=>bI λX0af h10=>rnI [Bf,.el (aI .i64 (a0.Arg.length:Int)),Bf,.stop 5] ?_;refine jnI ⟨fr [(1,(AV.ptr 0 0 0)),(38,(aB X0af))],hp ([(0,Ob [(Xc false a0)] 10)]),1⟩ h10 ?_ λJ=>brI (λh7=>bI λv8 h9=>λe=>X8 [Gt,Gt,Gt,.pure _ (aI .i64 v8),Gt] (k:=wJ [] J)) λh7=>λe=>X8 [Gf,Gf,Gf,Gf] (k:=wJ [] J);refine brI (λh11=>bI λv12 h13=>λe=>oj e▸X8 [Bt,.pure _ (aI .i64 v12)] (k:=fi)) λh11=>bI λX00p h21=>rnI [Bf,.stop 7] ?_;exact jnI ⟨fr [(1,(AV.ptr 0 0 0)),(51,(aB X00p))],hp ([(0,Ob [(Xc false a0)] 10)]),1⟩ h21 (brI (λh22=>bI λv23 h24=>λe=>oj e▸X8 [Bt,.pure _ (aI .i64 v23)] (k:=fi)) λh22=>bI λv25 h26=>brI (λh27=>λe=>oj e▸X8 [Bf,.pure _ (aI .i64 v25),Bt,.pure _ (aI .i64 v25)] (k:=fi)) λh27=>bI λv28 h29=>brI (λh30=>λe=>oj e▸X8 [Bf,.pure _ (aI .i64 v25),Bf,.pure _ (aB v28),Bt] (k:=fi)) λh30=>λe=>oj e▸X8 [Bf,.pure _ (aI .i64 v25),Bf,.pure _ (aB v28),Bf] (k:=fi)) λJ=>brI (λh18=>bI λv19 h20=>λe=>X8 [.el (aI .i64 (a0.Where.length:Int)),Gt,Gt,Gt,.pure _ (aI .i64 v19),Gt] (k:=wJ [] J)) λh18=>λe=>X8 [.el (aI .i64 (a0.Where.length:Int)),Gf,Gf,Gf,Gf] (k:=wJ [] J)⟩
instance X03d:PZ 133 (∀ (a0:Int) (r:Bool),X7k a0=some r->Pz 133 [(aI .u8 a0)] (aB r)):=⟨λa0 r=>by
 unfold X7k;exact psI X0j9 9 λe=>oj e▸X8 [] (k:=fi)⟩
instance X04l:PZ 170 (∀ (a0:(List X4)) (a1:Int) (r:Bool),Xb7 a0 a1=some r->Pz 170 [(Lf (a0.map X0)),(aI .i64 a1)] (aB r)):=⟨λa0 a1 r=>by
 unfold Xb7;refine psI X0iu 67<|bI λe1 h2=>?_;try have qh2:=Xq h2
 refine bI λe3 h4=>?_;try have qh4:=Xq h4
 refine bI λv5 h6=>bI λe7 h8=>?_;try have qh8:=Xq h8
 exact bI λv9 h10=>brI (λh11=>λe=>oj e▸X8 [.el (X0 e1),.el (X0 e3),.pure _ (aB v5),.el (X0 e7),.pure _ (aB v9),Bt] (k:=fi)) λh11=>brI (λh12=>λe=>oj e▸X8 [.el (X0 e1),.el (X0 e3),.pure _ (aB v5),.el (X0 e7),.pure _ (aB v9),Bf,Bt] (k:=fi)) λh12=>brI (λh13=>λe=>oj e▸X8 [.el (X0 e1),.el (X0 e3),.pure _ (aB v5),.el (X0 e7),.pure _ (aB v9),Bf,Bf,Bt] (k:=fi)) λh13=>brI (λh14=>λe=>oj e▸X8 [.el (X0 e1),.el (X0 e3),.pure _ (aB v5),.el (X0 e7),.pure _ (aB v9),Bf,Bf,Bf,Bt] (k:=fi)) λh14=>brI (λh15=>λe=>oj e▸X8 [.el (X0 e1),.el (X0 e3),.pure _ (aB v5),.el (X0 e7),.pure _ (aB v9),Bf,Bf,Bf,Bf,Bt] (k:=fi)) λh15=>λe=>oj e▸X8 [.el (X0 e1),.el (X0 e3),.pure _ (aB v5),.el (X0 e7),.pure _ (aB v9),Bf,Bf,Bf,Bf,Bf] (k:=fi)⟩
theorem Xgs {Q:Qt} {μ:Mu} (X0g:(List X4)) (hl:X0g.length<=140737488355328):Dr X0g λxs k=>∀ o,Lq Tryz.prog 17 0 Q μ o (fun|.x0=>(.exit 0,⟨fr [(0,(Lf (X0g.map X0)))],hp ([]),0⟩)|.x1 X4z=>(.ret,⟨fr [(2,(aI .i64 X4z))],hp ([]),0⟩))
  (X64 0 (X1l Tryz.f132)) ⟨fr [(0,(Lf (X0g.map X0))),(3,(aI .i64 (k:Int)))],hp ([]),0⟩ (X3p X0g xs k):=by
 refine drI ?_ ?_
 ·
  intro k hk hc o C;rw[X3p];exact rdI<|λe=>X8 [.el (aI .i64 (X0g.length:Int)),Bf] (k:=wC e C)
 ·
  intro x xs k hk hg hc ih o C;rw[X3p];exact rdI<|bI λv10 h11=>brI (λh12=>λe=>X8 [.el (aI .i64 (X0g.length:Int)),Bt,.pure _ (aB v10),Bt] (k:=wC e C)) λh12=>rnK [.el (aI .i64 (X0g.length:Int)),Bt,.pure _ (aB v10),Bf] (k:=wkI [] (ih o C))
instance X03c:PZ 132 (∀ (a0:(List X4)) (r:Int),Xby a0=some r->Pz 132 [(Lf (a0.map X0))] (aI .i64 r)):=⟨λa0 r=>by
 unfold Xby;refine psI X0ja 17<|bI λu1 h2=>?_;have qh2:=X0e h2;refine bI λo13 h14=>rnI [] ?_;intro h;refine wkT [] (X7.cut (drA (Xgs a0 qh2) _ ?_ h14));revert h;rcases o13 with _|⟨X4z⟩
 ·
  exact lGI rfl λe=>oj e▸X8 [.el (aI .i64 (a0.length:Int))] (k:=fi)
 exact lGI rfl λe=>oj e▸X8 [] (k:=fi)⟩
instance X09p:PZ 83 (∀ (a0:(List X4)) (r:Bool×Int×Int),Xfp a0=some r->Pz 83 [(Lf (a0.map X0))] (AV.tup [(aB r.1),(aI .i64 r.2.1),(aI .i64 r.2.2)])):=⟨λa0 r=>by
 unfold Xfp;refine psI fn83 29<|bI λv1 h2=>brI (λh3=>λe=>oj e▸X8 [.pure _ (aI .i64 v1),Bt,.pure _ (aI .i64 v1)] (k:=fi)) λh3=>bI λv4 h5=>brI (λh6=>λe=>oj e▸X8 [.pure _ (aI .i64 v1),Bf,.pure _ (aI .i64 v4),.el (aI .i64 (a0.length:Int)),Bt] (k:=fi)) λh6=>bI λe7 h8=>?_;try have qh8:=Xq h8
 exact bI λv9 h10=>λe=>oj e▸X8 [.pure _ (aI .i64 v1),Bf,.pure _ (aI .i64 v4),.el (aI .i64 (a0.length:Int)),Bf,.el (aI .i64 (a0.length:Int)),.wrap,.el (X0 e7),.pure _ (aB v9),.el (aI .i64 (a0.length:Int)),.wrap] (k:=fi)⟩
instance X04m:PZ 51 (∀ (a0:(List X4)) (a1:Bool) (r:Int×Int),X7j a0 a1=some r->Pz 51 [(Lf (a0.map X0)),(aB a1)] (AV.tup [(aI .i64 r.1),(aI .i64 r.2)])):=⟨λa0 a1 r=>by
 unfold X7j;exact psI fn51 25<|bI λv1 h2=>brI (λh3=>λe=>oj e▸X8 [.pure _ (AV.tup [(aB v1.1),(aI .i64 v1.2.1),(aI .i64 v1.2.2)]),Bt] (k:=fi)) λh3=>λe=>oj e▸X8 [.pure _ (AV.tup [(aB v1.1),(aI .i64 v1.2.1),(aI .i64 v1.2.2)]),Bf] (k:=fi)⟩
instance X038:PZ 26 (∀ (a0:Xb) (r:Int×Int),X9p a0=some r->Pz 26 [(Xc false a0)] (AV.tup [(aI .i64 r.1),(aI .i64 r.2)])):=⟨λa0 r=>by
 unfold X9p;refine psI fn26 46<|brI (λh1=>?_) λh1=>?_
 ·
  refine bI λv2 h3=>brI (λh4=>?_) λh4=>?_
  ·
   refine bI λe5 h6=>?_;try have qh6:=Xq h6
   exact λe=>oj e▸X8 [.el (aI .i64 (a0.Arg.length:Int)),Bt,.pure _ (AV.tup [(aI .i64 v2.1),(aI .i64 v2.2)]),Bt,.el (X0 e5)] (k:=fi)
  refine rnI [.el (aI .i64 (a0.Arg.length:Int)),Bt,.pure _ (AV.tup [(aI .i64 v2.1),(aI .i64 v2.2)]),Bf,.el (aI .i64 (a0.Where.length:Int))] ?_;refine brI (λh7=>?_) λh7=>λe=>oj e▸X8 [Bf] (k:=fi);refine bI λv8 h9=>brI (λh10=>?_) λh10=>λe=>oj e▸X8 [Bt,.pure _ (AV.tup [(aI .i64 v8.1),(aI .i64 v8.2)]),Bf] (k:=fi);refine bI λe11 h12=>?_;try have qh12:=Xq h12
  exact λe=>oj e▸X8 [Bt,.pure _ (AV.tup [(aI .i64 v8.1),(aI .i64 v8.2)]),Bt,.el (X0 e11)] (k:=fi)
 refine brI (λh13=>?_) λh13=>λe=>oj e▸X8 [.el (aI .i64 (a0.Arg.length:Int)),Bf,.el (aI .i64 (a0.Where.length:Int)),Bf] (k:=fi);refine bI λv14 h15=>rnI [.el (aI .i64 (a0.Arg.length:Int)),Bf,.el (aI .i64 (a0.Where.length:Int)),Bt,.pure _ (AV.tup [(aI .i64 v14.1),(aI .i64 v14.2)])] ?_;refine brI (λh16=>?_) λh16=>λe=>oj e▸X8 [Bf] (k:=fi);refine bI λe17 h18=>?_;try have qh18:=Xq h18
 exact λe=>oj e▸X8 [Bt,.el (X0 e17)] (k:=fi)⟩
instance X039:PZ 15 (∀ (a0:Xb) (r:Int×Int),X7h a0=some r->Pz 15 [(Xc false a0)] (AV.tup [(aI .i64 r.1),(aI .i64 r.2)])):=⟨λa0 r=>by
 unfold X7h;exact psI fn15 13<|bI λv1 h2=>brI (λh3=>λe=>oj e▸X8 [.pure _ (aI .i64 v1),Bt,.pure _ (aI .i64 v1)] (k:=fi)) λh3=>bI λv4 h5=>λe=>oj e▸X8 [.pure _ (aI .i64 v1),Bf,.pure _ (AV.tup [(aI .i64 v4.1),(aI .i64 v4.2)])] (k:=fi)⟩
instance X03s:PZ 5 (∀ (a0:Xb) (r:Bool),X37 a0=some r->Pz 5 [(Xc false a0)] (aB r)):=⟨λa0 r=>by
 unfold X37;exact psI fn5 14<|bI λv1 h2=>brI (λh3=>λe=>oj e▸X8 [.pure _ (aB v1),Bt] (k:=fi)) λh3=>bI λv4 h5=>λe=>oj e▸X8 [.pure _ (aB v1),Bf,.pure _ (AV.tup [(aI .i64 v4.1),(aI .i64 v4.2)])] (k:=fi)⟩
theorem Xgp {Q:Qt} {μ:Mu} (X0g:(List (List Xs))):∀ (n:Nat) (Xjq:Int) o,Lq Tryz.prog 31 0 Q μ o (fun|.x0=>(.ret,⟨fr [(2,(aB true))],hp ([]),0⟩)|.x1=>(.exit 0,⟨fr [(0,(Lf (List.map (X6t false Xg) X0g)))],hp ([]),0⟩))
  (X64 0 (X1l Tryz.f6)) ⟨fr [(0,(Lf (List.map (X6t false Xg) X0g))),(3,(aI .i64 Xjq))],hp ([]),0⟩ (X3n X0g n Xjq):=by
 intro n
 induction n with
 |zero=>intro Xjq o C h;cases h
 |succ n ih =>
  intro Xjq o C;rw[X3n];refine rdI<|brI (λh22=>?_) λh22=>λe=>X8 [.el (aI .i64 (X0g.length:Int)),Bf] (k:=wC e C);refine bI λX00i h30=>rnI [.el (aI .i64 (X0g.length:Int)),Bt,.stop 4] ?_;refine jnI ⟨fr [(0,(Lf (List.map (X6t false Xg) X0g))),(3,(aI .i64 Xjq)),(27,(aB X00i))],hp ([]),0⟩ h30 (brI (λh31=>λe=>X8 [Bt] (k:=wC e C)) λh31=>rnK [Bf,.wrap] (k:=wkI [] (ih  _ o C))) λJ=>?_;refine bI λe27 h28=>?_;try have qh28:=Xq h28
  exact brI (λh29=>λe=>X8 [.el (X6t false Xg e27),.el (aI .i64 (e27.length:Int)),Gt,Gt,Gt,.el (X6t false Xg e27),Gt,Gt,.el (aI .i64 (e27.length:Int)),Gt] (k:=wJ [] J)) λh29=>λe=>X8 [.el (X6t false Xg e27),.el (aI .i64 (e27.length:Int)),Gf,Gf,Gf,Gf,Gf,Gf] (k:=wJ [] J)
instance X033:PZ 6 (∀ (a0:(List (List Xs))) (r:Bool),X9l a0=some r->Pz 6 [(Lf (List.map (X6t false Xg) a0))] (aB r)):=⟨λa0 r=>by
 unfold X9l;refine psI fn6 31<|bI λo32 h33=>rnI [] ?_;intro h;refine wkT [] (X7.cut (Xgp a0 _ _ _ ?_ h33));revert h;rcases o32 with _|_
 ·
  exact lGI rfl λe=>oj e▸X8 [] (k:=fi)
 exact lGI rfl λe=>oj e▸X8 [.el (aI .i64 (a0.length:Int))] (k:=fi)⟩
instance X037:PZ 84 (∀ (a0:Int) (a1:Int) (r:Int),X7g a0 a1=some r->Pz 84 [(aI .i64 a0),(aI .i64 a1)] (aI .i64 r)):=⟨λa0 a1 r=>by
 unfold X7g;exact psI fn84 17<|brI (λh1=>λe=>oj e▸X8 [Bt] (k:=fi)) λh1=>brI (λh2=>λe=>oj e▸X8 [Bf,Bt] (k:=fi)) λh2=>λe=>oj e▸X8 [Bf,Bf] (k:=fi)⟩
instance X035:PZ 52 (∀ (a0:Xs) (r:Bool),X9n a0=some r->Pz 52 [(Xg a0)] (aB r)):=⟨λa0 r=>by
 unfold X9n;refine psI fn52 30<|brI (λh1=>?_) λh1=>?_
 ·
  refine bI λj6_2 h11=>rnI [Bt,.stop 2] ?_;exact jnI ⟨fr [(2,(aB j6_2))],hp ([]),0⟩ h11 (λe=>oj e▸X8 [] (k:=fi)) λJ=>brI (λh7=>brI (λh8=>λe=>X8 [Gt,Gt,Gt,Gt,Gf,Gf,Gf,Gf,Gt] (k:=wJ [] J)) λh8=>bI λv9 h10=>λe=>X8 [Gt,Gt,Gt,Gt,Gt,Gt,Gt,.pure _ (aI .i64 v9),Gt,Gt] (k:=wJ [] J)) λh7=>λe=>X8 [Gf,Gf,Gf,Gf,Gf,Gf,Gf,Gf,Gf] (k:=wJ [] J)
 refine bI λX0ap h19=>rnI [Bf,.stop 3] ?_;exact jnI ⟨fr [(2,(aB X0ap))],hp ([]),0⟩ h19 (λe=>oj e▸X8 [] (k:=fi)) λJ=>brI (λh16=>bI λv17 h18=>λe=>X8 [Gt,Gt,Gt,Gt,.pure _ (aI .i64 v17),Gt] (k:=wJ [] J)) λh16=>λe=>X8 [Gf,Gf,Gf,Gf,Gf] (k:=wJ [] J)⟩
theorem Xgq {Q:Qt} {μ:Mu} (X0g:(List Xs)) (hl:X0g.length<=140737488355328):Dr X0g λxs k=>∀ o,Lq Tryz.prog 19 0 Q μ o (fun|.x0=>(.exit 0,⟨fr [],hp ([]),0⟩)|.x1=>(.ret,⟨fr [(2,(aI .i64 8))],hp ([]),0⟩))
  (X64 0 (X1l Tryz.f27)) ⟨fr [(0,(Lf (X0g.map Xg))),(3,(aI .i64 (k:Int)))],hp ([]),0⟩ (X3o X0g xs k):=by
 refine drI ?_ ?_
 ·
  intro k hk hc o C;rw[X3o];exact rdI<|λe=>X8 [.el (aI .i64 (X0g.length:Int)),Bf] (k:=wC e C)
 ·
  intro x xs k hk hg hc ih o C;rw[X3o];exact rdI<|bI λv11 h12=>brI (λh13=>λe=>X8 [.el (aI .i64 (X0g.length:Int)),Bt,.el (Xg x),.pure _ (aB v11),Bt] (k:=wC e C)) λh13=>rnK [.el (aI .i64 (X0g.length:Int)),Bt,.el (Xg x),.pure _ (aB v11),Bf] (k:=wkI [] (ih o C))
end Go.Av.Tryz