/- Printed by decomp.py: that the program computes the functions. -/
import Derived.Test.YtnkfdamiiejfdaaGreatDoorTabX
import Derived.Test.YtnkfdamiiejfdaaGreatDoorDeleteZ
import Derived.Test.YtnkfdamiiejfdaaGreatDoorInsertZ
import Derived.Test.YtnkfdamiiejfdaaGreatDoorSortZ
set_option linter.all false

namespace Go.Av.Tryz
open Go.Proofs Go.D Go.Proofs.Tryz
set_option maxRecDepth 10000
set_option maxHeartbeats 40000000
abbrev SK (nt:Nat) (Q:Xl->St->Mu->Prop):=X5 Tryz.prog nt 0 Q
abbrev Sx (nt:Nat) (Q:Xl->St->Mu->Prop) (L:List (Nat×AV)) (G:List (Nat×Obj)) (n:Nat) (μ:Mu):=SK nt Q (.exit (.exit 0)) [] ⟨fr L,hp G,n⟩ μ
abbrev Sr (nt:Nat) (Q:Xl->St->Mu->Prop) (L:List (Nat×AV)) (G:List (Nat×Obj)) (n:Nat) (μ:Mu):=SK nt Q (.exit .ret) [] ⟨fr L,hp G,n⟩ μ
abbrev Sl (nt:Nat) (Q:Xl->St->Mu->Prop) (f:Func) (L:List (Nat×AV)) (G:List (Nat×Obj)) (n:Nat) (μ:Mu):=SK nt Q (.loop (X5b 0 (X10 f))) [] ⟨fr L,hp G,n⟩ μ
theorem lpN {α:Type} {l:List α} {k:Nat} (h:l.drop k=[]):decide ((k:Int)<(l.length:Int))=false:=by have:=List.drop_eq_nil_iff.1 h;exact Yf om
theorem lpC {α:Type} {l xs:List α} {x:α} {k:Nat} (h:l.drop k=x::xs):decide ((k:Int)<(l.length:Int))=true:=by have:=congrArg (λq:List α=>q.length) h;simp at this;exact Yt om
theorem jn {P:Program} {nt n0:Nat} {Q:Xl->St->Mu->Prop} {cf:Cf} {K:List Kn} {μ:Mu} {s:St} (L:List (Nat×AV)) (G:List (Nat×Obj)) (n:Nat) (h1:X5 P nt n0 Q (.exit .normal) K ⟨fr L,hp G,n⟩ μ) (h2:X5 P nt n0 Q (.exit .normal) K ⟨fr L,hp G,n⟩ μ->X5 P nt n0 Q cf K s μ):X5 P nt n0 Q cf K s μ:=h2 h1
abbrev PZ:=PCs Tryz.prog
abbrev Pz:=X15 Tryz.prog
abbrev Qt:=Xl->St->Mu->Prop
theorem tmD:X6c Tryz.prog Xkr.find/\Tryz.prog.follows .mixedOrders=true:=⟨X2,by kernel_rfl⟩
instance tmI:TmD Tryz.prog Xkr.find:=⟨tmD⟩
def fn3:=fk func3
def fn5:=fk func5
def fn6:=fk func6
def fn7:=fk func7
def fn8:=fk func8
def fn9:=fk func9
def fn15:=fk func15
def fn16:=fk func16
def fn17:=fk func17
def fn18:=fk func18
def fn19:=fk func19
def fn20:=fk func20
def fn21:=fk func21
def fn22:=fk func22
def fn23:=fk func23
def fn24:=fk func24
def fn25:=fk func25
def fn26:=fk func26
def fn27:=fk func27
def fn34:=fk func34
def fn35:=fk func35
def fn36:=fk func36
def fn37:=fk func37
def fn38:=fk func38
def fn39:=fk func39
def fn40:=fk func40
def fn41:=fk func41
def fn42:=fk func42
def fn43:=fk func43
def fn44:=fk func44
def fn45:=fk func45
def fn46:=fk func46
def fn47:=fk func47
def fn48:=fk func48
def fn49:=fk func49
def fn50:=fk func50
def fn51:=fk func51
def fn52:=fk func52
def fn53:=fk func53
def fn54:=fk func54
def fn55:=fk func55
def fn56:=fk func56
def fn57:=fk func57
def fn58:=fk func58
def fn59:=fk func59
def fn60:=fk func60
def fn61:=fk func61
def fn71:=fk func71
def fn72:=fk func72
def fn73:=fk func73
def fn74:=fk func74
def fn75:=fk func75
def fn76:=fk func76
def fn77:=fk func77
def fn78:=fk func78
def fn79:=fk func79
def fn80:=fk func80
def fn81:=fk func81
def fn82:=fk func82
def fn83:=fk func83
def fn84:=fk func84
def fn85:=fk func85
def fn86:=fk func86
def fn87:=fk func87
def fn88:=fk func88
def fn89:=fk func89
def fn90:=fk func90
def fn91:=fk func91
def fn92:=fk func92
def fn93:=fk func93
def fn94:=fk func94
def fn95:=fk func95
def fn96:=fk func96
def fn97:=fk func97
def fn98:=fk func98
def fn99:=fk func99
def X0hm:=fk func100
def X0hl:=fk func101
def X0hi:=fk func135
def X0hh:=fk func136
def X0hg:=fk func137
def X0hf:=fk func138
def X0he:=fk func139
def X0hd:=fk func141
def X0hc:=fk func143
def X0hb:=fk func144
def X0ha:=fk func145
def X099:=fk func146
def X0h9:=fk func147
def X0h8:=fk func148
def X0h7:=fk func149
def X0de:=fk func150
def X0dd:=fk func151
def X0h6:=fk func153
def X0h5:=fk func154
def X0dc:=fk func155
def X0h4:=fk func158
def X0gz:=fk func200
def X0gy:=fk func201
def X0gx:=fk func211
def X0gw:=fk func220
def X0gv:=fk func221
def X0gu:=fk func222
def X0gt:=fk func223
def X0db:=fk func224
def X0gs:=fk func225
def X0da:=fk func226
def X0gr:=fk func255
def X0gq:=fk func256
def X0gp:=fk func257
def X0go:=fk func258
def X0gn:=fk func267
def X04i:=fk func268
def Xlc:=fk func269
def X0d9:=fk func270
def X0gm:=fk func311
instance X025:PZ 71 (∀ (a0:(List Xy)) (r:Bool),X99 a0=some r->Pz 71 [(Lf (a0.map X3))] (aB r)):=⟨λa0 r h=>by
 refine X15.sym X2 fn71 (nt:=6) rfl rfl ?_ okM;unfold X99 at h;revert h;exact λe=>oj e▸X8 [.el (aI .i64 (a0.length:Int))] (k:=fi)⟩
instance X01z:PZ 34 (∀ (a0:X00) (r:Bool),X97 a0=some r->Pz 34 [(Xz false a0)] (aB r)):=⟨λa0 r h=>by
 refine X15.sym X2 fn34 (nt:=17) rfl rfl ?_ okM;unfold X97 at h;revert h;refine bI λj7_2 h14=>rnI [.stop 1] ?_;intro h;refine jn [(2,(aB j7_2))] ([]) 0 ?_ (λJ=>X5.cut ?_)
 ·
  revert h;exact λe=>oj e▸X8 [] (k:=fi)
 clear h;revert h14;refine bI λv8 h9=>brI (λh10=>?_) λh10=>?_
 ·
  exact λe=>X8 [.pure _ (aB v8),Gf,Gf,Gf,Gf,Gf,Gf,Gf] (o:=by repeat' first|apply Ya|exact pcM|exact fq (Xh1 h10 rfl)|exact X1i) (k:=wJ [] J)
 refine bI λv11 h12=>brI (λh13=>?_) λh13=>?_
 ·
  exact λe=>X8 [.pure _ (aB v8),Gt,Gt,Gt,.pure _ (aB v11),Gf,Gf,Gf,Gf] (o:=by repeat' first|apply Ya|exact pcM|exact fq (Xsr h10 h13)|exact X1i) (k:=wJ [] J)
 exact λe=>X8 [.pure _ (aB v8),Gt,Gt,Gt,.pure _ (aB v11),Gt,Gt,Gt,.el (aI .i64 (a0.Sources.length:Int)),Gt] (o:=by repeat' first|apply Ya|exact pcM|exact fq (Xsr h10 h13)|exact X1i) (k:=wJ [] J)⟩
theorem Xga {Q:Qt} {μ:Mu} (X9p:(List (List Xq))) (hl:X9p.length<=140737488355328):Dr X9p λxs k=>∀ (o:Xc0) (h:X3o X9p xs k  = some o),Lq Tryz.prog 25 0 Q μ o (fun|.x0=>(.exit 0,⟨fr [],hp ([]),0⟩)|.x1=>(.ret,⟨fr [(4,(aB true))],hp ([]),0⟩))
  (X5b 0 (X10 Tryz.f15)) ⟨fr [(1,(Lf (List.map (X6v false Xk) X9p))),(5,(aI .i64 (k:Int)))],hp ([]),0⟩:=by
 refine drI ?_ ?_
 ·
  intro k hk hc  o h C;rw[X3o] at h;refine X5.round ?_;revert h;exact λe=>X8 [.el (aI .i64 (X9p.length:Int)),Bf] (k:=wC e C)
 ·
  intro x xs k hk hg hc ih  o h C;rw[X3o] at h;refine X5.round ?_;revert h;refine brI (λh9=>λe=>X8 [.el (aI .i64 (X9p.length:Int)),Bt,.el (X6v false Xk x),.el (aI .i64 (x.length:Int)),Bt] (k:=wC e C)) λh9=>rnI [.el (aI .i64 (X9p.length:Int)),Bt,.el (X6v false Xk x),.el (aI .i64 (x.length:Int)),Bf] ?_;intro h;exact wkT [] (ih   o h C)
instance X01r:PZ 15 (∀ (a0:X00) (a1:(List (List Xq))) (r:Bool),X8y a0 a1=some r->Pz 15 [(Xz false a0),(Lf (List.map (X6v false Xk) a1))] (aB r)):=⟨λa0 a1 r h=>by
 refine X15.sym X2 fn15 (nt:=25) rfl rfl ?_ okM;unfold X8y at h;revert h;refine bI λv1 h2=>brI (λh3=>λe=>oj e▸X8 [.pure _ (aB v1),.el (aI .i64 (a1.length:Int)),Bt] (k:=fi)) λh3=>bI λu4 h5=>?_;have qh5:=X05 h5;refine bI λo10 h11=>rnI [.pure _ (aB v1),.el (aI .i64 (a1.length:Int)),Bf] ?_;intro h;refine wkT [] (X5.cut (drA (Xga a1 qh5) _ h11 ?_));rcases o10 with _|_
 ·
  refine lG rfl ?_;try dsimp only at h
  revert h;exact λe=>oj e▸X8 [] (k:=fi)
 refine lG rfl ?_;try dsimp only at h
 revert h;exact λe=>oj e▸X8 [] (k:=fi)⟩
instance X026:PZ 255 (∀ (a0:Int) (r:Int),Xbi a0=some r->Pz 255 [(aI .u8 a0)] (aI .i64 r)):=⟨λa0 r h=>by
 refine X15.sym X2 X0gr (nt:=7) rfl rfl ?_ okM;unfold Xbi at h;revert h;exact brI (λh1=>λe=>oj e▸X8 [Bt] (k:=fi)) λh1=>brI (λh2=>λe=>oj e▸X8 [Bf,Bt] (k:=fi)) λh2=>λe=>oj e▸X8 [Bf,Bf] (k:=fi)⟩
instance X023:PZ 256 (∀ (a0:Xy) (a1:Int) (a2:Int) (r:Bool),X5t a0 a1 a2=some r->Pz 256 [(X3 a0),(aI .i64 a1),(aI .i64 a2)] (aB r)):=⟨λa0 a1 a2 r h=>by
 refine X15.sym X2 X0gq (nt:=52) rfl rfl ?_ okM;unfold X5t at h;revert h;exact λe=>oj e▸X8 [] (k:=fi)⟩
theorem Xgh {Q:Qt} {μ:Mu} (X0e:(List Xy)) (hl:X0e.length<=140737488355328):∀ (xs:List Xy) (k:Nat) (hx:X0e.drop k=xs) (Xf:(List Int)) (Xi:(List Int)) (X04:Nb Xf) (Xn:Nb Xi) (o:X4g) (h:X19 X0e xs k Xf Xi=some o)
  (C0:∀ (Xj:(List Int)) (X0d:(List Int)) (Xu:Nb Xj) (X0n:Nb X0d),o=X4g.x0 Xj X0d->Sx 102 Q [(0,(Lf (X0e.map X3))),(5,(slE Xu.1 0 (List.map (aI .i64) Xj))),(6,(slE X0n.1 1 (List.map (aI .i64) X0d)))] ([]++opE Xu.1 0 1 (List.map (aI .i64) Xj)++opE X0n.1 1 1 (List.map (aI .i64) X0d)) 2 μ)
  (C1:∀ (X09:(List Int)) (X4v:(List Int)) (X08:Nb X09) (X58:Nb X4v),o=X4g.x1 X09 X4v->Sr 102 Q [(2,(slE X08.1 0 (List.map (aI .i64) X09))),(3,(slE X58.1 1 (List.map (aI .i64) X4v))),(4,(aB false))] ([]++opE X08.1 0 1 (List.map (aI .i64) X09)++opE X58.1 1 1 (List.map (aI .i64) X4v)) 2 μ),
  Sl 102 Q f200 [(0,(Lf (X0e.map X3))),(5,(slE X04.1 0 (List.map (aI .i64) Xf))),(6,(slE Xn.1 1 (List.map (aI .i64) Xi))),(7,(aI .i64 (k:Int)))] ([]++opE X04.1 0 1 (List.map (aI .i64) Xf)++opE Xn.1 1 1 (List.map (aI .i64) Xi)) 2 μ:=by
 intro xs
 induction xs with
 |nil =>
  intro k hx Xf Xi X04 Xn o h C0 C1;have hk:=X2n hx;have hc:=lpN hx;rw[X19] at h;rcases X04 with ⟨_|_,X1v⟩
  ·
   rcases Xn with ⟨_|_,X0a⟩
   ·
    refine X5.round ?_;revert h;exact λe=>X8 [.el (aI .i64 (X0e.length:Int)),Bf] (k:=wkT [] (C0 _ _  nbF nbF (oj e).symm))
   obtain rfl:=X0a rfl;refine X5.round ?_;revert h;exact λe=>X8 [.el (aI .i64 (X0e.length:Int)),Bf] (k:=wkT [] (C0 _ _  nbF nbS (oj e).symm))
  ·
   obtain rfl:=X1v rfl;rcases Xn with ⟨_|_,X0a⟩
   ·
    refine X5.round ?_;revert h;exact λe=>X8 [.el (aI .i64 (X0e.length:Int)),Bf] (k:=wkT [] (C0 _ _  nbS nbF (oj e).symm))
   ·
    obtain rfl:=X0a rfl;refine X5.round ?_;revert h;exact λe=>X8 [.el (aI .i64 (X0e.length:Int)),Bf] (k:=wkT [] (C0 _ _  nbS nbS (oj e).symm))
 |cons x xs ih =>
  intro k hx Xf Xi X04 Xn o h C0 C1;obtain⟨hk,hg,hx1⟩:=X1w hx;have hc:=lpC hx;rw[X19] at h;rcases X04 with ⟨_|_,X1v⟩
  ·
   rcases Xn with ⟨_|_,X0a⟩
   ·
    refine X5.round ?_;revert h;refine bI λv156 h157=>brI (λh158=>?_) λh158=>?_
    ·
     refine brI (λh159=>λe=>X8 [.el (aI .i64 (X0e.length:Int)),Bt,.el (X3 x),.pure _ (aI .i64 v156),Bt,.wrap,Bt] (k:=wkT [] (C1 _ _  nbS nbS (oj e).symm))) λh159=>bI λe160 h161=>?_;try have qh161:=Xm h161
     refine bI λe162 h163=>?_;try have qh163:=Xm h163
     refine rnI [.el (aI .i64 (X0e.length:Int)),Bt,.el (X3 x),.pure _ (aI .i64 v156),Bt,.wrap,Bf,.el (aI .i64 e160),.ld (aI .i64 e160),.wrap,.el (aI .i64 e160),.ld (aI .i64 e160),.wrap,.el (aI .i64 e162),.ld (aI .i64 e162),.wrap] ?_;refine brI (λh164=>?_) λh164=>?_
     ·
      refine brI (λh165=>λe=>X8 [Bt,Bt] (k:=wkT [] (C1 _ _  nbS nbS (oj e).symm))) λh165=>bI λe166 h167=>?_;try have qh167:=Xm h167
      refine bI λe168 h169=>?_;try have qh169:=Xm h169
      refine bI λv170 h171=>rnI [Bt,Bf,.el (aI .i64 e166),.ld (aI .i64 e166),.wrap,.el (aI .i64 e168),.ld (aI .i64 e168),.wrap,.el (X3 x),.pure _ (aB v170)] ?_;refine brI (λh172=>λe=>X8 [Bt] (k:=wkT [] (C1 _ _  nbS nbS (oj e).symm))) λh172=>?_;refine bI λu173 h174=>bI λu175 h176=>rnI [Bf,.no,.no] (o:=by repeat' first|apply Ya|exact pcM|(refine X0g h174 rfl ?_;first|(simp<;>omega)|(simp[hc,h158,h159,h164,h165,h172]<;>omega))|(refine Xv h174 (by decide) ?_;first|(simp<;>omega)|(simp[hc,h158,h159,h164,h165,h172]<;>omega))|(refine X0g h176 rfl ?_;first|(simp<;>omega)|(simp[hc,h158,h159,h164,h165,h172]<;>omega))|(refine Xv h176 (by decide) ?_;first|(simp<;>omega)|(simp[hc,h158,h159,h164,h165,h172]<;>omega))|exact X1i) ?_;intro h;exact wkT [(0,3),(1,5)] (ih (k+1) hx1 _ _ nbF nbF o h C0 C1)
     refine bI λv177 h178=>brI (λh179=>λe=>X8 [Bf,.el (X3 x),.pure _ (aB v177),Bt] (k:=wkT [] (C1 _ _  nbS nbS (oj e).symm))) λh179=>?_;refine bI λu180 h181=>bI λu182 h183=>rnI [Bf,.el (X3 x),.pure _ (aB v177),Bf,.no,.no] (o:=by repeat' first|apply Ya|exact pcM|(refine X0g h181 rfl ?_;first|(simp<;>omega)|(simp[hc,h158,h159,h164,h179]<;>omega))|(refine Xv h181 (by decide) ?_;first|(simp<;>omega)|(simp[hc,h158,h159,h164,h179]<;>omega))|(refine X0g h183 rfl ?_;first|(simp<;>omega)|(simp[hc,h158,h159,h164,h179]<;>omega))|(refine Xv h183 (by decide) ?_;first|(simp<;>omega)|(simp[hc,h158,h159,h164,h179]<;>omega))|exact X1i) ?_;intro h;exact wkT [(0,3),(1,5)] (ih (k+1) hx1 _ _ nbF nbF o h C0 C1)
    refine bI λv184 h185=>brI (λh186=>λe=>X8 [.el (aI .i64 (X0e.length:Int)),Bt,.el (X3 x),.pure _ (aI .i64 v156),Bf,.el (X3 x),.pure _ (aB v184),Bt] (k:=wkT [] (C1 _ _  nbS nbS (oj e).symm))) λh186=>?_;refine bI λu187 h188=>bI λu189 h190=>rnI [.el (aI .i64 (X0e.length:Int)),Bt,.el (X3 x),.pure _ (aI .i64 v156),Bf,.el (X3 x),.pure _ (aB v184),Bf,.no,.no] (o:=by repeat' first|apply Ya|exact pcM|(refine X0g h188 rfl ?_;first|(simp<;>omega)|(simp[hc,h158,h186]<;>omega))|(refine Xv h188 (by decide) ?_;first|(simp<;>omega)|(simp[hc,h158,h186]<;>omega))|(refine X0g h190 rfl ?_;first|(simp<;>omega)|(simp[hc,h158,h186]<;>omega))|(refine Xv h190 (by decide) ?_;first|(simp<;>omega)|(simp[hc,h158,h186]<;>omega))|exact X1i) ?_;intro h;exact wkT [(0,3),(1,5)] (ih (k+1) hx1 _ _ nbF nbF o h C0 C1)
   obtain rfl:=X0a rfl;refine X5.round ?_;revert h;refine bI λv191 h192=>brI (λh193=>?_) λh193=>?_
   ·
    refine brI (λh194=>λe=>X8 [.el (aI .i64 (X0e.length:Int)),Bt,.el (X3 x),.pure _ (aI .i64 v191),Bt,.wrap,Bt] (k:=wkT [] (C1 _ _  nbS nbS (oj e).symm))) λh194=>bI λe195 h196=>?_;try have qh196:=Xm h196
    refine bI λe197 h198=>?_;try have qh198:=Xm h198
    intro h
    first|exact absurd (h198) (by simp[X18];done)|(simp[X18,hc,h193,h194] at h;done)|(simp[hc,h193,h194] at hg;done)|exact absurd (h198) (by simp[X18,hc,h193,h194];done)
   refine bI λv199 h200=>brI (λh201=>λe=>X8 [.el (aI .i64 (X0e.length:Int)),Bt,.el (X3 x),.pure _ (aI .i64 v191),Bf,.el (X3 x),.pure _ (aB v199),Bt] (k:=wkT [] (C1 _ _  nbS nbS (oj e).symm))) λh201=>?_;refine bI λu202 h203=>bI λu204 h205=>rnI [.el (aI .i64 (X0e.length:Int)),Bt,.el (X3 x),.pure _ (aI .i64 v191),Bf,.el (X3 x),.pure _ (aB v199),Bf,.no,.no] (o:=by repeat' first|apply Ya|exact pcM|(refine X0g h203 rfl ?_;first|(simp<;>omega)|(simp[hc,h193,h201]<;>omega))|(refine Xv h203 (by decide) ?_;first|(simp<;>omega)|(simp[hc,h193,h201]<;>omega))|(refine X0g h205 rfl ?_;first|(simp<;>omega)|(simp[hc,h193,h201]<;>omega))|(refine Xv h205 (by decide) ?_;first|(simp<;>omega)|(simp[hc,h193,h201]<;>omega))|exact X1i) ?_;intro h;exact wkT [(0,3),(1,5)] (ih (k+1) hx1 _ _ nbF nbF o h C0 C1)
  obtain rfl:=X1v rfl;rcases Xn with ⟨_|_,X0a⟩<;>(try obtain rfl:=X0a rfl);all_goals
   refine X5.round ?_;revert h;refine bI λv206 h207=>brI (λh208=>?_) λh208=>?_
   ·
    refine brI (λh209=>λe=>X8 [.el (aI .i64 (X0e.length:Int)),Bt,.el (X3 x),.pure _ (aI .i64 v206),Bt,.wrap,Bt] (k:=wkT [] (C1 _ _  nbS nbS (oj e).symm))) λh209=>bI λe210 h211=>?_;try have qh211:=Xm h211
    intro h
    first|exact absurd (h211) (by simp[X18];done)|(simp[X18,hc,h208,h209] at h;done)|(simp[hc,h208,h209] at hg;done)|exact absurd (h211) (by simp[X18,hc,h208,h209];done)
   refine bI λv212 h213=>brI (λh214=>λe=>X8 [.el (aI .i64 (X0e.length:Int)),Bt,.el (X3 x),.pure _ (aI .i64 v206),Bf,.el (X3 x),.pure _ (aB v212),Bt] (k:=wkT [] (C1 _ _  nbS nbS (oj e).symm))) λh214=>?_;refine bI λu215 h216=>bI λu217 h218=>rnI [.el (aI .i64 (X0e.length:Int)),Bt,.el (X3 x),.pure _ (aI .i64 v206),Bf,.el (X3 x),.pure _ (aB v212),Bf,.no,.no] (o:=by repeat' first|apply Ya|exact pcM|(refine X0g h216 rfl ?_;first|(simp<;>omega)|(simp[hc,h208,h214]<;>omega))|(refine Xv h216 (by decide) ?_;first|(simp<;>omega)|(simp[hc,h208,h214]<;>omega))|(refine X0g h218 rfl ?_;first|(simp<;>omega)|(simp[hc,h208,h214]<;>omega))|(refine Xv h218 (by decide) ?_;first|(simp<;>omega)|(simp[hc,h208,h214]<;>omega))|exact X1i) ?_;intro h;exact wkT [(0,3),(1,5)] (ih (k+1) hx1 _ _ nbF nbF o h C0 C1)
instance X024:PZ 200 (∀ (a0:(List Xy)) (r:(List Int)×(List Int)×Bool),Xbh a0=some r->Pz 200 [(Lf (a0.map X3))] (AV.tup [(Lt (List.map (aI .i64) r.1)),(Lt (List.map (aI .i64) r.2.1)),(aB r.2.2)])):=⟨λa0 r h=>by
 refine X15.sym X2 X0gz (nt:=102) rfl rfl ?_ okM;unfold Xbh at h;revert h;refine bI λu1 h2=>?_;have qh2:=X05 h2;refine bI λo232 h233=>rnI [] ?_;intro h;refine wkT [] (X5.cut (Xgh a0 qh2 a0 0 (by simp) _ _ nbS nbS _ h233 ?_ ?_))
 ·
  intro Xj X0d Xu X0n eo232;subst eo232;refine X5.glue ?_;try dsimp only at h
  rcases Xu with ⟨_|_,X1r⟩
  ·
   rcases X0n with ⟨_|_,X3z⟩
   ·
    revert h;refine bI λXzi h241=>rnI [.stop 25] ?_;intro h;refine jn [(2,(AV.ref 0 0 (Xj.length))),(3,(AV.ref 1 0 (X0d.length))),(4,(aB Xzi))] ([(0,Ob (List.map (aI .i64) Xj) 1),(1,Ob (List.map (aI .i64) X0d) 1)]) 2 ?_ (λJ=>X5.cut ?_)
    ·
     revert h;exact λe=>oj e▸X8 [] (k:=fi)
    clear h;revert h241;refine brI (λh238=>?_) λh238=>λe=>X8 [.el (aI .i64 (a0.length:Int)),Gf,Gf,Gf,Gf,Gf,Gf,Gf,Gf,Gf,Gf] (k:=wJ [] J);refine bI λe239 h240=>?_;try have qh240:=Xm h240
    exact λe=>X8 [.el (aI .i64 (a0.length:Int)),Gt,Gt,Gt,.el (aI .i64 (a0.length:Int)),Gt,.wrap,Gt,.el (aI .i64 e239),Gt,.ld (aI .i64 e239),Gt,Gt,.el (aI .i64 (a0.length:Int)),Gt] (k:=wJ [] J)
   obtain rfl:=X3z rfl;revert h;refine bI λX0cv h249=>rnI [.stop 25] ?_;intro h;refine jn [(2,(AV.ref 0 0 (Xj.length))),(3,AV.nils),(4,(aB X0cv))] ([(0,Ob (List.map (aI .i64) Xj) 1)]) 2 ?_ (λJ=>X5.cut ?_)
   ·
    revert h;exact λe=>oj e▸X8 [] (k:=fi)
   clear h;revert h249;refine brI (λh246=>?_) λh246=>λe=>X8 [.el (aI .i64 (a0.length:Int)),Gf,Gf,Gf,Gf,Gf,Gf,Gf,Gf,Gf,Gf] (k:=wJ [] J);refine bI λe247 h248=>?_;try have qh248:=Xm h248
   exact λe=>X8 [.el (aI .i64 (a0.length:Int)),Gt,Gt,Gt,.el (aI .i64 (a0.length:Int)),Gt,.wrap,Gt,.el (aI .i64 e247),Gt,.ld (aI .i64 e247),Gt,Gt,.el (aI .i64 (a0.length:Int)),Gt] (k:=wJ [] J)
  obtain rfl:=X1r rfl;rcases X0n with ⟨_|_,X3z⟩
  ·
   revert h;refine bI λX0cu h257=>rnI [.stop 25] ?_;intro h;refine jn [(2,AV.nils),(3,(AV.ref 1 0 (X0d.length))),(4,(aB X0cu))] ([(1,Ob (List.map (aI .i64) X0d) 1)]) 2 ?_ (λJ=>X5.cut ?_)
   ·
    revert h;exact λe=>oj e▸X8 [] (k:=fi)
   clear h;revert h257;refine brI (λh254=>?_) λh254=>λe=>X8 [.el (aI .i64 (a0.length:Int)),Gf,Gf,Gf,Gf,Gf,Gf,Gf,Gf,Gf,Gf] (k:=wJ [] J);refine bI λe255 h256=>?_;try have qh256:=Xm h256
   intro h
   first|exact absurd (h256) (by simp[X18];done)|(simp[X18,h254] at h;done)|(simp[h254] at hg;done)|exact absurd (h256) (by simp[X18,h254];done)
  obtain rfl:=X3z rfl;revert h;refine bI λX0ct h265=>rnI [.stop 25] ?_;intro h;refine jn [(2,AV.nils),(3,AV.nils),(4,(aB X0ct))] ([]) 2 ?_ (λJ=>X5.cut ?_)
  ·
   revert h;exact λe=>oj e▸X8 [] (k:=fi)
  clear h;revert h265;refine brI (λh262=>?_) λh262=>λe=>X8 [.el (aI .i64 (a0.length:Int)),Gf,Gf,Gf,Gf,Gf,Gf,Gf,Gf,Gf,Gf] (k:=wJ [] J);refine bI λe263 h264=>?_;try have qh264:=Xm h264
  intro h
  first|exact absurd (h264) (by simp[X18];done)|(simp[X18,h262] at h;done)|(simp[h262] at hg;done)|exact absurd (h264) (by simp[X18,h262];done)
 intro X09 X4v X08 X58 eo232;subst eo232;refine X5.glue ?_;try dsimp only at h
 rcases X08 with ⟨_|_,X31⟩<;>(try obtain rfl:=X31 rfl);all_goals
  rcases X58 with ⟨_|_,Xgt⟩<;>(try obtain rfl:=Xgt rfl);all_goals
   revert h;exact λe=>oj e▸X8 [] (k:=fi)⟩
instance X027:PZ 135 (∀ (a0:(List Xy)) (r:Int),X48 a0=some r->Pz 135 [(Lf (a0.map X3))] (aI .i64 r)):=⟨λa0 r h=>by
 refine X15.sym X2 X0hi (nt:=24) rfl rfl ?_ okM;unfold X48 at h;revert h;refine brI (λh1=>λe=>oj e▸X8 [.el (aI .i64 (a0.length:Int)),Bt] (k:=fi)) λh1=>bI λv2 h3=>rnI [.el (aI .i64 (a0.length:Int)),Bf,.pure _ (AV.tup [(Lt (List.map (aI .i64) v2.1)),(Lt (List.map (aI .i64) v2.2.1)),(aB v2.2.2)])] ?_;refine brI (λh4=>λe=>oj e▸X8 [Bt] (k:=fi)) λh4=>bI λe5 h6=>?_;try have qh6:=Xm h6
 exact brI (λh7=>λe=>oj e▸X8 [Bf,.el (aI .i64 (a0.length:Int)),.wrap,.el (aI .i64 e5),Bt] (k:=fi)) λh7=>λe=>oj e▸X8 [Bf,.el (aI .i64 (a0.length:Int)),.wrap,.el (aI .i64 e5),Bf] (k:=fi)⟩
theorem Xeo {Q:Qt} {μ:Mu} (X0e:(List Int)) (hl:X0e.length<=140737488355328):Dr X0e λxs k=>∀ (o:X9x) (h:X2p X0e xs k  = some o),Lq Tryz.prog 60 0 Q μ o (fun|.x0=>(.exit 0,⟨fr [(0,(Lf (List.map (aI .i64) X0e)))],hp ([]),0⟩)|.x1=>(.ret,⟨fr [(4,(aI .i64 8))],hp ([]),0⟩))
  (X5b 0 (X10 Tryz.f136)) ⟨fr [(0,(Lf (List.map (aI .i64) X0e))),(5,(aI .i64 (k:Int)))],hp ([]),0⟩:=by
 refine drI ?_ ?_
 ·
  intro k hk hc  o h C;rw[X2p] at h;refine X5.round ?_;revert h;exact λe=>X8 [.el (aI .i64 (X0e.length:Int)),Bf] (k:=wC e C)
 ·
  intro x xs k hk hg hc ih  o h C;rw[X2p] at h;refine X5.round ?_;revert h;refine bI λXzn h19=>rnI [.el (aI .i64 (X0e.length:Int)),Bt,.stop 8] ?_;intro h;refine jn [(0,(Lf (List.map (aI .i64) X0e))),(5,(aI .i64 (k:Int))),(39,(aB Xzn))] ([]) 0 ?_ (λJ=>X5.cut ?_)
  ·
   revert h;refine brI (λh20=>λe=>X8 [Bt] (k:=wC e C)) λh20=>rnI [Bf] ?_;intro h;exact wkT [] (ih   o h C)
  clear h;revert h19;exact brI (λh18=>λe=>X8 [.el (aI .i64 x),Gf,Gf,Gf,Gf,Gf] (k:=wJ [] J)) λh18=>λe=>X8 [.el (aI .i64 x),Gt,Gt,Gt,.el (aI .i64 x),Gt,Gt] (k:=wJ [] J)
theorem Xem {Q:Qt} {μ:Mu} (y2_0:(List Int)) (y2_6:Int):∀ (n:Nat) (y2_7:Int) (o:X9v) (h:X2o y2_0 y2_6 n y2_7=some o),Lq Tryz.prog 60 0 Q μ o (fun|.x0=>(.ret,⟨fr [(4,(aI .i64 43))],hp ([]),0⟩)|.x1=>(.exit 4,⟨fr [(0,(Lf (List.map (aI .i64) y2_0))),(6,(aI .i64 y2_6))],hp ([]),0⟩))
  (X5b 2 (X10 Tryz.f136)) ⟨fr [(0,(Lf (List.map (aI .i64) y2_0))),(6,(aI .i64 y2_6)),(7,(aI .i64 y2_7))],hp ([]),0⟩:=by
 intro n
 induction n with
 |zero=>intro y2_7 o h C;cases h
 |succ n ih =>
  intro y2_7 o h C;rw[X2o] at h;refine X5.round ?_;revert h;refine brI (λh79=>?_) λh79=>λe=>X8 [Bf] (k:=wC e C);refine bI λe80 h81=>?_;try have qh81:=Xm h81
  refine bI λe82 h83=>?_;try have qh83:=Xm h83
  refine brI (λh84=>λe=>X8 [Bt,.el (aI .i64 e80),.el (aI .i64 e82),Bt] (k:=wC e C)) λh84=>rnI [Bt,.el (aI .i64 e80),.el (aI .i64 e82),Bf,.wrap] ?_;intro h;exact wkT [] (ih  _ o h C)
theorem Xen {Q:Qt} {μ:Mu} (Xko:(List Int)) (hl:Xko.length<=140737488355328):Dr Xko λxs k=>∀ (o:X9w) (h:X20 Xko xs k  = some o),Lq Tryz.prog 60 0 Q μ o (fun|.x0=>(.exit 2,⟨fr [],hp ([]),0⟩)|.x1=>(.ret,⟨fr [(4,(aI .i64 43))],hp ([]),0⟩))
  (X5b 1 (X10 Tryz.f136)) ⟨fr [(0,(Lf (List.map (aI .i64) Xko))),(6,(aI .i64 (k:Int)))],hp ([]),0⟩:=by
 refine drI ?_ ?_
 ·
  intro k hk hc  o h C;rw[X20] at h;refine X5.round ?_;revert h;exact λe=>X8 [.el (aI .i64 (Xko.length:Int)),Bf] (k:=wC e C)
 ·
  intro x xs k hk hg hc ih  o h C;rw[X20] at h;refine X5.round ?_;revert h;refine bI λo85 h86=>rnI [.el (aI .i64 (Xko.length:Int)),Bt] ?_;intro h;refine wkT [] (X5.cut (Xem Xko (k:Int) _ _ _ h86 ?_));rcases o85 with _|_
  ·
   refine lG rfl ?_;try dsimp only at h
   revert h;exact λe=>X8 [] (k:=wC e C)
  refine lG rfl ?_;try dsimp only at h
  exact X8 [] (k:=wkT [] (ih   o h C))
instance Xx5:PZ 136 (∀ (a0:(List Int)) (a1:Bool) (r:Int),X6j a0 a1=some r->Pz 136 [(Lf (List.map (aI .i64) a0)),(aB a1)] (aI .i64 r)):=⟨λa0 a1 r h=>by
 refine X15.sym X2 X0hh (nt:=60) rfl rfl ?_ okM;unfold X6j at h;revert h;refine brI (λh1=>λe=>oj e▸X8 [.el (aI .i64 (a0.length:Int)),Bt] (k:=fi)) λh1=>brI (λh2=>λe=>oj e▸X8 [.el (aI .i64 (a0.length:Int)),Bf,.el (aI .i64 (a0.length:Int)),.el (aI .i64 (a0.length:Int)),Bt] (k:=fi)) λh2=>bI λu3 h4=>?_;have qh4:=X05 h4;refine bI λo21 h22=>rnI [.el (aI .i64 (a0.length:Int)),Bf,.el (aI .i64 (a0.length:Int)),.el (aI .i64 (a0.length:Int)),Bf] ?_;intro h;refine wkT [] (X5.cut (drA (Xeo a0 qh4) _ h22 ?_));rcases o21 with _|_
 ·
  refine lG rfl ?_;try dsimp only at h
  revert h;refine bI λo87 h88=>rnI [] ?_;intro h;refine wkT [] (X5.cut (drA (Xen a0 qh4) _ h88 ?_));rcases o87 with _|_
  ·
   refine lG rfl ?_;try dsimp only at h
   revert h;exact λe=>oj e▸X8 [] (k:=fi)
  refine lG rfl ?_;try dsimp only at h
  revert h;exact λe=>oj e▸X8 [] (k:=fi)
 refine lG rfl ?_;try dsimp only at h
 revert h;exact λe=>oj e▸X8 [] (k:=fi)⟩
instance X032:PZ 137 (∀ (a0:X0r) (r:Bool),X7d a0=some r->Pz 137 [(X39 a0)] (aB r)):=⟨λa0 r h=>by
 refine X15.sym X2 X0hg (nt:=45) rfl rfl ?_ okM;unfold X7d at h;revert h;exact brI (λh1=>λe=>oj e▸X8 [Bt] (k:=fi)) λh1=>brI (λh2=>λe=>oj e▸X8 [Bf,Bt,.wrap] (k:=fi)) λh2=>λe=>oj e▸X8 [Bf,Bf] (k:=fi)⟩
instance X020:PZ 72 (∀ (a0:X00) (r:Int),X98 a0=some r->Pz 72 [(Xz false a0)] (aI .i64 r)):=⟨λa0 r h=>by
 refine X15.sym X2 fn72 (nt:=80) rfl rfl ?_ okM;unfold X98 at h;revert h;refine brI (λh1=>λe=>oj e▸X8 [Bt] (k:=fi)) λh1=>brI (λh2=>λe=>oj e▸X8 [Bf,.el (aI .i64 (a0.Arg.length:Int)),Bt] (k:=fi)) λh2=>bI λX08m h10=>rnI [Bf,.el (aI .i64 (a0.Arg.length:Int)),Bf,.stop 5] ?_;intro h;refine jn [(1,(AV.ptr 0 0 0)),(38,(aB X08m))] ([(0,Ob [(Xz false a0)] 10)]) 1 ?_ (λJ=>X5.cut ?_)
 ·
  revert h;refine brI (λh11=>bI λv12 h13=>λe=>oj e▸X8 [Bt,.pure _ (aI .i64 v12)] (k:=fi)) λh11=>bI λXzm h21=>rnI [Bf,.stop 7] ?_;intro h;refine jn [(1,(AV.ptr 0 0 0)),(51,(aB Xzm))] ([(0,Ob [(Xz false a0)] 10)]) 1 ?_ (λJ=>X5.cut ?_)
  ·
   revert h;exact brI (λh22=>bI λv23 h24=>λe=>oj e▸X8 [Bt,.pure _ (aI .i64 v23)] (k:=fi)) λh22=>bI λv25 h26=>brI (λh27=>λe=>oj e▸X8 [Bf,.pure _ (aI .i64 v25),Bt,.pure _ (aI .i64 v25)] (k:=fi)) λh27=>bI λv28 h29=>brI (λh30=>λe=>oj e▸X8 [Bf,.pure _ (aI .i64 v25),Bf,.pure _ (aB v28),Bt] (k:=fi)) λh30=>λe=>oj e▸X8 [Bf,.pure _ (aI .i64 v25),Bf,.pure _ (aB v28),Bf] (k:=fi)
  clear h;revert h21;exact brI (λh18=>bI λv19 h20=>λe=>X8 [.el (aI .i64 (a0.Where.length:Int)),Gt,Gt,Gt,.pure _ (aI .i64 v19),Gt] (k:=wJ [] J)) λh18=>λe=>X8 [.el (aI .i64 (a0.Where.length:Int)),Gf,Gf,Gf,Gf] (k:=wJ [] J)
 clear h;revert h10;exact brI (λh7=>bI λv8 h9=>λe=>X8 [Gt,Gt,Gt,.pure _ (aI .i64 v8),Gt] (k:=wJ [] J)) λh7=>λe=>X8 [Gf,Gf,Gf,Gf] (k:=wJ [] J)⟩
instance X022:PZ 258 (∀ (a0:Int) (r:Bool),X5s a0=some r->Pz 258 [(aI .u8 a0)] (aB r)):=⟨λa0 r h=>by
 refine X15.sym X2 X0go (nt:=9) rfl rfl ?_ okM;unfold X5s at h;revert h;exact λe=>oj e▸X8 [] (k:=fi)⟩
instance X033:PZ 311 (∀ (a0:(List Xy)) (a1:Int) (r:Bool),Xaw a0 a1=some r->Pz 311 [(Lf (a0.map X3)),(aI .i64 a1)] (aB r)):=⟨λa0 a1 r h=>by
 refine X15.sym X2 X0gm (nt:=67) rfl rfl ?_ okM;unfold Xaw at h;revert h;refine bI λe1 h2=>?_;try have qh2:=Xm h2
 refine bI λe3 h4=>?_;try have qh4:=Xm h4
 refine bI λv5 h6=>bI λe7 h8=>?_;try have qh8:=Xm h8
 exact bI λv9 h10=>brI (λh11=>λe=>oj e▸X8 [.el (X3 e1),.el (X3 e3),.pure _ (aB v5),.el (X3 e7),.pure _ (aB v9),Bt] (k:=fi)) λh11=>brI (λh12=>λe=>oj e▸X8 [.el (X3 e1),.el (X3 e3),.pure _ (aB v5),.el (X3 e7),.pure _ (aB v9),Bf,Bt] (k:=fi)) λh12=>brI (λh13=>λe=>oj e▸X8 [.el (X3 e1),.el (X3 e3),.pure _ (aB v5),.el (X3 e7),.pure _ (aB v9),Bf,Bf,Bt] (k:=fi)) λh13=>brI (λh14=>λe=>oj e▸X8 [.el (X3 e1),.el (X3 e3),.pure _ (aB v5),.el (X3 e7),.pure _ (aB v9),Bf,Bf,Bf,Bt] (k:=fi)) λh14=>brI (λh15=>λe=>oj e▸X8 [.el (X3 e1),.el (X3 e3),.pure _ (aB v5),.el (X3 e7),.pure _ (aB v9),Bf,Bf,Bf,Bf,Bt] (k:=fi)) λh15=>λe=>oj e▸X8 [.el (X3 e1),.el (X3 e3),.pure _ (aB v5),.el (X3 e7),.pure _ (aB v9),Bf,Bf,Bf,Bf,Bf] (k:=fi)⟩
theorem Xgg {Q:Qt} {μ:Mu} (X0e:(List Xy)) (hl:X0e.length<=140737488355328):Dr X0e λxs k=>∀ (o:Xc5) (h:X3t X0e xs k  = some o),Lq Tryz.prog 17 0 Q μ o (fun|.x0=>(.exit 0,⟨fr [(0,(Lf (X0e.map X3)))],hp ([]),0⟩)|.x1 X7r=>(.ret,⟨fr [(2,(aI .i64 X7r))],hp ([]),0⟩))
  (X5b 0 (X10 Tryz.f257)) ⟨fr [(0,(Lf (X0e.map X3))),(3,(aI .i64 (k:Int)))],hp ([]),0⟩:=by
 refine drI ?_ ?_
 ·
  intro k hk hc  o h C;rw[X3t] at h;refine X5.round ?_;revert h;exact λe=>X8 [.el (aI .i64 (X0e.length:Int)),Bf] (k:=wC e C)
 ·
  intro x xs k hk hg hc ih  o h C;rw[X3t] at h;refine X5.round ?_;revert h;refine bI λv10 h11=>brI (λh12=>λe=>X8 [.el (aI .i64 (X0e.length:Int)),Bt,.pure _ (aB v10),Bt] (k:=wC e C)) λh12=>rnI [.el (aI .i64 (X0e.length:Int)),Bt,.pure _ (aB v10),Bf] ?_;intro h;exact wkT [] (ih   o h C)
instance X021:PZ 257 (∀ (a0:(List Xy)) (r:Int),Xbg a0=some r->Pz 257 [(Lf (a0.map X3))] (aI .i64 r)):=⟨λa0 r h=>by
 refine X15.sym X2 X0gp (nt:=17) rfl rfl ?_ okM;unfold Xbg at h;revert h;refine bI λu1 h2=>?_;have qh2:=X05 h2;refine bI λo13 h14=>rnI [] ?_;intro h;refine wkT [] (X5.cut (drA (Xgg a0 qh2) _ h14 ?_));rcases o13 with _|⟨X7r⟩
 ·
  refine lG rfl ?_;try dsimp only at h
  revert h;exact λe=>oj e▸X8 [.el (aI .i64 (a0.length:Int))] (k:=fi)
 refine lG rfl ?_;try dsimp only at h
 revert h;exact λe=>oj e▸X8 [] (k:=fi)⟩
instance X07u:PZ 201 (∀ (a0:(List Xy)) (r:Bool×Int×Int),Xfc a0=some r->Pz 201 [(Lf (a0.map X3))] (AV.tup [(aB r.1),(aI .i64 r.2.1),(aI .i64 r.2.2)])):=⟨λa0 r h=>by
 refine X15.sym X2 X0gy (nt:=29) rfl rfl ?_ okM;unfold Xfc at h;revert h;refine bI λv1 h2=>brI (λh3=>λe=>oj e▸X8 [.pure _ (aI .i64 v1),Bt,.pure _ (aI .i64 v1)] (k:=fi)) λh3=>bI λv4 h5=>brI (λh6=>λe=>oj e▸X8 [.pure _ (aI .i64 v1),Bf,.pure _ (aI .i64 v4),.el (aI .i64 (a0.length:Int)),Bt] (k:=fi)) λh6=>bI λe7 h8=>?_;try have qh8:=Xm h8
 exact bI λv9 h10=>λe=>oj e▸X8 [.pure _ (aI .i64 v1),Bf,.pure _ (aI .i64 v4),.el (aI .i64 (a0.length:Int)),Bf,.el (aI .i64 (a0.length:Int)),.wrap,.el (X3 e7),.pure _ (aB v9),.el (aI .i64 (a0.length:Int)),.wrap] (k:=fi)⟩
instance X034:PZ 138 (∀ (a0:(List Xy)) (a1:Bool) (r:Int×Int),X7e a0 a1=some r->Pz 138 [(Lf (a0.map X3)),(aB a1)] (AV.tup [(aI .i64 r.1),(aI .i64 r.2)])):=⟨λa0 a1 r h=>by
 refine X15.sym X2 X0hf (nt:=25) rfl rfl ?_ okM;unfold X7e at h;revert h;exact bI λv1 h2=>brI (λh3=>λe=>oj e▸X8 [.pure _ (AV.tup [(aB v1.1),(aI .i64 v1.2.1),(aI .i64 v1.2.2)]),Bt] (k:=fi)) λh3=>λe=>oj e▸X8 [.pure _ (AV.tup [(aB v1.1),(aI .i64 v1.2.1),(aI .i64 v1.2.2)]),Bf] (k:=fi)⟩
instance X01x:PZ 73 (∀ (a0:X00) (r:Int×Int),X95 a0=some r->Pz 73 [(Xz false a0)] (AV.tup [(aI .i64 r.1),(aI .i64 r.2)])):=⟨λa0 r h=>by
 refine X15.sym X2 fn73 (nt:=46) rfl rfl ?_ okM;unfold X95 at h;revert h;refine brI (λh1=>?_) λh1=>?_
 ·
  refine bI λv2 h3=>brI (λh4=>?_) λh4=>?_
  ·
   refine bI λe5 h6=>?_;try have qh6:=Xm h6
   exact λe=>oj e▸X8 [.el (aI .i64 (a0.Arg.length:Int)),Bt,.pure _ (AV.tup [(aI .i64 v2.1),(aI .i64 v2.2)]),Bt,.el (X3 e5)] (k:=fi)
  refine rnI [.el (aI .i64 (a0.Arg.length:Int)),Bt,.pure _ (AV.tup [(aI .i64 v2.1),(aI .i64 v2.2)]),Bf,.el (aI .i64 (a0.Where.length:Int))] ?_;refine brI (λh7=>?_) λh7=>λe=>oj e▸X8 [Bf] (k:=fi);refine bI λv8 h9=>brI (λh10=>?_) λh10=>λe=>oj e▸X8 [Bt,.pure _ (AV.tup [(aI .i64 v8.1),(aI .i64 v8.2)]),Bf] (k:=fi);refine bI λe11 h12=>?_;try have qh12:=Xm h12
  exact λe=>oj e▸X8 [Bt,.pure _ (AV.tup [(aI .i64 v8.1),(aI .i64 v8.2)]),Bt,.el (X3 e11)] (k:=fi)
 refine brI (λh13=>?_) λh13=>λe=>oj e▸X8 [.el (aI .i64 (a0.Arg.length:Int)),Bf,.el (aI .i64 (a0.Where.length:Int)),Bf] (k:=fi);refine bI λv14 h15=>rnI [.el (aI .i64 (a0.Arg.length:Int)),Bf,.el (aI .i64 (a0.Where.length:Int)),Bt,.pure _ (AV.tup [(aI .i64 v14.1),(aI .i64 v14.2)])] ?_;refine brI (λh16=>?_) λh16=>λe=>oj e▸X8 [Bf] (k:=fi);refine bI λe17 h18=>?_;try have qh18:=Xm h18
 exact λe=>oj e▸X8 [Bt,.el (X3 e17)] (k:=fi)⟩
instance X01y:PZ 35 (∀ (a0:X00) (r:Int×Int),X96 a0=some r->Pz 35 [(Xz false a0)] (AV.tup [(aI .i64 r.1),(aI .i64 r.2)])):=⟨λa0 r h=>by
 refine X15.sym X2 fn35 (nt:=13) rfl rfl ?_ okM;unfold X96 at h;revert h;exact bI λv1 h2=>brI (λh3=>λe=>oj e▸X8 [.pure _ (aI .i64 v1),Bt,.pure _ (aI .i64 v1)] (k:=fi)) λh3=>bI λv4 h5=>λe=>oj e▸X8 [.pure _ (aI .i64 v1),Bf,.pure _ (AV.tup [(aI .i64 v4.1),(aI .i64 v4.2)])] (k:=fi)⟩
instance X01w:PZ 139 (∀ (a0:Int) (a1:Int) (r:Int),X7c a0 a1=some r->Pz 139 [(aI .i64 a0),(aI .i64 a1)] (aI .i64 r)):=⟨λa0 a1 r h=>by
 refine X15.sym X2 X0he (nt:=17) rfl rfl ?_ okM;unfold X7c at h;revert h;exact brI (λh1=>λe=>oj e▸X8 [Bt] (k:=fi)) λh1=>brI (λh2=>λe=>oj e▸X8 [Bf,Bt] (k:=fi)) λh2=>λe=>oj e▸X8 [Bf,Bf] (k:=fi)⟩
end Go.Av.Tryz