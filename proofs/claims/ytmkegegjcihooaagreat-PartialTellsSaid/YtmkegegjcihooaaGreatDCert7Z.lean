/- Printed by decomp.py: that the program computes the functions. -/
import Derived.Test.YtmkegegjcihooaaGreatDCert6Z
set_option linter.all false

namespace Go.Av.Tryz
open Go.Proofs Go.D
set_option maxRecDepth 100000
set_option maxHeartbeats 40000000
theorem Xm7 {Q:Xp->St->Mu->Prop} {μ:Mu} (g:Xt) (N:Nat) (hl:g.Channels.length<=1000) (hN:N=g.Ops.length):∀ (xs:List Xk) (k:Nat) (hx:g.Channels.drop k=xs) (ei eo:List AV) (Li Lo:List (List Int)) (μi μo:Mu) (hi:Fam ei Li μi) (ho:Fam eo Lo μo) (li:Li.length=N) (lo:Lo.length=N) (bi:∀ l∈Li,l.length<=k) (bo:∀ l∈Lo,l.length<=k) (hkl:k<=g.Channels.length)
  (C0:∀ ei' eo' Li' Lo' μi' μo',Xar N g.Channels xs k Li Lo=some (Li',Lo')->Fam ei' Li' μi'->Fam eo' Lo' μo'->Li'.length=N->Lo'.length=N->(∀ l∈Li',l.length<=1000)->(∀ l∈Lo',l.length<=1000)->X0 Tryz.prog 143 0 Q (.exit (.exit 0)) [] ⟨fr [(1,AV.ptr 0 0 0),(2,.sc (.bool false)),(3,.ref 1 0 N),(4,.ref 2 0 N)],hp [(0,Ob [Xb false g] 2),(1,Ob (ei') 1),(2,Ob (eo') 1)],3⟩ (μi'++(μo'++μ)))
  (CR:Xar N g.Channels xs k Li Lo=none->∀ μ',X0 Tryz.prog 143 0 Q (.exit .ret) [] ⟨fr [(2,.sc (.bool false))],hp [],0⟩ μ'),
  X0 Tryz.prog 143 0 Q (.loop (X0w 0 (Xd Tryz.f102))) [] ⟨fr [(1,AV.ptr 0 0 0),(2,.sc (.bool false)),(3,.ref 1 0 N),(4,.ref 2 0 N),(21,AV.list false (g.Channels.map X8)),(22,aI .i64 (g.Channels.length:Int)),(23,aI .i64 (k:Int))],hp [(0,Ob [Xb false g] 2),(1,Ob ei 1),(2,Ob eo 1)],3⟩ (μi++(μo++μ)):=by
 intro xs
 induction xs with
 |nil =>
  intro k hx ei eo Li Lo μi μo hi ho li lo bi bo hkl C0 CR;have hk:=X06 hx;have hc:decide ((k:Int)<(g.Channels.length:Int))=false:=Yf om;refine X0.round ?_;refine X1f [Bf] ?_;refine X0.weakTo (L':=[(1,AV.ptr 0 0 0),(2,.sc (.bool false)),(3,.ref 1 0 N),(4,.ref 2 0 N)]) (G':=[(0,Ob [Xb false g] 2),(1,Ob ei 1),(2,Ob eo 1)]) (n':=3) [] (C0 ei eo Li Lo μi μo rfl hi ho li lo (λl h=>Nat.le_trans (bi l h) om) (λl h=>Nat.le_trans (bo l h) om)) ?_ ?_ ?_
  ·rfl
  ·repeat' first|apply Ya|exact wkA
  ·refine⟨⟨_,rfl,rfl,rfl⟩,by decide,?_,rfl,rfl,⟨_,rfl,rfl,X00 _⟩,by decide,λe he a ha=>hi.ok e he a ha _,rfl,rfl,⟨_,rfl,rfl,X00 _⟩,by decide,λe he a ha=>ho.ok e he a ha _,rfl,rfl,trivial⟩<;>exact wkB
 |cons x xs ih =>
  intro k hx ei eo Li Lo μi μo hi ho li lo bi bo hkl C0 CR;obtain⟨hk,hg,hx1⟩:=Xy hx;have hc:decide ((k:Int)<(g.Channels.length:Int))=true:=Yt om;have hgk:g.Channels[k]?=some x:=by
   have:=congrArg (λl=>l[0]?) hx;simpa using this
  have hg0:g.Channels[k - 1]?=some (g.Channels[k - 1]?.getD default):=by
   rw[Ye om];rfl
  refine X0.round ?_
  cases h1:jB1 N x with
  |true =>
   refine X1f [Bt,.el (X8 x),Bt] (o:=?o1) ?k1
   case o1=>subst hN;repeat' first|apply Ya|exact trivial|exact h1|exact h2|exact X32 om om|exact λa=>a|exact hc|exact Int.natCast_nonneg _|(intro a b;rw[a,b];rfl)|(rw[List.length_map];exact h1)|(rw[Int.toNat_natCast,List.getElem?_map,hgk];rfl)|(rw[X00i];first|exact Int.natCast_nonneg _|(rw[Int.toNat_natCast,List.getElem?_map,hg0];rfl))
   exact wkT [] (CR (by rw[Xar,h1,cond_true]) _)
  |false =>
  cases h2:jB2 k (g.Channels[k - 1]?.getD default) x with
  |true =>
   refine X1f [Bt,.el (X8 x),Bf,.el (X8 (g.Channels[k-1]?.getD default)),Bt] (o:=?o3) ?k3
   case o3=>subst hN;repeat' first|apply Ya|exact trivial|exact h1|exact h2|exact X32 om om|exact λa=>a|exact hc|exact Int.natCast_nonneg _|(intro a b;rw[a,b];rfl)|(rw[List.length_map];exact h1)|(rw[Int.toNat_natCast,List.getElem?_map,hgk];rfl)|(rw[X00i];first|exact Int.natCast_nonneg _|(rw[Int.toNat_natCast,List.getElem?_map,hg0];rfl))
   exact wkT [] (CR (by rw[Xar,h1,h2,cond_true,cond_false]) _)
  |false =>
  obtain⟨t1,t2,t3,t4⟩:=Xz3 h1;have hgo:Xar N g.Channels (x::xs) k Li Lo=Xar N g.Channels xs (k+1) (push Li x.To x.In) (push Lo x.From x.Out):=by rw[Xar,h1,h2,cond_false,cond_false]
  rw[hgo] at C0 CR;refine X1f [Bt,.el (X8 x),Bf,.el (X8 (g.Channels[k-1]?.getD default)),Bf,.stop 10] (o:=?o4) ?k4
  case o4=>subst hN;repeat' first|apply Ya|exact trivial|exact h1|exact h2|exact X32 om om|exact λa=>a|exact hc|exact Int.natCast_nonneg _|(intro a b;rw[a,b];rfl)|(rw[List.length_map];exact h1)|(rw[Int.toNat_natCast,List.getElem?_map,hgk];rfl)|(rw[X00i];first|exact Int.natCast_nonneg _|(rw[Int.toNat_natCast,List.getElem?_map,hg0];rfl))
  have oki:=hi.ok;have oko:=ho.ok;refine X0.weakTo (L':=[(1,AV.ptr 0 0 0),(2,.sc (.bool false)),(3,.ref 1 0 N),(4,.ref 2 0 N),(6,.ptr 3 0 0),(21,AV.list false (g.Channels.map X8)),(22,aI .i64 (g.Channels.length:Int)),(23,aI .i64 (k:Int))]) (G':=[(0,Ob [Xb false g] 2),(1,Ob ei 1),(2,Ob eo 1),(3,Ob [X8 x] 5)]) (n':=4) [] ?_ ?_ ?_ ?_
  rotate_left
  ·rfl
  ·repeat' first|apply Ya|exact wkA
  ·refine⟨⟨_,rfl,rfl,rfl⟩,by decide,?_,rfl,rfl,⟨_,rfl,rfl,X00 _⟩,by decide,λe he a ha=>oki e he a ha _,rfl,rfl,⟨_,rfl,rfl,X00 _⟩,by decide,λe he a ha=>oko e he a ha _,rfl,rfl,⟨_,rfl,rfl,rfl⟩,by decide,?_,rfl,rfl,trivial⟩<;>exact wkB
  have hei:=hi.len;have heo:=ho.len;have hiT:=(Ye (l:=Li) (i:=x.To.toNat) om);have hiF:=(Ye (l:=Lo) (i:=x.From.toNat) om);have hb1:(Li[x.To.toNat]' om).length<=k:=bi _ (List.getElem_mem _);have hb2:(Lo[x.From.toNat]' om).length<=k:=bo _ (List.getElem_mem _);obtain⟨μ1,d1,ci,pi⟩:=hi.at _ _ hiT;obtain⟨μ2,d2,co,po⟩:=ho.at _ _ hiF;have hp1:push Li x.To x.In=Li.set x.To.toNat (Li[x.To.toNat]' om++[x.In]):=by unfold push;rw[hiT];rfl
  have hp2:push Lo x.From x.Out=Lo.set x.From.toNat (Lo[x.From.toNat]' om++[x.Out]):=by unfold push;rw[hiF];rfl
  have pl1:=Xkw Li x.To x.In;have pl2:=Xkw Lo x.From x.Out;have pb1:=Xy7 (i:=x.To) (x:=x.In) bi;have pb2:=Xy7 (i:=x.From) (x:=x.Out) bo;generalize push Li x.To x.In=Pi at *;generalize push Lo x.From x.Out=Po at *;generalize Li[x.To.toNat]' om=l1 at *;generalize Lo[x.From.toNat]' om=l2 at *;have fin:∀ e1 e2 μa μb,Fam e1 Pi μa->Fam e2 Po μb->X0 Tryz.prog 143 0 Q (.loop (X0w 0 (Xd Tryz.f102))) [] ⟨fr [(1,AV.ptr 0 0 0),(2,.sc (.bool false)),(3,.ref 1 0 N),(4,.ref 2 0 N),(21,AV.list false (g.Channels.map X8)),(22,aI .i64 (g.Channels.length:Int)),(23,aI .i64 ((k+1:Nat):Int))],hp [(0,Ob [Xb false g] 2),(1,Ob e1 1),(2,Ob e2 1)],3⟩ (μa++(μb++μ)) :=
   λe1 e2 μa μb f1 f2=>ih (k+1) hx1 e1 e2 Pi Po μa μb f1 f2 om om pb1 pb2 om C0 CR
  rcases ci with ⟨ci1,rfl,rfl⟩|⟨b1,ety1,arr1,ci1,cf1,cp1⟩<;>rcases co with ⟨co1,rfl,rfl⟩|⟨b2,ety2,arr2,co1,cf2,cp2⟩
  ·refine X1f [.see [(87,[3]),(90,[3]),(93,[3]),(95,[1]),(97,[3]),(102,[3]),(104,[2]),(106,[3])],.ld (X8 x),.ld (X8 x),.ld (X8 x),.el .nils,.ld .nils,.ld (X8 x),.ld (X8 x),.el .nils,.ld .nils,.ld (X8 x),.el .nils,.ld .nils,.el .nils,.ld .nils,.stop 11] (o:=?o00) ?k00
   case o00 =>
    repeat' first|apply Ya|exact trivial|rfl|omega|exact(List.length_map _)|(rw[Nat.zero_add];first|exact Xeq rfl (by first|omega|(simp only[List.length_set];omega))|exact ci1|exact co1)|exact Nat.le_of_ble_eq_true rfl|(intro e he;rw[List.mem_singleton.1 he];rfl)|(intro h;cases h)|(simp;done)|(show _*8<=_;simp;omega)|(simp[maxLen];omega)
   refine X0.disownAt 1 x.To.toNat 18 [x.In] rfl rfl (by decide) (Xeq (Nat.zero_add _) (by simp only[List.length_set];omega)) (by simp) (by simp) rfl λb1' ety1' arr1' f1=>?_;refine X0.disownAt 2 x.From.toNat 27 [x.Out] rfl rfl (by decide) (Xeq (Nat.zero_add _) (by simp only[List.length_set];omega)) (by simp) (by simp) rfl λb2' ety2' arr2' f2=>?_;obtain⟨μa,fa,pa⟩:=pi b1' ety1' arr1' [x.In] f1;obtain⟨μb,fb,pb⟩:=po b2' ety2' arr2' [x.Out] f2;refine X0.permMu (Xl7 pa pb) (((show Xi7 (Xmv b2' ety2' arr2'::Xmv b1' ety1' arr1'::(μi++(μo++μ)))=Xi7 (μi++(μo++μ)) from rfl).trans ((d1 _).trans (d2 _))).trans ((fa.ds _).trans (fb.ds _)).symm) ?_;simp only[List.nil_append] at hp1 hp2;rw[<-hp1] at fa;rw[<-hp2] at fb;refine X0.weakTo (L':=[(1,AV.ptr 0 0 0),(2,.sc (.bool false)),(3,.ref 1 0 N),(4,.ref 2 0 N),(21,AV.list false (g.Channels.map X8)),(22,aI .i64 (g.Channels.length:Int)),(23,aI .i64 (k:Int))]) (G':=[(0,Ob [Xb false g] 2),(1,Ob (ei.set x.To.toNat (Xet b1' (List.length [x.In]) arr1'.size)) 1),(2,Ob (eo.set x.From.toNat (Xet b2' (List.length [x.Out]) arr2'.size)) 1)]) (n':=3) [] ?_ ?_ ?_ ?_
   rotate_left
   ·rfl
   ·repeat' first|apply Ya|exact wkA
   ·refine⟨⟨_,rfl,rfl,rfl⟩,by decide,?_,rfl,rfl,⟨_,rfl,rfl,Eq.trans ?_ (X00 _)⟩,by decide,λe he a ha=>fa.ok e he a ha _,rfl,rfl,⟨_,rfl,rfl,Eq.trans ?_ (X00 _)⟩,by decide,λe he a ha=>fb.ok e he a ha _,rfl,rfl,trivial⟩
    ·exact wkB
    ·simp[List.set_set]
    simp[List.set_set]
   refine X1f [] (o:=?p00) ?q00
   case p00=>repeat' first|apply Ya|exact trivial|exact X32 om om
   have w:=fin _ _ _ _ fa fb;refine X0.weakTo (L':=[(1,AV.ptr 0 0 0),(2,.sc (.bool false)),(3,.ref 1 0 N),(4,.ref 2 0 N),(21,AV.list false (g.Channels.map X8)),(22,aI .i64 (g.Channels.length:Int)),(23,aI .i64 ((k+1:Nat):Int))]) (n':=3) [] w ?_ ?_ ?_
   ·rfl
   ·repeat' first|apply Ya|exact wkA
   refine⟨⟨_,rfl,rfl,rfl⟩,by decide,?_,rfl,rfl,⟨_,rfl,rfl,X00 _⟩,by decide,λe he a ha=>fa.ok e he a ha _,rfl,rfl,⟨_,rfl,rfl,X00 _⟩,by decide,λe he a ha=>fb.ok e he a ha _,rfl,rfl,trivial⟩<;>exact wkB
  ·refine X0.adoptAt (μ1:=μi++(μ2++μ)) 2 x.From.toNat ety2 rfl co1 cf2 (((cp2.append_right μ).append_left μi).trans List.perm_middle) (((d1 _).trans (ho.ds _)).trans ((d1 _).trans (d2 _)).symm) ?_;refine X1f [.see [(87,[3]),(90,[3]),(93,[3]),(95,[1]),(97,[3]),(102,[3]),(104,[2]),(106,[3])],.ld (X8 x),.ld (X8 x),.ld (X8 x),.el .nils,.ld .nils,.ld (X8 x),.ld (X8 x),.el (.ref 4 0 l2.length),.ld (.ref 4 0 l2.length),.ld (X8 x),.el .nils,.ld .nils,.el (.ref 4 0 l2.length),.ld (.ref 4 0 l2.length),.stop 11] (o:=?o01) ?k01
   case o01 =>
    repeat' first|apply Ya|exact trivial|rfl|omega|exact(List.length_map _)|(rw[Nat.zero_add];first|exact Xeq rfl (by first|omega|(simp only[List.length_set];omega))|exact ci1|exact co1)|exact Nat.le_of_ble_eq_true rfl|(intro e he;rw[List.mem_singleton.1 he];rfl)|(intro h;cases h)|(simp;done)|(show _*8<=_;simp;omega)|(simp[maxLen];omega)
   refine X0.disownAt 1 x.To.toNat 19 [x.In] rfl rfl (by decide) (Xeq (Nat.zero_add _) (by simp only[List.length_set];omega)) (by simp) (by simp) rfl λb1' ety1' arr1' f1=>?_;refine X0.disownAt 2 x.From.toNat 28 (l2++[x.Out]) rfl rfl (by decide) (Xeq (Nat.zero_add _) (by simp only[List.length_set];omega)) (by simp) (by simp) rfl λb2' ety2' arr2' f2=>?_;obtain⟨μa,fa,pa⟩:=pi b1' ety1' arr1' [x.In] f1;obtain⟨μb,fb,pb⟩:=po b2' ety2' arr2' (l2++[x.Out]) f2;refine X0.permMu (Xl7 pa pb) (((show Xi7 (Xmv b2' ety2' arr2'::Xmv b1' ety1' arr1'::(μi++(μ2++μ)))=Xi7 (μi++(μ2++μ)) from rfl).trans ((d1 _).trans (d2 _))).trans ((fa.ds _).trans (fb.ds _)).symm) ?_;simp only[List.nil_append] at hp1 hp2;rw[<-hp1] at fa;rw[<-hp2] at fb;refine X0.weakTo (L':=[(1,AV.ptr 0 0 0),(2,.sc (.bool false)),(3,.ref 1 0 N),(4,.ref 2 0 N),(21,AV.list false (g.Channels.map X8)),(22,aI .i64 (g.Channels.length:Int)),(23,aI .i64 (k:Int))]) (G':=[(0,Ob [Xb false g] 2),(1,Ob (ei.set x.To.toNat (Xet b1' (List.length [x.In]) arr1'.size)) 1),(2,Ob (eo.set x.From.toNat (Xet b2' (List.length (l2++[x.Out])) arr2'.size)) 1)]) (n':=3) [] ?_ ?_ ?_ ?_
   rotate_left
   ·rfl
   ·repeat' first|apply Ya|exact wkA
   ·refine⟨⟨_,rfl,rfl,rfl⟩,by decide,?_,rfl,rfl,⟨_,rfl,rfl,Eq.trans ?_ (X00 _)⟩,by decide,λe he a ha=>fa.ok e he a ha _,rfl,rfl,⟨_,rfl,rfl,Eq.trans ?_ (X00 _)⟩,by decide,λe he a ha=>fb.ok e he a ha _,rfl,rfl,trivial⟩
    ·exact wkB
    ·simp[List.set_set]
    simp[List.set_set]
   refine X1f [] (o:=?p01) ?q01
   case p01=>repeat' first|apply Ya|exact trivial|exact X32 om om
   have w:=fin _ _ _ _ fa fb;refine X0.weakTo (L':=[(1,AV.ptr 0 0 0),(2,.sc (.bool false)),(3,.ref 1 0 N),(4,.ref 2 0 N),(21,AV.list false (g.Channels.map X8)),(22,aI .i64 (g.Channels.length:Int)),(23,aI .i64 ((k+1:Nat):Int))]) (n':=3) [] w ?_ ?_ ?_
   ·rfl
   ·repeat' first|apply Ya|exact wkA
   refine⟨⟨_,rfl,rfl,rfl⟩,by decide,?_,rfl,rfl,⟨_,rfl,rfl,X00 _⟩,by decide,λe he a ha=>fa.ok e he a ha _,rfl,rfl,⟨_,rfl,rfl,X00 _⟩,by decide,λe he a ha=>fb.ok e he a ha _,rfl,rfl,trivial⟩<;>exact wkB
  ·refine X0.adoptAt 1 x.To.toNat ety1 rfl ci1 cf1 (cp1.append_right _) ((hi.ds _).trans (d1 _).symm) ?_;refine X1f [.see [(87,[3]),(90,[3]),(93,[3]),(95,[1]),(97,[3]),(102,[3]),(104,[2]),(106,[3])],.ld (X8 x),.ld (X8 x),.ld (X8 x),.el (.ref 4 0 l1.length),.ld (.ref 4 0 l1.length),.ld (X8 x),.ld (X8 x),.el .nils,.ld .nils,.ld (X8 x),.el (.ref 4 0 l1.length),.ld (.ref 4 0 l1.length),.el .nils,.ld .nils,.stop 11] (o:=?o10) ?k10
   case o10 =>
    repeat' first|apply Ya|exact trivial|rfl|omega|exact(List.length_map _)|(rw[Nat.zero_add];first|exact Xeq rfl (by first|omega|(simp only[List.length_set];omega))|exact ci1|exact co1)|exact Nat.le_of_ble_eq_true rfl|(intro e he;rw[List.mem_singleton.1 he];rfl)|(intro h;cases h)|(simp;done)|(show _*8<=_;simp;omega)|(simp[maxLen];omega)
   refine X0.disownAt 1 x.To.toNat 19 (l1++[x.In]) rfl rfl (by decide) (Xeq (Nat.zero_add _) (by simp only[List.length_set];omega)) (by simp) (by simp) rfl λb1' ety1' arr1' f1=>?_;refine X0.disownAt 2 x.From.toNat 28 [x.Out] rfl rfl (by decide) (Xeq (Nat.zero_add _) (by simp only[List.length_set];omega)) (by simp) (by simp) rfl λb2' ety2' arr2' f2=>?_;obtain⟨μa,fa,pa⟩:=pi b1' ety1' arr1' (l1++[x.In]) f1;obtain⟨μb,fb,pb⟩:=po b2' ety2' arr2' [x.Out] f2;refine X0.permMu (Xl7 pa pb) (((show Xi7 (Xmv b2' ety2' arr2'::Xmv b1' ety1' arr1'::(μ1++(μo++μ)))=Xi7 (μ1++(μo++μ)) from rfl).trans ((d1 _).trans (d2 _))).trans ((fa.ds _).trans (fb.ds _)).symm) ?_;simp only[List.nil_append] at hp1 hp2;rw[<-hp1] at fa;rw[<-hp2] at fb;refine X0.weakTo (L':=[(1,AV.ptr 0 0 0),(2,.sc (.bool false)),(3,.ref 1 0 N),(4,.ref 2 0 N),(21,AV.list false (g.Channels.map X8)),(22,aI .i64 (g.Channels.length:Int)),(23,aI .i64 (k:Int))]) (G':=[(0,Ob [Xb false g] 2),(1,Ob (ei.set x.To.toNat (Xet b1' (List.length (l1++[x.In])) arr1'.size)) 1),(2,Ob (eo.set x.From.toNat (Xet b2' (List.length [x.Out]) arr2'.size)) 1)]) (n':=3) [] ?_ ?_ ?_ ?_
   rotate_left
   ·rfl
   ·repeat' first|apply Ya|exact wkA
   ·refine⟨⟨_,rfl,rfl,rfl⟩,by decide,?_,rfl,rfl,⟨_,rfl,rfl,Eq.trans ?_ (X00 _)⟩,by decide,λe he a ha=>fa.ok e he a ha _,rfl,rfl,⟨_,rfl,rfl,Eq.trans ?_ (X00 _)⟩,by decide,λe he a ha=>fb.ok e he a ha _,rfl,rfl,trivial⟩
    ·exact wkB
    ·simp[List.set_set]
    simp[List.set_set]
   refine X1f [] (o:=?p10) ?q10
   case p10=>repeat' first|apply Ya|exact trivial|exact X32 om om
   have w:=fin _ _ _ _ fa fb;refine X0.weakTo (L':=[(1,AV.ptr 0 0 0),(2,.sc (.bool false)),(3,.ref 1 0 N),(4,.ref 2 0 N),(21,AV.list false (g.Channels.map X8)),(22,aI .i64 (g.Channels.length:Int)),(23,aI .i64 ((k+1:Nat):Int))]) (n':=3) [] w ?_ ?_ ?_
   ·rfl
   ·repeat' first|apply Ya|exact wkA
   refine⟨⟨_,rfl,rfl,rfl⟩,by decide,?_,rfl,rfl,⟨_,rfl,rfl,X00 _⟩,by decide,λe he a ha=>fa.ok e he a ha _,rfl,rfl,⟨_,rfl,rfl,X00 _⟩,by decide,λe he a ha=>fb.ok e he a ha _,rfl,rfl,trivial⟩<;>exact wkB
  refine X0.adoptAt 1 x.To.toNat ety1 rfl ci1 cf1 (cp1.append_right _) ((hi.ds _).trans (d1 _).symm) ?_;refine X0.adoptAt (μ1:=μ1++(μ2++μ)) 2 x.From.toNat ety2 rfl co1 cf2 (((cp2.append_right μ).append_left μ1).trans List.perm_middle) (((d1 _).trans (ho.ds _)).trans ((d1 _).trans (d2 _)).symm) ?_;refine X1f [.see [(87,[3]),(90,[3]),(93,[3]),(95,[1]),(97,[3]),(102,[3]),(104,[2]),(106,[3])],.ld (X8 x),.ld (X8 x),.ld (X8 x),.el (.ref 4 0 l1.length),.ld (.ref 4 0 l1.length),.ld (X8 x),.ld (X8 x),.el (.ref 5 0 l2.length),.ld (.ref 5 0 l2.length),.ld (X8 x),.el (.ref 4 0 l1.length),.ld (.ref 4 0 l1.length),.el (.ref 5 0 l2.length),.ld (.ref 5 0 l2.length),.stop 11] (o:=?o11) ?k11
  case o11 =>
   repeat' first|apply Ya|exact trivial|rfl|omega|exact(List.length_map _)|(rw[Nat.zero_add];first|exact Xeq rfl (by first|omega|(simp only[List.length_set];omega))|exact ci1|exact co1)|exact Nat.le_of_ble_eq_true rfl|(intro e he;rw[List.mem_singleton.1 he];rfl)|(intro h;cases h)|(simp;done)|(show _*8<=_;simp;omega)|(simp[maxLen];omega)
  refine X0.disownAt 1 x.To.toNat 20 (l1++[x.In]) rfl rfl (by decide) (Xeq (Nat.zero_add _) (by simp only[List.length_set];omega)) (by simp) (by simp) rfl λb1' ety1' arr1' f1=>?_;refine X0.disownAt 2 x.From.toNat 29 (l2++[x.Out]) rfl rfl (by decide) (Xeq (Nat.zero_add _) (by simp only[List.length_set];omega)) (by simp) (by simp) rfl λb2' ety2' arr2' f2=>?_;obtain⟨μa,fa,pa⟩:=pi b1' ety1' arr1' (l1++[x.In]) f1;obtain⟨μb,fb,pb⟩:=po b2' ety2' arr2' (l2++[x.Out]) f2;refine X0.permMu (Xl7 pa pb) (((show Xi7 (Xmv b2' ety2' arr2'::Xmv b1' ety1' arr1'::(μ1++(μ2++μ)))=Xi7 (μ1++(μ2++μ)) from rfl).trans ((d1 _).trans (d2 _))).trans ((fa.ds _).trans (fb.ds _)).symm) ?_
  skip
  rw[<-hp1] at fa;rw[<-hp2] at fb;refine X0.weakTo (L':=[(1,AV.ptr 0 0 0),(2,.sc (.bool false)),(3,.ref 1 0 N),(4,.ref 2 0 N),(21,AV.list false (g.Channels.map X8)),(22,aI .i64 (g.Channels.length:Int)),(23,aI .i64 (k:Int))]) (G':=[(0,Ob [Xb false g] 2),(1,Ob (ei.set x.To.toNat (Xet b1' (List.length (l1++[x.In])) arr1'.size)) 1),(2,Ob (eo.set x.From.toNat (Xet b2' (List.length (l2++[x.Out])) arr2'.size)) 1)]) (n':=3) [] ?_ ?_ ?_ ?_
  rotate_left
  ·rfl
  ·repeat' first|apply Ya|exact wkA
  ·refine⟨⟨_,rfl,rfl,rfl⟩,by decide,?_,rfl,rfl,⟨_,rfl,rfl,Eq.trans ?_ (X00 _)⟩,by decide,λe he a ha=>fa.ok e he a ha _,rfl,rfl,⟨_,rfl,rfl,Eq.trans ?_ (X00 _)⟩,by decide,λe he a ha=>fb.ok e he a ha _,rfl,rfl,trivial⟩
   ·exact wkB
   ·simp[List.set_set]
   simp[List.set_set]
  refine X1f [] (o:=?p11) ?q11
  case p11=>repeat' first|apply Ya|exact trivial|exact X32 om om
  have w:=fin _ _ _ _ fa fb;refine X0.weakTo (L':=[(1,AV.ptr 0 0 0),(2,.sc (.bool false)),(3,.ref 1 0 N),(4,.ref 2 0 N),(21,AV.list false (g.Channels.map X8)),(22,aI .i64 (g.Channels.length:Int)),(23,aI .i64 ((k+1:Nat):Int))]) (n':=3) [] w ?_ ?_ ?_
  ·rfl
  ·repeat' first|apply Ya|exact wkA
  refine⟨⟨_,rfl,rfl,rfl⟩,by decide,?_,rfl,rfl,⟨_,rfl,rfl,X00 _⟩,by decide,λe he a ha=>fa.ok e he a ha _,rfl,rfl,⟨_,rfl,rfl,X00 _⟩,by decide,λe he a ha=>fb.ok e he a ha _,rfl,rfl,trivial⟩<;>exact wkB
theorem X0.finK {P:Program} {T:Ty} {nt n0:Nat} {fn:Func} {K:AV->X0c->Nat->Prop} {L:List (Nat×AV)} {G:List (Nat×Obj)} {n:Nat} {μ:Mu} {rs:List AV} (hr:Xxy T L G fn.results.toList=some rs) (hk:K (Xho rs) (hp G) n) :
  X0 P nt n0 (retM T fn K) (.exit .ret) [] ⟨fr L,hp G,n⟩ μ:=Cl.mk ⟨rs,Xpa _ _ hr,hk⟩
theorem X05o {P:Program} {f n o ln:Nat} {G:List (Nat×Obj)} (L:Xb4 P f) {l:List Int} (ho:hp G o=some { es:=l.map (aI .i64),esz:=1 }) (hln:ln=l.length) (hb:l.length<4611686018427387904) (hfn:∃ fn code,X1g P f fn code) :
  Xw9 P f [.ref o 0 ln] G n (.tup []) ((o,Ob ((X2f l).map (aI .i64)) 1)::G) n:=by
 subst hln;refine⟨(X02g (n:=n) L ho hb hfn).mono λr H' n' ⟨g1,g2,g3⟩=>⟨g1,?_,g3⟩⟩;rw[g2,Xfn (hx:=rfl)]
theorem Xuz {P:Program} {f n:Nat} {G:List (Nat×Obj)} (L:Xb4 P f) (hfn:∃ fn code,X1g P f fn code):Xw9 P f [.nils] G n (.tup []) G n :=
 ⟨Xxa L hfn⟩
theorem X04u:∃ fn code,X1g Tryz.prog 217 fn code:=⟨Tryz.f217,Xd Tryz.f217,⟨Tryz.func217,by kernel_rfl,rfl⟩⟩
theorem X08e {Q:Xp->St->Mu->Prop} {μ:Mu} (lo hi:Int) (s:List Int) (hl:s.length<=1000):∀ (xs:List Int) (k:Nat) (hx:s.drop k=xs)
  (C0:X91 xs k=true->X0 Tryz.prog 32 1 Q (.exit (.exit 0)) [] ⟨fr [(0,.ref 0 0 s.length),(3,.ptr 1 0 0),(4,.sc (.bool false))],hp [(0,Ob (s.map (aI .i64)) 1),(1,Ob [.agg [aI .i64 lo,aI .i64 hi]] 2)],2⟩ μ)
  (CR:X91 xs k=false->X0 Tryz.prog 32 1 Q (.exit .ret) [] ⟨fr [(4,.sc (.bool false))],hp [(0,Ob (s.map (aI .i64)) 1)],2⟩ μ),
  X0 Tryz.prog 32 1 Q (.loop (X0w 0 (Xd Tryz.f153))) [] ⟨fr [(0,.ref 0 0 s.length),(3,.ptr 1 0 0),(4,.sc (.bool false)),(9,.ref 0 0 s.length),(10,aI .i64 (s.length:Int)),(11,aI .i64 (k:Int))],hp [(0,Ob (s.map (aI .i64)) 1),(1,Ob [.agg [aI .i64 lo,aI .i64 hi]] 2)],2⟩ μ:=by
 intro xs
 induction xs with
 |nil =>
  intro k hx C0 CR;have hk:=X06 hx;have hc:decide ((k:Int)<(s.length:Int))=false:=Yf om;refine X0.round ?_;exact X3 [Bf] (k:=wkT [] (C0 rfl))
 |cons x xs ih =>
  intro k hx C0 CR;obtain⟨hk,hg,hx1⟩:=Xy hx;have hc:decide ((k:Int)<(s.length:Int))=true:=Yt om;have hsk:s[k]?=some x:=by
   have:=congrArg (λl=>l[0]?) hx;simpa using this
  refine X0.round ?_
  cases h1:!(x==(k:Int)) with
  |true =>
   refine X1f [Bt,.el (aI .i64 x),.ld (aI .i64 x),Bt] (o:=?o1) ?k1
   case o1 =>
    repeat' first|apply Ya|exact trivial|exact h1|exact hc|exact Int.natCast_nonneg _|omega|(show(s.map _)[_]?=_;rw[Nat.zero_add,Int.toNat_natCast,List.getElem?_map,hsk];rfl)|(rw[Int.toNat_natCast];omega)
   exact wkT [] (CR (by rw[X91,h1,cond_true]))
  |false =>
   refine X1f [Bt,.el (aI .i64 x),.ld (aI .i64 x),Bf] (o:=?o2) ?k2
   case o2 =>
    repeat' first|apply Ya|exact trivial|exact h1|exact hc|exact Int.natCast_nonneg _|exact X32 om om|omega|(show(s.map _)[_]?=_;rw[Nat.zero_add,Int.toNat_natCast,List.getElem?_map,hsk];rfl)|(rw[Int.toNat_natCast];omega)
   have he:X91 (x::xs) k=X91 xs (k+1):=by rw[X91,h1,cond_false]
   rw[he] at C0 CR;exact wkT [] (ih (k+1) hx1 C0 CR)
theorem Xd4 (L:Xb4 Tryz.prog 217) (l:List Int) (lo hi:Int) (hb:l.length<=1000) :
  HC Tryz.prog 153 [.ref 0 0 l.length,.agg [aI .i64 lo,aI .i64 hi]] (hp [(0,Ob (l.map (aI .i64)) 1)]) 1 (λr H' _=>r=aB (X7q l lo hi)/\H' 0=some { es:=(X2f l).map (aI .i64),esz:=1 }):=by
 have hs:=X8g l;refine HC.of_bodyM X9 X0ak (nt:=32) rfl (Nat.le_of_ble_eq_true rfl) (X41.ofCl ?_);refine X0.weakTo (cf:=.code _) (K:=[]) (L':=[(0,.ref 0 0 l.length),(1,.agg [aI .i64 lo,aI .i64 hi])]) (G':=[(0,Ob (l.map (aI .i64)) 1)]) (n':=1) [] ?_ ?_ ?_ ?_
 rotate_left
 ·rfl
 ·repeat' first|apply Ya|exact wkA
 ·repeat' first|apply Ya|exact wkB
 refine X1f [.call (.tup []) [(0,Ob ((X2f l).map (aI .i64)) 1),(1,Ob [.agg [aI .i64 lo,aI .i64 hi]] 2),(0,Ob (l.map (aI .i64)) 1)] 2] (o:=?o1) ?k1
 case o1=>exact⟨X05o L rfl rfl om X04u,trivial⟩
 refine X0.cut ?_;refine wkT [] (X08e lo hi (X2f l) om (X2f l) 0 rfl (λh=>?_) (λh=>?_))
 ·refine X0.glue ?_
  have he:X7q l lo hi=(bif decide ((List.length (X2f l):Int) >= lo) then decide ((List.length (X2f l):Int)<=hi) else false):=by unfold X7q;rw[h,cond_true,hs]
  rw[he];refine X1f [.ix 0,.ix 1] (o:=?o2) ?k2
  case o2=>repeat' first|apply Ya|exact trivial|exact λa=>a|(intro _;decide)|decide|(intro _;rfl)
  exact X0.finK rfl ⟨rfl,rfl⟩
 ·refine X0.glue ?_;refine X1f [] ?_;exact X0.finK rfl ⟨by unfold X7q;rw[h,cond_false];rfl,rfl⟩
theorem Xa6 (L:Xb4 Tryz.prog 217) (lo hi:Int):X05 Tryz.prog 153 [.nils,.agg [aI .i64 lo,aI .i64 hi]] (aB (X7q [] lo hi)):=by
 refine X05.sym X9 X0ak (nt:=32) rfl rfl ?_ (Xs .nils (Xs (.agg (Xs .sc (Xs .sc X3k))) X3k));refine X1f [.call (.tup []) [(0,Ob [.agg [aI .i64 lo,aI .i64 hi]] 2)] 1] (o:=?o1) ?k1
 case o1=>exact⟨Xuz L X04u,trivial⟩
 have he:X7q [] lo hi=(bif decide ((0:Int) >= lo) then decide ((0:Int)<=hi) else false):=by
  unfold X7q;rw[show X2f []=[] from List.eq_nil_of_length_eq_zero (X8g [])];rfl
 rw[he];refine X0.round ?_;refine X1f [Bf,.ix 0,.ix 1] (o:=?o2) ?k2
 case o2=>repeat' first|apply Ya|exact trivial|exact λa=>a|(intro _;decide)|decide|(intro _;rfl)|rfl
 exact fi
theorem Xm6 {Q:Xp->St->Mu->Prop} {μ:Mu} (L:Xb4 Tryz.prog 217) (g:Xt) (N:Nat) (hl:g.Ops.length<=1000) (hN:N=g.Ops.length):∀ (os:List GOp) (k:Nat) (hx:g.Ops.drop k=os) (pi po ti to:List AV) (li lo:List (List Int)) (μi μo:Mu) (fi:Fam ti li μi) (fo:Fam to lo μo) (hpi:pi.length=k) (hpo:po.length=k) (lli:li.length+k=N) (llo:lo.length+k=N)
  (oki:∀ e∈pi,∀ a∈e.cells,∀ M,a.Ok M) (oko:∀ e∈po,∀ a∈e.cells,∀ M,a.Ok M) (bi:∀ l∈li,l.length<=1000) (bo:∀ l∈lo,l.length<=1000) (r:Bool) (h:X62 os li lo=some r)
  (C0:r=true->∀ μ',X0 Tryz.prog 143 0 Q (.exit (.exit 2)) [] ⟨fr [],hp [],0⟩ μ') (CR:r=false->∀ μ',X0 Tryz.prog 143 0 Q (.exit .ret) [] ⟨fr [(2,.sc (.bool false))],hp [],0⟩ μ'),
  X0 Tryz.prog 143 0 Q (.loop (X0w 1 (Xd Tryz.f102))) [] ⟨fr [(3,.ref 1 0 N),(4,.ref 2 0 N),(113,AV.list false (g.Ops.map X2g)),(114,aI .i64 (g.Ops.length:Int)),(115,aI .i64 (k:Int))],hp [(1,Ob (pi++ti) 1),(2,Ob (po++to) 1)],3⟩ (μi++(μo++μ)):=by
 intro os
 induction os with
 |nil =>
  intro k hx pi po ti to li lo μi μo fi fo hpi hpo lli llo oki oko bi bo r h C0 CR;have hk:=X06 hx;have hc:decide ((k:Int)<(g.Ops.length:Int))=false:=Yf om;refine X0.round ?_;exact X3 [Bf] (k:=wkT [] (C0 (oj h).symm _))
 |cons o os ih =>
  intro k hx pi po ti to li lo μi μo ffi ffo hpi hpo lli llo oki oko bi bo r h C0 CR;obtain⟨hk,hg,hx1⟩:=Xy hx;have hc:decide ((k:Int)<(g.Ops.length:Int))=true:=Yt om;have hgk:g.Ops[k]?=some o:=by
   have:=congrArg (λl=>l[0]?) hx;simpa using this
  have hlo:=ffo.len;have hli:=ffi.len;rw[X62] at h;revert h;refine bI λb hb h=>?_;refine X0.round ?_;refine X1f [Bt,.el (X2g o),.pure [aI .u8 o.Kind] (.tup [X1k b.1,X1k b.2]),.stop 16] (o:=?oo1) ?kk1
  case oo1 =>
   repeat' first|apply Ya|exact trivial|exact hc|exact Int.natCast_nonneg _|(rw[Int.toNat_natCast,List.getElem?_map,hgk];rfl)|exact pcM
  have okt:∀ e∈pi++ti,∀ a∈e.cells,∀ M,a.Ok M:=λe he=>(List.mem_append.1 he).elim (oki e) (ffi.ok e);have oku:∀ e∈po++to,∀ a∈e.cells,∀ M,a.Ok M:=λe he=>(List.mem_append.1 he).elim (oko e) (ffo.ok e);refine X0.weakTo (L':=[(3,.ref 1 0 N),(4,.ref 2 0 N),(8,aI .i64 (k:Int)),(10,.ptr 4 0 0),(11,.ptr 5 0 0),(113,AV.list false (g.Ops.map X2g)),(114,aI .i64 (g.Ops.length:Int)),(115,aI .i64 (k:Int))]) (G':=[(1,Ob (pi++ti) 1),(2,Ob (po++to) 1),(4,Ob [X1k b.1] 2),(5,Ob [X1k b.2] 2)]) (n':=6) [] ?_ ?_ ?_ ?_
  rotate_left
  ·rfl
  ·repeat' first|apply Ya|exact wkA
  ·refine⟨⟨_,rfl,rfl,X00 _⟩,by decide,λe he a ha=>okt e he a ha _,rfl,rfl,⟨_,rfl,rfl,X00 _⟩,by decide,λe he a ha=>oku e he a ha _,rfl,rfl,⟨_,rfl,rfl,rfl⟩,by decide,?_,rfl,rfl,⟨_,rfl,rfl,rfl⟩,by decide,?_,rfl,rfl,trivial⟩<;>exact wkB
  match ffi,ffo with
  |.e0,_=>exact absurd lli (by show ¬ (0+k=N);omega)
  |_,.e0=>exact absurd llo (by show ¬ (0+k=N);omega)
  |@Fam.eN ti1 li1 μ1 f1,@Fam.eN ti2 li2 μ2 f2 =>
   cases h1:X7q ([]:List Int) b.1.e0 b.1.e1 with
   |false =>
    have h':some false=some r:=by simpa only[List.headD_cons,h1,cond_false] using h
    skip
    refine X1f [.el .nils,.ld .nils,.pure [.nils,X1k b.1] (.sc (.bool false)),Gf,Gf,Gf,Gf,Gf,Gf,Gf,Gt,Bt] (o:=?oa00) ?ka00
    case oa00 =>
     repeat' first|apply Ya|exact trivial|rfl|exact pn (by have:=Xa6 L b.1.e0 b.1.e1;rw[h1] at this;exact this) (cc .nils0 (cc cvM cn))|exact Int.natCast_nonneg _|(rw[List.length_map])|(rw[Int.toNat_natCast,Nat.zero_add];first|exact X03 hpi|exact X03 hpo|(simp only[X15 hpi,X15 hpo];first|exact X03 hpi|exact X03 hpo))|omega
    exact wkT [] (CR (oj h').symm _)
   |true =>
   cases h2:X7q ([]:List Int) b.2.e0 b.2.e1 with
   |false =>
    skip
    skip
    refine X1f [.el .nils,.ld .nils,.pure [.nils,X1k b.1] (.sc (.bool true)),Gt,Gt,Gt,.el .nils,Gt,.ld .nils,Gt,Gt,.pure [.nils,X1k b.2] (.sc (.bool false)),Gt,Bt] (o:=?obfalse00) ?kbfalse00
    case obfalse00 =>
     repeat' first|apply Ya|exact trivial|rfl|exact pn (by have:=Xa6 L b.1.e0 b.1.e1;rw[h1] at this;exact this) (cc .nils0 (cc cvM cn))|exact pn (by have:=Xa6 L b.2.e0 b.2.e1;rw[h2] at this;exact this) (cc .nils0 (cc cvM cn))|exact Int.natCast_nonneg _|(rw[List.length_map])|(rw[Int.toNat_natCast,Nat.zero_add];first|exact X03 hpi|exact X03 hpo|(simp only[X15 hpi,X15 hpo];first|exact X03 hpi|exact X03 hpo))|omega
    have h':some false=some r:=by simpa only[List.headD_cons,List.headD_nil,h1,h2,cond_true,cond_false] using h
    exact wkT [] (CR (oj h').symm _)
   |true =>
    skip
    skip
    refine X1f [.el .nils,.ld .nils,.pure [.nils,X1k b.1] (.sc (.bool true)),Gt,Gt,Gt,.el .nils,Gt,.ld .nils,Gt,Gt,.pure [.nils,X1k b.2] (.sc (.bool true)),Gt,Bf,.stop 18] (o:=?obtrue00) ?kbtrue00
    case obtrue00 =>
     repeat' first|apply Ya|exact trivial|rfl|exact pn (by have:=Xa6 L b.1.e0 b.1.e1;rw[h1] at this;exact this) (cc .nils0 (cc cvM cn))|exact pn (by have:=Xa6 L b.2.e0 b.2.e1;rw[h2] at this;exact this) (cc .nils0 (cc cvM cn))|exact Int.natCast_nonneg _|(rw[List.length_map])|(rw[Int.toNat_natCast,Nat.zero_add];first|exact X03 hpi|exact X03 hpo|(simp only[X15 hpi,X15 hpo];first|exact X03 hpi|exact X03 hpo))|omega
    have h':X62 os li1 li2=some r:=by simpa only[List.headD_cons,List.headD_nil,List.tail_cons,h1,h2,cond_true] using h
    have q1:∀ e∈pi++[.nils],∀ a∈e.cells,∀ M,a.Ok M:=λe he a ha M=>(List.mem_append.1 he).elim (λh=>oki e h a ha M) (λh=>by rw[List.mem_singleton.1 h] at ha;have ha:a∈[.nils]:=ha;rw[List.mem_singleton.1 ha];first|exact .nils|exact .sc);have q2:∀ e∈po++[.nils],∀ a∈e.cells,∀ M,a.Ok M:=λe he a ha M=>(List.mem_append.1 he).elim (λh=>oko e h a ha M) (λh=>by rw[List.mem_singleton.1 h] at ha;have ha:a∈[.nils]:=ha;rw[List.mem_singleton.1 ha];first|exact .nils|exact .sc);have w:=ih (k+1) hx1 (pi++[.nils]) (po++[.nils]) ti1 ti2 li1 li2 μ1 μ2 f1 f2 (by simp[hpi]) (by simp[hpo]) (by simp only[List.length_cons] at lli;omega) (by simp only[List.length_cons] at llo;omega) q1 q2 (λl h=>bi l (List.mem_cons_of_mem _ h)) (λl h=>bo l (List.mem_cons_of_mem _ h)) r h' C0 CR;refine X0.weakTo (L':=[(3,.ref 1 0 N),(4,.ref 2 0 N),(113,AV.list false (g.Ops.map X2g)),(114,aI .i64 (g.Ops.length:Int)),(115,aI .i64 (k:Int))]) (G':=[(1,Ob ((pi++[.nils])++ti1) 1),(2,Ob ((po++[.nils])++ti2) 1)]) (n':=3) [] ?_ ?_ ?_ ?_
    rotate_left
    ·rfl
    ·repeat' first|apply Ya|exact wkA
    ·refine⟨⟨_,rfl,rfl,Eq.trans ?_ (X00 _)⟩,by decide,λe he a ha=>((List.mem_append.1 he).elim (q1 e) (f1.ok e)) a ha _,rfl,rfl,⟨_,rfl,rfl,Eq.trans ?_ (X00 _)⟩,by decide,λe he a ha=>((List.mem_append.1 he).elim (q2 e) (f2.ok e)) a ha _,rfl,rfl,trivial⟩
     ·first|(simp only[X15 hpi,List.append_assoc,List.singleton_append];done)|simp
     first|(simp only[X15 hpo,List.append_assoc,List.singleton_append];done)|simp
    refine X1f [] (o:=?oc00) ?kc00
    case oc00=>repeat' first|apply Ya|exact trivial|exact X32 om om
    refine X0.weakTo (L':=[(3,.ref 1 0 N),(4,.ref 2 0 N),(113,AV.list false (g.Ops.map X2g)),(114,aI .i64 (g.Ops.length:Int)),(115,aI .i64 ((k+1:Nat):Int))]) (n':=3) [] w ?_ ?_ ?_
    ·rfl
    ·repeat' first|apply Ya|exact wkA
    refine⟨⟨_,rfl,rfl,X00 _⟩,by decide,λe he a ha=>((List.mem_append.1 he).elim (q1 e) (f1.ok e)) a ha _,rfl,rfl,⟨_,rfl,rfl,X00 _⟩,by decide,λe he a ha=>((List.mem_append.1 he).elim (q2 e) (f2.ok e)) a ha _,rfl,rfl,trivial⟩
  |@Fam.eN ti1 li1 μ1 f1,@Fam.eS ti2 li2 μ2 b2 ety2 arr2 l2 f2 hf2 =>
   cases h1:X7q ([]:List Int) b.1.e0 b.1.e1 with
   |false =>
    have h':some false=some r:=by simpa only[List.headD_cons,h1,cond_false] using h
    skip
    refine X1f [.el .nils,.ld .nils,.pure [.nils,X1k b.1] (.sc (.bool false)),Gf,Gf,Gf,Gf,Gf,Gf,Gf,Gt,Bt] (o:=?oa01) ?ka01
    case oa01 =>
     repeat' first|apply Ya|exact trivial|rfl|exact pn (by have:=Xa6 L b.1.e0 b.1.e1;rw[h1] at this;exact this) (cc .nils0 (cc cvM cn))|exact Int.natCast_nonneg _|(rw[List.length_map])|(rw[Int.toNat_natCast,Nat.zero_add];first|exact X03 hpi|exact X03 hpo|(simp only[X15 hpi,X15 hpo];first|exact X03 hpi|exact X03 hpo))|omega
    exact wkT [] (CR (oj h').symm _)
   |true =>
   cases h2:X7q l2 b.2.e0 b.2.e1 with
   |false =>
    skip
    have hb2:l2.length<=1000:=bo _ List.mem_cons_self;refine X0.adoptAt (K:=_) (μ1:=μ1++(μ2++μ)) 2 k ety2 rfl (X03 hpo) hf2 List.perm_middle ((f1.ds (Xmv b2 ety2 arr2::(μ2++μ))).trans (f1.ds (μ2++μ)).symm) ?_;refine X1f [.el .nils,.ld .nils,.pure [.nils,X1k b.1] (.sc (.bool true)),Gt,Gt,Gt,.el (.ref 6 0 l2.length),Gt,.ld (.ref 6 0 l2.length),Gt,Gt,.call (.sc (.bool false)) [(6,Ob ((X2f l2).map (aI .i64)) 1)] 0,Gt,Bt] (o:=?obfalse01) ?kbfalse01
    case obfalse01 =>
     repeat' first|apply Ya|exact trivial|rfl|exact pn (by have:=Xa6 L b.1.e0 b.1.e1;rw[h1] at this;exact this) (cc .nils0 (cc cvM cn))|exact⟨_,_,_,_,rfl,rfl,rfl,by intro a ha M;rw[List.mem_singleton.1 ha];exact .agg (Xs .sc (Xs .sc X3k)),λe he a ha M=>by obtain⟨z,_,rfl⟩:=List.mem_map.1 he;rw[List.mem_singleton.1 (show a∈[aI .i64 z] from ha)];exact .sc,λe he a ha M=>by obtain⟨z,_,rfl⟩:=List.mem_map.1 he;rw[List.mem_singleton.1 (show a∈[aI .i64 z] from ha)];exact .sc,by have:=Xd4 L l2 b.2.e0 b.2.e1 hb2;rw[Xgm rfl,h2] at this;exact this,rfl,rfl⟩|exact Int.natCast_nonneg _|(rw[List.length_map])|(rw[Int.toNat_natCast,Nat.zero_add];first|exact X03 hpi|exact X03 hpo|(simp only[X15 hpi,X15 hpo];first|exact X03 hpi|exact X03 hpo))|omega
    have h':some false=some r:=by simpa only[List.headD_cons,List.headD_nil,h1,h2,cond_true,cond_false] using h
    exact wkT [] (CR (oj h').symm _)
   |true =>
    skip
    have hb2:l2.length<=1000:=bo _ List.mem_cons_self;refine X0.adoptAt (K:=_) (μ1:=μ1++(μ2++μ)) 2 k ety2 rfl (X03 hpo) hf2 List.perm_middle ((f1.ds (Xmv b2 ety2 arr2::(μ2++μ))).trans (f1.ds (μ2++μ)).symm) ?_;refine X1f [.el .nils,.ld .nils,.pure [.nils,X1k b.1] (.sc (.bool true)),Gt,Gt,Gt,.el (.ref 6 0 l2.length),Gt,.ld (.ref 6 0 l2.length),Gt,Gt,.call (.sc (.bool true)) [(6,Ob ((X2f l2).map (aI .i64)) 1)] 0,Gt,Bf,.stop 18] (o:=?obtrue01) ?kbtrue01
    case obtrue01 =>
     repeat' first|apply Ya|exact trivial|rfl|exact pn (by have:=Xa6 L b.1.e0 b.1.e1;rw[h1] at this;exact this) (cc .nils0 (cc cvM cn))|exact⟨_,_,_,_,rfl,rfl,rfl,by intro a ha M;rw[List.mem_singleton.1 ha];exact .agg (Xs .sc (Xs .sc X3k)),λe he a ha M=>by obtain⟨z,_,rfl⟩:=List.mem_map.1 he;rw[List.mem_singleton.1 (show a∈[aI .i64 z] from ha)];exact .sc,λe he a ha M=>by obtain⟨z,_,rfl⟩:=List.mem_map.1 he;rw[List.mem_singleton.1 (show a∈[aI .i64 z] from ha)];exact .sc,by have:=Xd4 L l2 b.2.e0 b.2.e1 hb2;rw[Xgm rfl,h2] at this;exact this,rfl,rfl⟩|exact Int.natCast_nonneg _|(rw[List.length_map])|(rw[Int.toNat_natCast,Nat.zero_add];first|exact X03 hpi|exact X03 hpo|(simp only[X15 hpi,X15 hpo];first|exact X03 hpi|exact X03 hpo))|omega
    have h':X62 os li1 li2=some r:=by simpa only[List.headD_cons,List.headD_nil,List.tail_cons,h1,h2,cond_true] using h
    refine X0.disownAt 2 k 6 (X2f l2) rfl rfl (by decide) (by simp only[X15 hpo];exact X03 hpo) rfl (X8g l2).symm rfl λb2' ety2' arr2' g2=>?_;refine X0.dropMu ?_;have q1:∀ e∈pi++[.nils],∀ a∈e.cells,∀ M,a.Ok M:=λe he a ha M=>(List.mem_append.1 he).elim (λh=>oki e h a ha M) (λh=>by rw[List.mem_singleton.1 h] at ha;have ha:a∈[.nils]:=ha;rw[List.mem_singleton.1 ha];first|exact .nils|exact .sc);have q2:∀ e∈po++[Xet b2' (X2f l2).length arr2'.size],∀ a∈e.cells,∀ M,a.Ok M:=λe he a ha M=>(List.mem_append.1 he).elim (λh=>oko e h a ha M) (λh=>by rw[List.mem_singleton.1 h] at ha;have ha:a∈[Xet b2' (X2f l2).length arr2'.size]:=ha;rw[List.mem_singleton.1 ha];first|exact .nils|exact .sc);have w:=ih (k+1) hx1 (pi++[.nils]) (po++[Xet b2' (X2f l2).length arr2'.size]) ti1 ti2 li1 li2 μ1 μ2 f1 f2 (by simp[hpi]) (by simp[hpo]) (by simp only[List.length_cons] at lli;omega) (by simp only[List.length_cons] at llo;omega) q1 q2 (λl h=>bi l (List.mem_cons_of_mem _ h)) (λl h=>bo l (List.mem_cons_of_mem _ h)) r h' C0 CR;refine X0.weakTo (L':=[(3,.ref 1 0 N),(4,.ref 2 0 N),(113,AV.list false (g.Ops.map X2g)),(114,aI .i64 (g.Ops.length:Int)),(115,aI .i64 (k:Int))]) (G':=[(1,Ob ((pi++[.nils])++ti1) 1),(2,Ob ((po++[Xet b2' (X2f l2).length arr2'.size])++ti2) 1)]) (n':=3) [] ?_ ?_ ?_ ?_
    rotate_left
    ·rfl
    ·repeat' first|apply Ya|exact wkA
    ·refine⟨⟨_,rfl,rfl,Eq.trans ?_ (X00 _)⟩,by decide,λe he a ha=>((List.mem_append.1 he).elim (q1 e) (f1.ok e)) a ha _,rfl,rfl,⟨_,rfl,rfl,Eq.trans ?_ (X00 _)⟩,by decide,λe he a ha=>((List.mem_append.1 he).elim (q2 e) (f2.ok e)) a ha _,rfl,rfl,trivial⟩
     ·first|(simp only[X15 hpi,List.append_assoc,List.singleton_append];done)|simp
     first|(simp only[X15 hpo,List.append_assoc,List.singleton_append];done)|simp
    refine X1f [] (o:=?oc01) ?kc01
    case oc01=>repeat' first|apply Ya|exact trivial|exact X32 om om
    refine X0.weakTo (L':=[(3,.ref 1 0 N),(4,.ref 2 0 N),(113,AV.list false (g.Ops.map X2g)),(114,aI .i64 (g.Ops.length:Int)),(115,aI .i64 ((k+1:Nat):Int))]) (n':=3) [] w ?_ ?_ ?_
    ·rfl
    ·repeat' first|apply Ya|exact wkA
    refine⟨⟨_,rfl,rfl,X00 _⟩,by decide,λe he a ha=>((List.mem_append.1 he).elim (q1 e) (f1.ok e)) a ha _,rfl,rfl,⟨_,rfl,rfl,X00 _⟩,by decide,λe he a ha=>((List.mem_append.1 he).elim (q2 e) (f2.ok e)) a ha _,rfl,rfl,trivial⟩
  |@Fam.eS ti1 li1 μ1 b1 ety1 arr1 l1 f1 hf1,@Fam.eN ti2 li2 μ2 f2 =>
   cases h1:X7q l1 b.1.e0 b.1.e1 with
   |false =>
    have h':some false=some r:=by simpa only[List.headD_cons,h1,cond_false] using h
    have hb1:l1.length<=1000:=bi _ List.mem_cons_self;refine X0.adoptAt (K:=_) 1 k ety1 rfl (X03 hpi) hf1 (List.Perm.refl _) rfl ?_;refine X1f [.el (.ref 6 0 l1.length),.ld (.ref 6 0 l1.length),.call (.sc (.bool false)) [(6,Ob ((X2f l1).map (aI .i64)) 1)] 0,Gf,Gf,Gf,Gf,Gf,Gf,Gf,Gt,Bt] (o:=?oa10) ?ka10
    case oa10 =>
     repeat' first|apply Ya|exact trivial|rfl|exact⟨_,_,_,_,rfl,rfl,rfl,by intro a ha M;rw[List.mem_singleton.1 ha];exact .agg (Xs .sc (Xs .sc X3k)),λe he a ha M=>by obtain⟨z,_,rfl⟩:=List.mem_map.1 he;rw[List.mem_singleton.1 (show a∈[aI .i64 z] from ha)];exact .sc,λe he a ha M=>by obtain⟨z,_,rfl⟩:=List.mem_map.1 he;rw[List.mem_singleton.1 (show a∈[aI .i64 z] from ha)];exact .sc,by have:=Xd4 L l1 b.1.e0 b.1.e1 hb1;rw[Xgm rfl,h1] at this;exact this,rfl,rfl⟩|exact Int.natCast_nonneg _|(rw[List.length_map])|(rw[Int.toNat_natCast,Nat.zero_add];first|exact X03 hpi|exact X03 hpo|(simp only[X15 hpi,X15 hpo];first|exact X03 hpi|exact X03 hpo))|omega
    exact wkT [] (CR (oj h').symm _)
   |true =>
   cases h2:X7q ([]:List Int) b.2.e0 b.2.e1 with
   |false =>
    have hb1:l1.length<=1000:=bi _ List.mem_cons_self
    skip
    refine X0.adoptAt (K:=_) 1 k ety1 rfl (X03 hpi) hf1 (List.Perm.refl _) rfl ?_;refine X1f [.el (.ref 6 0 l1.length),.ld (.ref 6 0 l1.length),.call (.sc (.bool true)) [(6,Ob ((X2f l1).map (aI .i64)) 1)] 0,Gt,Gt,Gt,.el .nils,Gt,.ld .nils,Gt,Gt,.pure [.nils,X1k b.2] (.sc (.bool false)),Gt,Bt] (o:=?obfalse10) ?kbfalse10
    case obfalse10 =>
     repeat' first|apply Ya|exact trivial|rfl|exact⟨_,_,_,_,rfl,rfl,rfl,by intro a ha M;rw[List.mem_singleton.1 ha];exact .agg (Xs .sc (Xs .sc X3k)),λe he a ha M=>by obtain⟨z,_,rfl⟩:=List.mem_map.1 he;rw[List.mem_singleton.1 (show a∈[aI .i64 z] from ha)];exact .sc,λe he a ha M=>by obtain⟨z,_,rfl⟩:=List.mem_map.1 he;rw[List.mem_singleton.1 (show a∈[aI .i64 z] from ha)];exact .sc,by have:=Xd4 L l1 b.1.e0 b.1.e1 hb1;rw[Xgm rfl,h1] at this;exact this,rfl,rfl⟩|exact pn (by have:=Xa6 L b.2.e0 b.2.e1;rw[h2] at this;exact this) (cc .nils0 (cc cvM cn))|exact Int.natCast_nonneg _|(rw[List.length_map])|(rw[Int.toNat_natCast,Nat.zero_add];first|exact X03 hpi|exact X03 hpo|(simp only[X15 hpi,X15 hpo];first|exact X03 hpi|exact X03 hpo))|omega
    have h':some false=some r:=by simpa only[List.headD_cons,List.headD_nil,h1,h2,cond_true,cond_false] using h
    exact wkT [] (CR (oj h').symm _)
   |true =>
    have hb1:l1.length<=1000:=bi _ List.mem_cons_self
    skip
    refine X0.adoptAt (K:=_) 1 k ety1 rfl (X03 hpi) hf1 (List.Perm.refl _) rfl ?_;refine X1f [.el (.ref 6 0 l1.length),.ld (.ref 6 0 l1.length),.call (.sc (.bool true)) [(6,Ob ((X2f l1).map (aI .i64)) 1)] 0,Gt,Gt,Gt,.el .nils,Gt,.ld .nils,Gt,Gt,.pure [.nils,X1k b.2] (.sc (.bool true)),Gt,Bf,.stop 18] (o:=?obtrue10) ?kbtrue10
    case obtrue10 =>
     repeat' first|apply Ya|exact trivial|rfl|exact⟨_,_,_,_,rfl,rfl,rfl,by intro a ha M;rw[List.mem_singleton.1 ha];exact .agg (Xs .sc (Xs .sc X3k)),λe he a ha M=>by obtain⟨z,_,rfl⟩:=List.mem_map.1 he;rw[List.mem_singleton.1 (show a∈[aI .i64 z] from ha)];exact .sc,λe he a ha M=>by obtain⟨z,_,rfl⟩:=List.mem_map.1 he;rw[List.mem_singleton.1 (show a∈[aI .i64 z] from ha)];exact .sc,by have:=Xd4 L l1 b.1.e0 b.1.e1 hb1;rw[Xgm rfl,h1] at this;exact this,rfl,rfl⟩|exact pn (by have:=Xa6 L b.2.e0 b.2.e1;rw[h2] at this;exact this) (cc .nils0 (cc cvM cn))|exact Int.natCast_nonneg _|(rw[List.length_map])|(rw[Int.toNat_natCast,Nat.zero_add];first|exact X03 hpi|exact X03 hpo|(simp only[X15 hpi,X15 hpo];first|exact X03 hpi|exact X03 hpo))|omega
    have h':X62 os li1 li2=some r:=by simpa only[List.headD_cons,List.headD_nil,List.tail_cons,h1,h2,cond_true] using h
    refine X0.disownAt 1 k 6 (X2f l1) rfl rfl (by decide) (by simp only[X15 hpi];exact X03 hpi) rfl (X8g l1).symm rfl λb1' ety1' arr1' g1=>?_;refine X0.dropMu ?_;have q1:∀ e∈pi++[Xet b1' (X2f l1).length arr1'.size],∀ a∈e.cells,∀ M,a.Ok M:=λe he a ha M=>(List.mem_append.1 he).elim (λh=>oki e h a ha M) (λh=>by rw[List.mem_singleton.1 h] at ha;have ha:a∈[Xet b1' (X2f l1).length arr1'.size]:=ha;rw[List.mem_singleton.1 ha];first|exact .nils|exact .sc);have q2:∀ e∈po++[.nils],∀ a∈e.cells,∀ M,a.Ok M:=λe he a ha M=>(List.mem_append.1 he).elim (λh=>oko e h a ha M) (λh=>by rw[List.mem_singleton.1 h] at ha;have ha:a∈[.nils]:=ha;rw[List.mem_singleton.1 ha];first|exact .nils|exact .sc);have w:=ih (k+1) hx1 (pi++[Xet b1' (X2f l1).length arr1'.size]) (po++[.nils]) ti1 ti2 li1 li2 μ1 μ2 f1 f2 (by simp[hpi]) (by simp[hpo]) (by simp only[List.length_cons] at lli;omega) (by simp only[List.length_cons] at llo;omega) q1 q2 (λl h=>bi l (List.mem_cons_of_mem _ h)) (λl h=>bo l (List.mem_cons_of_mem _ h)) r h' C0 CR;refine X0.weakTo (L':=[(3,.ref 1 0 N),(4,.ref 2 0 N),(113,AV.list false (g.Ops.map X2g)),(114,aI .i64 (g.Ops.length:Int)),(115,aI .i64 (k:Int))]) (G':=[(1,Ob ((pi++[Xet b1' (X2f l1).length arr1'.size])++ti1) 1),(2,Ob ((po++[.nils])++ti2) 1)]) (n':=3) [] ?_ ?_ ?_ ?_
    rotate_left
    ·rfl
    ·repeat' first|apply Ya|exact wkA
    ·refine⟨⟨_,rfl,rfl,Eq.trans ?_ (X00 _)⟩,by decide,λe he a ha=>((List.mem_append.1 he).elim (q1 e) (f1.ok e)) a ha _,rfl,rfl,⟨_,rfl,rfl,Eq.trans ?_ (X00 _)⟩,by decide,λe he a ha=>((List.mem_append.1 he).elim (q2 e) (f2.ok e)) a ha _,rfl,rfl,trivial⟩
     ·first|(simp only[X15 hpi,List.append_assoc,List.singleton_append];done)|simp
     first|(simp only[X15 hpo,List.append_assoc,List.singleton_append];done)|simp
    refine X1f [] (o:=?oc10) ?kc10
    case oc10=>repeat' first|apply Ya|exact trivial|exact X32 om om
    refine X0.weakTo (L':=[(3,.ref 1 0 N),(4,.ref 2 0 N),(113,AV.list false (g.Ops.map X2g)),(114,aI .i64 (g.Ops.length:Int)),(115,aI .i64 ((k+1:Nat):Int))]) (n':=3) [] w ?_ ?_ ?_
    ·rfl
    ·repeat' first|apply Ya|exact wkA
    refine⟨⟨_,rfl,rfl,X00 _⟩,by decide,λe he a ha=>((List.mem_append.1 he).elim (q1 e) (f1.ok e)) a ha _,rfl,rfl,⟨_,rfl,rfl,X00 _⟩,by decide,λe he a ha=>((List.mem_append.1 he).elim (q2 e) (f2.ok e)) a ha _,rfl,rfl,trivial⟩
  |@Fam.eS ti1 li1 μ1 b1 ety1 arr1 l1 f1 hf1,@Fam.eS ti2 li2 μ2 b2 ety2 arr2 l2 f2 hf2 =>
   cases h1:X7q l1 b.1.e0 b.1.e1 with
   |false =>
    have h':some false=some r:=by simpa only[List.headD_cons,h1,cond_false] using h
    have hb1:l1.length<=1000:=bi _ List.mem_cons_self;refine X0.adoptAt (K:=_) 1 k ety1 rfl (X03 hpi) hf1 (List.Perm.refl _) rfl ?_;refine X1f [.el (.ref 6 0 l1.length),.ld (.ref 6 0 l1.length),.call (.sc (.bool false)) [(6,Ob ((X2f l1).map (aI .i64)) 1)] 0,Gf,Gf,Gf,Gf,Gf,Gf,Gf,Gt,Bt] (o:=?oa11) ?ka11
    case oa11 =>
     repeat' first|apply Ya|exact trivial|rfl|exact⟨_,_,_,_,rfl,rfl,rfl,by intro a ha M;rw[List.mem_singleton.1 ha];exact .agg (Xs .sc (Xs .sc X3k)),λe he a ha M=>by obtain⟨z,_,rfl⟩:=List.mem_map.1 he;rw[List.mem_singleton.1 (show a∈[aI .i64 z] from ha)];exact .sc,λe he a ha M=>by obtain⟨z,_,rfl⟩:=List.mem_map.1 he;rw[List.mem_singleton.1 (show a∈[aI .i64 z] from ha)];exact .sc,by have:=Xd4 L l1 b.1.e0 b.1.e1 hb1;rw[Xgm rfl,h1] at this;exact this,rfl,rfl⟩|exact Int.natCast_nonneg _|(rw[List.length_map])|(rw[Int.toNat_natCast,Nat.zero_add];first|exact X03 hpi|exact X03 hpo|(simp only[X15 hpi,X15 hpo];first|exact X03 hpi|exact X03 hpo))|omega
    exact wkT [] (CR (oj h').symm _)
   |true =>
   cases h2:X7q l2 b.2.e0 b.2.e1 with
   |false =>
    have hb1:l1.length<=1000:=bi _ List.mem_cons_self;have hb2:l2.length<=1000:=bo _ List.mem_cons_self;refine X0.adoptAt (K:=_) 1 k ety1 rfl (X03 hpi) hf1 (List.Perm.refl _) rfl ?_;refine X0.adoptAt (K:=_) (μ1:=μ1++(μ2++μ)) 2 k ety2 rfl (X03 hpo) hf2 List.perm_middle ((f1.ds (Xmv b2 ety2 arr2::(μ2++μ))).trans (f1.ds (μ2++μ)).symm) ?_;refine X1f [.el (.ref 6 0 l1.length),.ld (.ref 6 0 l1.length),.call (.sc (.bool true)) [(6,Ob ((X2f l1).map (aI .i64)) 1)] 0,Gt,Gt,Gt,.el (.ref 7 0 l2.length),Gt,.ld (.ref 7 0 l2.length),Gt,Gt,.call (.sc (.bool false)) [(7,Ob ((X2f l2).map (aI .i64)) 1)] 0,Gt,Bt] (o:=?obfalse11) ?kbfalse11
    case obfalse11 =>
     repeat' first|apply Ya|exact trivial|rfl|exact⟨_,_,_,_,rfl,rfl,rfl,by intro a ha M;rw[List.mem_singleton.1 ha];exact .agg (Xs .sc (Xs .sc X3k)),λe he a ha M=>by obtain⟨z,_,rfl⟩:=List.mem_map.1 he;rw[List.mem_singleton.1 (show a∈[aI .i64 z] from ha)];exact .sc,λe he a ha M=>by obtain⟨z,_,rfl⟩:=List.mem_map.1 he;rw[List.mem_singleton.1 (show a∈[aI .i64 z] from ha)];exact .sc,by have:=Xd4 L l1 b.1.e0 b.1.e1 hb1;rw[Xgm rfl,h1] at this;exact this,rfl,rfl⟩|exact⟨_,_,_,_,rfl,rfl,rfl,by intro a ha M;rw[List.mem_singleton.1 ha];exact .agg (Xs .sc (Xs .sc X3k)),λe he a ha M=>by obtain⟨z,_,rfl⟩:=List.mem_map.1 he;rw[List.mem_singleton.1 (show a∈[aI .i64 z] from ha)];exact .sc,λe he a ha M=>by obtain⟨z,_,rfl⟩:=List.mem_map.1 he;rw[List.mem_singleton.1 (show a∈[aI .i64 z] from ha)];exact .sc,by have:=Xd4 L l2 b.2.e0 b.2.e1 hb2;rw[Xgm rfl,h2] at this;exact this,rfl,rfl⟩|exact Int.natCast_nonneg _|(rw[List.length_map])|(rw[Int.toNat_natCast,Nat.zero_add];first|exact X03 hpi|exact X03 hpo|(simp only[X15 hpi,X15 hpo];first|exact X03 hpi|exact X03 hpo))|omega
    have h':some false=some r:=by simpa only[List.headD_cons,List.headD_nil,h1,h2,cond_true,cond_false] using h
    exact wkT [] (CR (oj h').symm _)
   |true =>
    have hb1:l1.length<=1000:=bi _ List.mem_cons_self;have hb2:l2.length<=1000:=bo _ List.mem_cons_self;refine X0.adoptAt (K:=_) 1 k ety1 rfl (X03 hpi) hf1 (List.Perm.refl _) rfl ?_;refine X0.adoptAt (K:=_) (μ1:=μ1++(μ2++μ)) 2 k ety2 rfl (X03 hpo) hf2 List.perm_middle ((f1.ds (Xmv b2 ety2 arr2::(μ2++μ))).trans (f1.ds (μ2++μ)).symm) ?_;refine X1f [.el (.ref 6 0 l1.length),.ld (.ref 6 0 l1.length),.call (.sc (.bool true)) [(6,Ob ((X2f l1).map (aI .i64)) 1)] 0,Gt,Gt,Gt,.el (.ref 7 0 l2.length),Gt,.ld (.ref 7 0 l2.length),Gt,Gt,.call (.sc (.bool true)) [(7,Ob ((X2f l2).map (aI .i64)) 1)] 0,Gt,Bf,.stop 18] (o:=?obtrue11) ?kbtrue11
    case obtrue11 =>
     repeat' first|apply Ya|exact trivial|rfl|exact⟨_,_,_,_,rfl,rfl,rfl,by intro a ha M;rw[List.mem_singleton.1 ha];exact .agg (Xs .sc (Xs .sc X3k)),λe he a ha M=>by obtain⟨z,_,rfl⟩:=List.mem_map.1 he;rw[List.mem_singleton.1 (show a∈[aI .i64 z] from ha)];exact .sc,λe he a ha M=>by obtain⟨z,_,rfl⟩:=List.mem_map.1 he;rw[List.mem_singleton.1 (show a∈[aI .i64 z] from ha)];exact .sc,by have:=Xd4 L l1 b.1.e0 b.1.e1 hb1;rw[Xgm rfl,h1] at this;exact this,rfl,rfl⟩|exact⟨_,_,_,_,rfl,rfl,rfl,by intro a ha M;rw[List.mem_singleton.1 ha];exact .agg (Xs .sc (Xs .sc X3k)),λe he a ha M=>by obtain⟨z,_,rfl⟩:=List.mem_map.1 he;rw[List.mem_singleton.1 (show a∈[aI .i64 z] from ha)];exact .sc,λe he a ha M=>by obtain⟨z,_,rfl⟩:=List.mem_map.1 he;rw[List.mem_singleton.1 (show a∈[aI .i64 z] from ha)];exact .sc,by have:=Xd4 L l2 b.2.e0 b.2.e1 hb2;rw[Xgm rfl,h2] at this;exact this,rfl,rfl⟩|exact Int.natCast_nonneg _|(rw[List.length_map])|(rw[Int.toNat_natCast,Nat.zero_add];first|exact X03 hpi|exact X03 hpo|(simp only[X15 hpi,X15 hpo];first|exact X03 hpi|exact X03 hpo))|omega
    have h':X62 os li1 li2=some r:=by simpa only[List.headD_cons,List.headD_nil,List.tail_cons,h1,h2,cond_true] using h
    refine X0.disownAt 1 k 6 (X2f l1) rfl rfl (by decide) (by simp only[X15 hpi];exact X03 hpi) rfl (X8g l1).symm rfl λb1' ety1' arr1' g1=>?_;refine X0.dropMu ?_;refine X0.disownAt 2 k 7 (X2f l2) rfl rfl (by decide) (by simp only[X15 hpo];exact X03 hpo) rfl (X8g l2).symm rfl λb2' ety2' arr2' g2=>?_;refine X0.dropMu ?_;have q1:∀ e∈pi++[Xet b1' (X2f l1).length arr1'.size],∀ a∈e.cells,∀ M,a.Ok M:=λe he a ha M=>(List.mem_append.1 he).elim (λh=>oki e h a ha M) (λh=>by rw[List.mem_singleton.1 h] at ha;have ha:a∈[Xet b1' (X2f l1).length arr1'.size]:=ha;rw[List.mem_singleton.1 ha];first|exact .nils|exact .sc);have q2:∀ e∈po++[Xet b2' (X2f l2).length arr2'.size],∀ a∈e.cells,∀ M,a.Ok M:=λe he a ha M=>(List.mem_append.1 he).elim (λh=>oko e h a ha M) (λh=>by rw[List.mem_singleton.1 h] at ha;have ha:a∈[Xet b2' (X2f l2).length arr2'.size]:=ha;rw[List.mem_singleton.1 ha];first|exact .nils|exact .sc);have w:=ih (k+1) hx1 (pi++[Xet b1' (X2f l1).length arr1'.size]) (po++[Xet b2' (X2f l2).length arr2'.size]) ti1 ti2 li1 li2 μ1 μ2 f1 f2 (by simp[hpi]) (by simp[hpo]) (by simp only[List.length_cons] at lli;omega) (by simp only[List.length_cons] at llo;omega) q1 q2 (λl h=>bi l (List.mem_cons_of_mem _ h)) (λl h=>bo l (List.mem_cons_of_mem _ h)) r h' C0 CR;refine X0.weakTo (L':=[(3,.ref 1 0 N),(4,.ref 2 0 N),(113,AV.list false (g.Ops.map X2g)),(114,aI .i64 (g.Ops.length:Int)),(115,aI .i64 (k:Int))]) (G':=[(1,Ob ((pi++[Xet b1' (X2f l1).length arr1'.size])++ti1) 1),(2,Ob ((po++[Xet b2' (X2f l2).length arr2'.size])++ti2) 1)]) (n':=3) [] ?_ ?_ ?_ ?_
    rotate_left
    ·rfl
    ·repeat' first|apply Ya|exact wkA
    ·refine⟨⟨_,rfl,rfl,Eq.trans ?_ (X00 _)⟩,by decide,λe he a ha=>((List.mem_append.1 he).elim (q1 e) (f1.ok e)) a ha _,rfl,rfl,⟨_,rfl,rfl,Eq.trans ?_ (X00 _)⟩,by decide,λe he a ha=>((List.mem_append.1 he).elim (q2 e) (f2.ok e)) a ha _,rfl,rfl,trivial⟩
     ·first|(simp only[X15 hpi,List.append_assoc,List.singleton_append];done)|simp
     first|(simp only[X15 hpo,List.append_assoc,List.singleton_append];done)|simp
    refine X1f [] (o:=?oc11) ?kc11
    case oc11=>repeat' first|apply Ya|exact trivial|exact X32 om om
    refine X0.weakTo (L':=[(3,.ref 1 0 N),(4,.ref 2 0 N),(113,AV.list false (g.Ops.map X2g)),(114,aI .i64 (g.Ops.length:Int)),(115,aI .i64 ((k+1:Nat):Int))]) (n':=3) [] w ?_ ?_ ?_
    ·rfl
    ·repeat' first|apply Ya|exact wkA
    refine⟨⟨_,rfl,rfl,X00 _⟩,by decide,λe he a ha=>((List.mem_append.1 he).elim (q1 e) (f1.ok e)) a ha _,rfl,rfl,⟨_,rfl,rfl,X00 _⟩,by decide,λe he a ha=>((List.mem_append.1 he).elim (q2 e) (f2.ok e)) a ha _,rfl,rfl,trivial⟩
theorem Xjg (L:Xb4 Tryz.prog 217) (a0:Xt) (r:Bool) (h:X83 a0=some r):X05 Tryz.prog 102 [Xb false a0] (aB r):=by
 unfold X83 at h;revert h;refine brI (λhb h=>?_) λ_ h=>by cases h
 obtain⟨hb1,hb2⟩:=Bool.and_eq_true_iff.1 hb;have q1:=of_decide_eq_true hb1;have q2:=of_decide_eq_true hb2;refine X05.sym X9 X0dr (nt:=143) rfl rfl ?_ okM;by_cases hn:0<a0.Ops.length
 ·refine X1f [] (o:=?o1) ?k1
  case o1 =>
   repeat' first|apply Ya|exact trivial|(simp only[List.length_map];omega)|(simp only[List.length_map];show(24:Int)*_<=_;omega)
  have hrep:∀ n:Nat,∀ e∈List.replicate n AV.nils,∀ a∈e.cells,∀ M,a.Ok M:=λn=>(Xl8 n).ok;refine X0.weakTo (L':=[(1,AV.ptr 0 0 0),(2,.sc (.bool false)),(3,.ref 1 0 (a0.Ops.length)),(4,.ref 2 0 (a0.Ops.length)),(21,AV.list false (a0.Channels.map X8)),(22,aI .i64 (a0.Channels.length:Int)),(23,aI .i64 ((0:Nat):Int))]) (G':=[(0,Ob [Xb false a0] 2),(1,Ob (List.replicate (a0.Ops.length) .nils) 1),(2,Ob (List.replicate (a0.Ops.length) .nils) 1)]) (n':=3) [(1,4),(2,8)] ?_ ?_ ?_ ?_
  rotate_left
  ·rfl
  ·repeat' first|apply Ya|exact wkA|(refine congrArg (λz=>AV.ref _ 0 z) ?_;simp)
  ·refine⟨⟨_,rfl,rfl,rfl⟩,by decide,?_,rfl,rfl,⟨_,rfl,rfl,?_⟩,by decide,λe he a ha=>hrep _ e he a ha _,rfl,rfl,⟨_,rfl,rfl,?_⟩,by decide,λe he a ha=>hrep _ e he a ha _,rfl,rfl,trivial⟩
   ·exact wkB
   ·simp only[List.length_map,Int.toNat_natCast,List.map_replicate];rfl
   simp only[List.length_map,Int.toNat_natCast,List.map_replicate];rfl
  refine X0.cut ?_;refine Xm7 (μ:=[]) a0 (a0.Ops.length) q2 rfl a0.Channels 0 rfl (List.replicate (a0.Ops.length) .nils) (List.replicate (a0.Ops.length) .nils) (List.replicate (a0.Ops.length) []) (List.replicate (a0.Ops.length) []) [] [] (Xl8 _) (Xl8 _) (by simp) (by simp) (λl hl=>by rw[List.eq_of_mem_replicate hl];exact Nat.zero_le _) (λl hl=>by rw[List.eq_of_mem_replicate hl];exact Nat.zero_le _) (Nat.zero_le _) (λei eo Li Lo μi μo hj f1 f2 e1 e2 b1 b2=>?_) (λhj μ'=>?_)
  ·refine X0.glue ?_;rw[hj] at h;have h:X62 a0.Ops Li Lo=some r:=h;have ok1:=f1.ok;have ok2:=f2.ok;refine X1f [] ?_;refine X0.weakTo (L':=[(3,.ref 1 0 (a0.Ops.length)),(4,.ref 2 0 (a0.Ops.length)),(113,AV.list false (a0.Ops.map X2g)),(114,aI .i64 (a0.Ops.length:Int)),(115,aI .i64 ((0:Nat):Int))]) (G':=[(1,Ob ([]++ei) 1),(2,Ob ([]++eo) 1)]) (n':=3) [] ?_ ?_ ?_ ?_
   rotate_left
   ·rfl
   ·repeat' first|apply Ya|exact wkA
   ·refine⟨⟨_,rfl,rfl,X00 _⟩,by decide,λe he a ha=>ok1 e he a ha _,rfl,rfl,⟨_,rfl,rfl,X00 _⟩,by decide,λe he a ha=>ok2 e he a ha _,rfl,rfl,trivial⟩
   refine X0.cut ?_;refine Xm6 L a0 (a0.Ops.length) q1 rfl a0.Ops 0 rfl [] [] ei eo Li Lo μi μo f1 f2 rfl rfl om om (λe he=>by cases he) (λe he=>by cases he) b1 b2 r h (λhr μ'=>?_) (λhr μ'=>?_)
   ·refine X0.glue ?_;subst hr;exact X3 [] (k:=fi)
   refine X0.glue ?_;subst hr;exact X3 [] (k:=fi)
  refine X0.glue ?_;rw[hj] at h;obtain rfl:=oj h;exact X3 [] (k:=fi)
 have hn0:a0.Ops.length=0:=by omega
 have ho:a0.Ops=[]:=List.eq_nil_of_length_eq_zero hn0;obtain⟨ops,cs⟩:=a0;simp only at ho;subst ho;refine X1f [.ne false,.ne false] (o:=?o2) ?k2
 case o2=>repeat' first|apply Ya|exact trivial|rfl|decide
 refine X0.round ?_
 cases cs with
 |nil =>
  obtain rfl:=oj h;refine X1f [Bf] ?_;refine X0.round ?_;exact X3 [Bf] (k:=fi)
 |cons x xs =>
  have h':some false=some r:=by
   have hg:Xar (List.length ([]:List GOp)) (x::xs) (x::xs) 0 (List.replicate (List.length ([]:List GOp)) []) (List.replicate (List.length ([]:List GOp)) [])=none:=by
    show(bif jB1 0 x then none else _)=none;rw[Xu5];rfl
   simp only[hg] at h;exact h
  obtain rfl:=oj h';have hc:decide ((0:Int)<(List.length (x::xs):Int))=true:=Yt (by simp only[List.length_cons];omega);have h1:=Xu5 x;refine X1f [Bt,.el (X8 x),Bt] (o:=?o3) ?k3
  case o3 =>
   repeat' first|apply Ya|exact trivial|exact h1|exact hc|exact λa=>a|rfl|exact Int.le_refl _|(simp only[List.length_map];exact hc)
  exact fi
instance Xfo:PCs Tryz.prog 102 (∀ (a0:Xt) (r:Bool),X83 a0=some r->X05 Tryz.prog 102 [Xb false a0] (aB r)):=⟨λa0 r h=>Xjg Tryz.sortLaid a0 r h⟩
end Go.Av.Tryz