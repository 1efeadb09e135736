/- Printed by decomp.py: that the program computes the functions. -/
import Derived.Test.YtnfamdbgcgjlaaaGreatDoorDCert8Z
set_option linter.all false

namespace Go.Av.Tryz
open Go.Proofs Go.D
set_option maxRecDepth 10000
set_option maxHeartbeats 40000000
instance X9p:PCs Tryz.prog 5 (∀ (a0:Xa) (a1:Int) (a2:Int) (r:Bool),X3s a0 a1 a2=some r->X06 Tryz.prog 5 [(X8 false a0),(aI .i64 a1),(aI .i64 a2)] (aB r)):=⟨λa0 a1 a2 r h=>by
 refine X06.sym X7 fn5 (nt:=139) rfl rfl ?_ okM;unfold X3s at h;revert h;refine bI λv1 h2=>bI λv3 h4=>brI (λh5=>?_) λh5=>?_
 ·
  exact λe=>oj e▸Xd [.pure [] (aB v1),.pure _ (aB v3),Bt] (o:=by repeat' first|apply Ya|exact pcM|exact(pn (Xx _ h2) cn)|exact Xu) (k:=fi)
 refine bI λv6 h7=>bI λv8 h9=>bI λv10 h11=>bI λv12 h13=>bI λv14 h15=>bI λv16 h17=>bI λXxv h49=>rnI [.pure [] (aB v1),.pure _ (aB v3),Bf,.pure _ (AV.tup [(X8 false v6.1),(aI .i64 v6.2)]),.pure _ (AV.tup [(X8 false v8.1),(aB v8.2.1),(aI .i64 v8.2.2)]),.pure _ (AV.tup [(X8 false v10.1),(aB v10.2.1),(aI .i64 v10.2.2)]),.pure _ (AV.tup [(X8 false v12.1),(aI .i64 v12.2)]),.pure _ (AV.tup [(X8 false v14.1),(aB v14.2.1),(aI .i64 v14.2.2)]),.pure _ (AV.tup [(X8 false v16.1),(aB v16.2.1),(aI .i64 v16.2.2)]),.stop 10] (o:=by repeat' first|apply Ya|exact pcM|exact(pn (Xx _ h2) cn)|exact Xu) ?_;intro h;refine X4.join (s':=⟨fr [(6,(aB Xxv))],hp ([]),0⟩) ?_ (λJ=>X4.cut ?_)
 ·
  revert h;exact λe=>oj e▸Xd [] (k:=fi)
 clear h;revert h49;refine brI (λh34=>?_) λh34=>?_
 ·
  refine brI (λh35=>?_) λh35=>?_
  ·
   refine brI (λh36=>?_) λh36=>?_
   ·
    refine brI (λh37=>?_) λh37=>?_
    ·
     refine brI (λh38=>?_) λh38=>?_
     ·
      refine bI λv39 h40=>brI (λh41=>?_) λh41=>?_
      ·
       refine brI (λh42=>?_) λh42=>?_
       ·
        refine rnI [Gt,Gt,Gt,Gt,Gt,Gt,Gt,Gt,Gt,Gt,Gt,.pure _ (aB v39),Gt,Gt,Gt,Gt,.stop 999999] (o:=by repeat' first|apply Ya|exact pcM|exact(pn (Xx _ h2) cn)|exact fq (X6 h34 h35)|exact fq (X6 (X6 h34 h35) h36)|exact fq (X6 (X6 (X6 h34 h35) h36) h37)|exact fq (X6 (X6 (X6 (X6 h34 h35) h36) h37) h38)|exact fq (X6 (X6 (X6 (X6 (X6 h34 h35) h36) h37) h38) h41)|exact fq (X6 (X6 (X6 (X6 (X6 (X6 h34 h35) h36) h37) h38) h41) h42)|exact Xu) ?_;refine brI (λh43=>?_) λh43=>?_
        ·
         refine brI (λh44=>?_) λh44=>?_
         ·
          intro h;obtain rfl:=oj h;exact Xd [Gt,Gt,Gt,Gt,Gf,Gf,Gf,Gt,Gt,Gf,Gf,Gf,Gf,Gt,Gt,Gf,Gf,Gf,Gf,Gt] (o:=by repeat' first|apply Ya|exact pcM|exact fq (X6 (X6 (X6 (X6 (X6 (X6 (X6 h34 h35) h36) h37) h38) h41) h42) h43)|exact fq (X6 h44 rfl)|exact fq (X6 (X6 h44 rfl) rfl)|exact Xu) (k:=wkT [] (X4.glue J))
         refine bI λv45 h46=>brI (λh47=>?_) λh47=>?_
         ·
          intro h;obtain rfl:=oj h;exact Xd [Gt,Gt,Gt,Gt,Gt,Gt,Gt,.pure _ (aB v45),Gt,Gt,Gf,Gf,Gf,Gf,Gt,Gt,Gf,Gf,Gf,Gf,Gt] (o:=by repeat' first|apply Ya|exact pcM|exact fq (X6 (X6 (X6 (X6 (X6 (X6 (X6 h34 h35) h36) h37) h38) h41) h42) h43)|exact fq (X9 h44 h47)|exact fq (X6 (X9 h44 h47) rfl)|exact Xu) (k:=wkT [] (X4.glue J))
         refine rnI [Gt,Gt,Gt,Gt,Gt,Gt,Gt,.pure _ (aB v45),Gt,Gt,Gt,Gt,Gt,.el (aI .i64 (v10.1.Where.length:Int)),Gt,Gt,Gt,.stop 999999] (o:=by repeat' first|apply Ya|exact pcM|exact fq (X6 (X6 (X6 (X6 (X6 (X6 (X6 h34 h35) h36) h37) h38) h41) h42) h43)|exact fq (X9 h44 h47)|exact Xu) ?_;refine brI (λh48=>?_) λh48=>?_
         ·
          intro h;obtain rfl:=oj h;exact Xd [Gf,Gf,Gf,Gf,Gt] (o:=by repeat' first|apply Ya|exact pcM|exact fq (X9 (X9 h44 h47) h48)|exact fq (X6 (X6 (X6 (X6 (X6 (X6 (X6 h34 h35) h36) h37) h38) h41) h42) h43)|exact Xu) (k:=wkT [] (X4.glue J))
         intro h;obtain rfl:=oj h;exact Xd [Gt,Gt,Gt,.el (aI .i64 (v16.1.Where.length:Int)),Gt,Gt] (o:=by repeat' first|apply Ya|exact pcM|exact fq (X9 (X9 h44 h47) h48)|exact fq (X6 (X6 (X6 (X6 (X6 (X6 (X6 h34 h35) h36) h37) h38) h41) h42) h43)|exact Xu) (k:=wkT [] (X4.glue J))
        intro h;obtain rfl:=oj h;exact Xd [Gf,Gf,Gf,Gf,Gf,Gf,Gf,Gf,Gf,Gf,Gf,Gf,Gf,Gf,Gf,Gf,Gf,Gf,Gf,Gf] (o:=by repeat' first|apply Ya|exact pcM|exact fq (X6 (X6 (X6 (X6 (X6 (X6 (X6 h34 h35) h36) h37) h38) h41) h42) h43)|exact Xu) (k:=wkT [] (X4.glue J))
       intro h;obtain rfl:=oj h;exact Xd [Gt,Gt,Gt,Gt,Gt,Gt,Gt,Gt,Gt,Gt,Gt,X3t.pure _ (aB v39),Gt,Gt,Gf,Gf,Gf,Gf,Gf,Gf,Gf,Gf,Gf,Gf,Gf,Gf,Gf,Gf,Gf,Gf,Gf,Gf,Gf,Gf,Gf,Gf] (o:=by repeat' first|apply Ya|exact pcM|exact(pn (Xx _ h2) cn)|exact fq (X6 h34 h35)|exact fq (X6 (X6 h34 h35) h36)|exact fq (X6 (X6 (X6 h34 h35) h36) h37)|exact fq (X6 (X6 (X6 (X6 h34 h35) h36) h37) h38)|exact fq (X6 (X6 (X6 (X6 (X6 h34 h35) h36) h37) h38) h41)|exact fq (X6 (X6 (X6 (X6 (X6 (X6 h34 h35) h36) h37) h38) h41) h42)|exact fq (X9 (X6 (X6 (X6 (X6 (X6 (X6 h34 h35) h36) h37) h38) h41) h42) rfl)|exact Xu) (k:=wkT [] (X4.glue J))
      intro h;obtain rfl:=oj h;exact Xd [Gt,Gt,Gt,Gt,Gt,Gt,Gt,Gt,Gt,Gt,Gt,X3t.pure _ (aB v39),Gf,Gf,Gf,Gf,Gf,Gf,Gf,Gf,Gf,Gf,Gf,Gf,Gf,Gf,Gf,Gf,Gf,Gf,Gf,Gf,Gf,Gf,Gf,Gf] (o:=by repeat' first|apply Ya|exact pcM|exact(pn (Xx _ h2) cn)|exact fq (X6 h34 h35)|exact fq (X6 (X6 h34 h35) h36)|exact fq (X6 (X6 (X6 h34 h35) h36) h37)|exact fq (X6 (X6 (X6 (X6 h34 h35) h36) h37) h38)|exact fq (X6 (X6 (X6 (X6 (X6 h34 h35) h36) h37) h38) h41)|exact fq (X9 (X6 (X6 (X6 (X6 (X6 h34 h35) h36) h37) h38) h41) rfl)|exact fq (X9 (X9 (X6 (X6 (X6 (X6 (X6 h34 h35) h36) h37) h38) h41) rfl) rfl)|exact Xu) (k:=wkT [] (X4.glue J))
     intro h;obtain rfl:=oj h;exact Xd [Gt,Gt,Gt,Gt,Gt,Gt,Gt,Gt,Gf,Gf,Gf,Gf,Gf,Gf,Gf,Gf,Gf,Gf,Gf,Gf,Gf,Gf,Gf,Gf,Gf,Gf,Gf,Gf,Gf,Gf,Gf,Gf,Gf,Gf,Gf] (o:=by repeat' first|apply Ya|exact pcM|exact(pn (Xx _ h2) cn)|exact fq (X6 h34 h35)|exact fq (X6 (X6 h34 h35) h36)|exact fq (X6 (X6 (X6 h34 h35) h36) h37)|exact fq (X6 (X6 (X6 (X6 h34 h35) h36) h37) h38)|exact fq (X9 (X6 (X6 (X6 (X6 h34 h35) h36) h37) h38) rfl)|exact fq (X9 (X9 (X6 (X6 (X6 (X6 h34 h35) h36) h37) h38) rfl) rfl)|exact fq (X9 (X9 (X9 (X6 (X6 (X6 (X6 h34 h35) h36) h37) h38) rfl) rfl) rfl)|exact Xu) (k:=wkT [] (X4.glue J))
    intro h;obtain rfl:=oj h;exact Xd [Gt,Gt,Gt,Gt,Gt,Gt,Gf,Gf,Gf,Gf,Gf,Gf,Gf,Gf,Gf,Gf,Gf,Gf,Gf,Gf,Gf,Gf,Gf,Gf,Gf,Gf,Gf,Gf,Gf,Gf,Gf,Gf,Gf,Gf,Gf] (o:=by repeat' first|apply Ya|exact pcM|exact(pn (Xx _ h2) cn)|exact fq (X6 h34 h35)|exact fq (X6 (X6 h34 h35) h36)|exact fq (X6 (X6 (X6 h34 h35) h36) h37)|exact fq (X9 (X6 (X6 (X6 h34 h35) h36) h37) rfl)|exact fq (X9 (X9 (X6 (X6 (X6 h34 h35) h36) h37) rfl) rfl)|exact fq (X9 (X9 (X9 (X6 (X6 (X6 h34 h35) h36) h37) rfl) rfl) rfl)|exact fq (X9 (X9 (X9 (X9 (X6 (X6 (X6 h34 h35) h36) h37) rfl) rfl) rfl) rfl)|exact Xu) (k:=wkT [] (X4.glue J))
   intro h;obtain rfl:=oj h;exact Xd [Gt,Gt,Gt,Gt,Gf,Gf,Gf,Gf,Gf,Gf,Gf,Gf,Gf,Gf,Gf,Gf,Gf,Gf,Gf,Gf,Gf,Gf,Gf,Gf,Gf,Gf,Gf,Gf,Gf,Gf,Gf,Gf,Gf,Gf,Gf] (o:=by repeat' first|apply Ya|exact pcM|exact(pn (Xx _ h2) cn)|exact fq (X6 h34 h35)|exact fq (X6 (X6 h34 h35) h36)|exact fq (X9 (X6 (X6 h34 h35) h36) rfl)|exact fq (X9 (X9 (X6 (X6 h34 h35) h36) rfl) rfl)|exact fq (X9 (X9 (X9 (X6 (X6 h34 h35) h36) rfl) rfl) rfl)|exact fq (X9 (X9 (X9 (X9 (X6 (X6 h34 h35) h36) rfl) rfl) rfl) rfl)|exact fq (X9 (X9 (X9 (X9 (X9 (X6 (X6 h34 h35) h36) rfl) rfl) rfl) rfl) rfl)|exact Xu) (k:=wkT [] (X4.glue J))
  intro h;obtain rfl:=oj h;exact Xd [Gt,Gt,Gf,Gf,Gf,Gf,Gf,Gf,Gf,Gf,Gf,Gf,Gf,Gf,Gf,Gf,Gf,Gf,Gf,Gf,Gf,Gf,Gf,Gf,Gf,Gf,Gf,Gf,Gf,Gf,Gf,Gf,Gf,Gf,Gf] (o:=by repeat' first|apply Ya|exact pcM|exact(pn (Xx _ h2) cn)|exact fq (X6 h34 h35)|exact fq (X9 (X6 h34 h35) rfl)|exact fq (X9 (X9 (X6 h34 h35) rfl) rfl)|exact fq (X9 (X9 (X9 (X6 h34 h35) rfl) rfl) rfl)|exact fq (X9 (X9 (X9 (X9 (X6 h34 h35) rfl) rfl) rfl) rfl)|exact fq (X9 (X9 (X9 (X9 (X9 (X6 h34 h35) rfl) rfl) rfl) rfl) rfl)|exact fq (X9 (X9 (X9 (X9 (X9 (X9 (X6 h34 h35) rfl) rfl) rfl) rfl) rfl) rfl)|exact Xu) (k:=wkT [] (X4.glue J))
 intro h;obtain rfl:=oj h;exact Xd [Gf,Gf,Gf,Gf,Gf,Gf,Gf,Gf,Gf,Gf,Gf,Gf,Gf,Gf,Gf,Gf,Gf,Gf,Gf,Gf,Gf,Gf,Gf,Gf,Gf,Gf,Gf,Gf,Gf,Gf,Gf,Gf,Gf,Gf,Gf] (o:=by repeat' first|apply Ya|exact pcM|exact(pn (Xx _ h2) cn)|exact fq (X9 h34 rfl)|exact fq (X9 (X9 h34 rfl) rfl)|exact fq (X9 (X9 (X9 h34 rfl) rfl) rfl)|exact fq (X9 (X9 (X9 (X9 h34 rfl) rfl) rfl) rfl)|exact fq (X9 (X9 (X9 (X9 (X9 h34 rfl) rfl) rfl) rfl) rfl)|exact fq (X9 (X9 (X9 (X9 (X9 (X9 h34 rfl) rfl) rfl) rfl) rfl) rfl)|exact fq (X9 (X9 (X9 (X9 (X9 (X9 (X9 h34 rfl) rfl) rfl) rfl) rfl) rfl) rfl)|exact Xu) (k:=wkT [] (X4.glue J))⟩
instance X9b:PCs Tryz.prog 6 (∀ (a0:Xa) (r:Bool),X3b a0=some r->X06 Tryz.prog 6 [(X8 false a0)] (aB r)):=⟨λa0 r h=>by
 refine X06.sym X7 fn6 (nt:=124) rfl rfl ?_ okM;unfold X3b at h;revert h;refine bI λv1 h2=>bI λv3 h4=>brI (λh5=>?_) λh5=>?_
 ·
  exact λe=>oj e▸Xd [.pure [] (aB v1),.pure _ (aB v3),Bt] (o:=by repeat' first|apply Ya|exact pcM|exact(pn (Xx _ h2) cn)|exact Xu) (k:=fi)
 refine bI λv6 h7=>bI λXp9 h27=>rnI [.pure [] (aB v1),.pure _ (aB v3),Bf,.pure _ (AV.tup [(X8 false v6.1),(aI .i64 v6.2)]),.stop 5] (o:=by repeat' first|apply Ya|exact pcM|exact(pn (Xx _ h2) cn)|exact Xu) ?_;intro h;refine X4.join (s':=⟨fr [(1,(AV.ptr 0 0 0)),(3,(aB v1)),(4,(AV.ptr 1 0 0)),(77,(aB Xp9))],hp ([(0,Ob [(X8 false a0)] 10),(1,Ob [(X8 false v6.1)] 10)]),2⟩) ?_ (λJ=>X4.cut ?_)
 ·
  revert h;refine brI (λh28=>λe=>oj e▸Xd [Bt] (k:=fi)) λh28=>brI (λh29=>λe=>oj e▸Xd [Bf,Bt] (k:=fi)) λh29=>bI λXxw h37=>rnI [Bf,Bf,.stop 9] ?_;intro h;refine X4.join (s':=⟨fr [(2,(aB Xxw))],hp ([]),0⟩) ?_ (λJ=>X4.cut ?_)
  ·
   revert h;exact λe=>oj e▸Xd [] (k:=fi)
  clear h;revert h37;refine brI (λh34=>?_) λh34=>?_
  ·
   refine brI (λh35=>?_) λh35=>?_
   ·
    refine brI (λh36=>?_) λh36=>?_
    ·
     intro h;obtain rfl:=oj h;exact Xd [Gt,Gt,Gt,Gt,Gt,Gt,Gt,Gt,Gt,Gt,Gt,Gt,Gt,Gt,Gt,Gt,Gt,Gt] (o:=by repeat' first|apply Ya|exact pcM|exact fq (X6 h34 h35)|exact fq (X6 (X6 h34 h35) h36)|exact Xu) (k:=wkT [] (X4.glue J))
    intro h;obtain rfl:=oj h;exact Xd [Gt,Gt,Gt,Gt,Gt,Gt,Gt,Gt,Gt,Gt,Gt,Gf,Gf,Gf,Gf,Gf,Gf,Gf] (o:=by repeat' first|apply Ya|exact pcM|exact fq (X6 h34 h35)|exact fq (X6 (X6 h34 h35) h36)|exact Xu) (k:=wkT [] (X4.glue J))
   intro h;obtain rfl:=oj h;exact Xd [Gt,Gt,Gt,Gt,Gf,Gf,Gf,Gf,Gf,Gf,Gf,Gf,Gf,Gf,Gf,Gf,Gf,Gf] (o:=by repeat' first|apply Ya|exact pcM|exact fq (X6 h34 h35)|exact fq (X9 (X6 h34 h35) rfl)|exact Xu) (k:=wkT [] (X4.glue J))
  intro h;obtain rfl:=oj h;exact Xd [Gf,Gf,Gf,Gf,Gf,Gf,Gf,Gf,Gf,Gf,Gf,Gf,Gf,Gf,Gf,Gf,Gf,Gf] (o:=by repeat' first|apply Ya|exact pcM|exact fq (X9 h34 rfl)|exact fq (X9 (X9 h34 rfl) rfl)|exact Xu) (k:=wkT [] (X4.glue J))
 clear h;revert h27;refine brI (λh18=>?_) λh18=>?_
 ·
  intro h;obtain rfl:=oj h;exact Xd [Gf,Gf,Gf,Gf,Gf,Gf,Gf,Gf,Gf,Gf,Gf,Gf,Gf,Gf,Gf,Gf,Gf,Gf,Gf,Gf,Gf,Gf,Gf,Gf,Gf,Gf,Gf,Gf,Gf,Gf,Gf,Gf,Gf,Gf,Gf,Gf,Gf,Gf,Gf,Gf,Gf,Gf] (o:=by repeat' first|apply Ya|exact pcM|exact(pn (Xx _ h2) cn)|exact fq (X6 h18 rfl)|exact fq (X6 (X6 h18 rfl) rfl)|exact fq (X6 (X6 (X6 h18 rfl) rfl) rfl)|exact fq (X6 (X6 (X6 (X6 h18 rfl) rfl) rfl) rfl)|exact fq (X6 (X6 (X6 (X6 (X6 h18 rfl) rfl) rfl) rfl) rfl)|exact fq (X6 (X6 (X6 (X6 (X6 (X6 h18 rfl) rfl) rfl) rfl) rfl) rfl)|exact Xu) (k:=wkT [] (X4.glue J))
 refine brI (λh19=>?_) λh19=>?_
 ·
  intro h;obtain rfl:=oj h;exact Xd [Gt,Gt,Gt,Gt,Gt,Gf,Gf,Gf,Gf,Gf,Gf,Gf,Gf,Gf,Gf,Gf,Gf,Gf,Gf,Gf,Gf,Gf,Gf,Gf,Gf,Gf,Gf,Gf,Gf,Gf,Gf,Gf,Gf,Gf,Gf,Gf,Gf,Gf,Gf,Gf,Gf,Gf] (o:=by repeat' first|apply Ya|exact pcM|exact(pn (Xx _ h2) cn)|exact fq (X9 h18 h19)|exact fq (X6 (X9 h18 h19) rfl)|exact fq (X6 (X6 (X9 h18 h19) rfl) rfl)|exact fq (X6 (X6 (X6 (X9 h18 h19) rfl) rfl) rfl)|exact fq (X6 (X6 (X6 (X6 (X9 h18 h19) rfl) rfl) rfl) rfl)|exact fq (X6 (X6 (X6 (X6 (X6 (X9 h18 h19) rfl) rfl) rfl) rfl) rfl)|exact Xu) (k:=wkT [] (X4.glue J))
 refine bI λv20 h21=>brI (λh22=>?_) λh22=>?_
 ·
  intro h;obtain rfl:=oj h;exact Xd [Gt,Gt,Gt,Gt,Gt,Gt,Gt,Gt,Gt,Gt,X3t.pure _ (aB v20),Gt,Gf,Gf,Gf,Gf,Gf,Gf,Gf,Gf,Gf,Gf,Gf,Gf,Gf,Gf,Gf,Gf,Gf,Gf,Gf,Gf,Gf,Gf,Gf,Gf,Gf,Gf,Gf,Gf,Gf,Gf,Gf] (o:=by repeat' first|apply Ya|exact pcM|exact(pn (Xx _ h2) cn)|exact fq (X9 h18 h19)|exact fq (X9 (X9 h18 h19) h22)|exact fq (X6 (X9 (X9 h18 h19) h22) rfl)|exact fq (X6 (X6 (X9 (X9 h18 h19) h22) rfl) rfl)|exact fq (X6 (X6 (X6 (X9 (X9 h18 h19) h22) rfl) rfl) rfl)|exact fq (X6 (X6 (X6 (X6 (X9 (X9 h18 h19) h22) rfl) rfl) rfl) rfl)|exact Xu) (k:=wkT [] (X4.glue J))
 refine rnI [Gt,Gt,Gt,Gt,Gt,Gt,Gt,Gt,Gt,Gt,.pure _ (aB v20),Gt,Gt,Gt,Gt,Gt,Gt,.stop 999999] (o:=by repeat' first|apply Ya|exact pcM|exact(pn (Xx _ h2) cn)|exact fq (X9 h18 h19)|exact fq (X9 (X9 h18 h19) h22)|exact Xu) ?_;refine brI (λh23=>?_) λh23=>?_
 ·
  intro h;obtain rfl:=oj h;exact Xd [Gf,Gf,Gf,Gf,Gf,Gf,Gf,Gf,Gf,Gf,Gf,Gf,Gf,Gf,Gf,Gf,Gf,Gf,Gf,Gf,Gf,Gf,Gf,Gf,Gf,Gf] (o:=by repeat' first|apply Ya|exact pcM|exact fq (X9 (X9 (X9 h18 h19) h22) h23)|exact fq (X6 (X9 (X9 (X9 h18 h19) h22) h23) rfl)|exact fq (X6 (X6 (X9 (X9 (X9 h18 h19) h22) h23) rfl) rfl)|exact fq (X6 (X6 (X6 (X9 (X9 (X9 h18 h19) h22) h23) rfl) rfl) rfl)|exact Xu) (k:=wkT [] (X4.glue J))
 refine brI (λh24=>?_) λh24=>?_
 ·
  intro h;obtain rfl:=oj h;exact Xd [Gt,Gt,Gt,Gt,Gt,Gf,Gf,Gf,Gf,Gf,Gf,Gf,Gf,Gf,Gf,Gf,Gf,Gf,Gf,Gf,Gf,Gf,Gf,Gf,Gf,Gf] (o:=by repeat' first|apply Ya|exact pcM|exact fq (X9 (X9 (X9 h18 h19) h22) h23)|exact fq (X9 (X9 (X9 (X9 h18 h19) h22) h23) h24)|exact fq (X6 (X9 (X9 (X9 (X9 h18 h19) h22) h23) h24) rfl)|exact fq (X6 (X6 (X9 (X9 (X9 (X9 h18 h19) h22) h23) h24) rfl) rfl)|exact Xu) (k:=wkT [] (X4.glue J))
 refine brI (λh25=>?_) λh25=>?_
 ·
  intro h;obtain rfl:=oj h;exact Xd [Gt,Gt,Gt,Gt,Gt,Gt,Gt,Gt,Gt,Gt,Gf,Gf,Gf,Gf,Gf,Gf,Gf,Gf,Gf,Gf,Gf,Gf,Gf,Gf,Gf,Gf] (o:=by repeat' first|apply Ya|exact pcM|exact fq (X9 (X9 (X9 h18 h19) h22) h23)|exact fq (X9 (X9 (X9 (X9 h18 h19) h22) h23) h24)|exact fq (X9 (X9 (X9 (X9 (X9 h18 h19) h22) h23) h24) h25)|exact fq (X6 (X9 (X9 (X9 (X9 (X9 h18 h19) h22) h23) h24) h25) rfl)|exact Xu) (k:=wkT [] (X4.glue J))
 refine rnI [Gt,Gt,Gt,Gt,Gt,Gt,Gt,Gt,Gt,Gt,Gt,Gt,Gt,.el (aI .i64 (v6.1.Where.length:Int)),Gt,Gt,Gt,.el (aI .i64 (a0.Where.length:Int)),Gt,Gt,.stop 999999] (o:=by repeat' first|apply Ya|exact pcM|exact fq (X9 (X9 (X9 h18 h19) h22) h23)|exact fq (X9 (X9 (X9 (X9 h18 h19) h22) h23) h24)|exact fq (X9 (X9 (X9 (X9 (X9 h18 h19) h22) h23) h24) h25)|exact Xu) ?_;refine brI (λh26=>?_) λh26=>?_
 ·
  intro h;obtain rfl:=oj h;exact Xd [Gf,Gf,Gf,Gf,Gf,Gf,Gf,Gf] (o:=by repeat' first|apply Ya|exact pcM|exact fq (X9 (X9 (X9 (X9 (X9 (X9 h18 h19) h22) h23) h24) h25) h26)|exact Xu) (k:=wkT [] (X4.glue J))
 intro h;obtain rfl:=oj h;exact Xd [Gt,Gt,Gt,.el (aI .i64 (v6.1.Arg.length:Int)),Gt,Gt,Gt,.el (aI .i64 (a0.Arg.length:Int)),Gt,Gt] (o:=by repeat' first|apply Ya|exact pcM|exact fq (X9 (X9 (X9 (X9 (X9 (X9 h18 h19) h22) h23) h24) h25) h26)|exact Xu) (k:=wkT [] (X4.glue J))⟩
end Go.Av.Tryz