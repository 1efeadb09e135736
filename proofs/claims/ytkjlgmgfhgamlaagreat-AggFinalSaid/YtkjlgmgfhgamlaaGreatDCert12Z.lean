/- Printed by decomp.py: that the program computes the functions. -/
import Derived.Test.YtkjlgmgfhgamlaaGreatDCert0Z
set_option linter.all false

namespace Go.Av.Tryz
open Go.Proofs Go.D
set_option maxRecDepth 10000
set_option maxHeartbeats 40000000
instance Xx8:PCs Tryz.prog 54 (∀ (a0:Xo) (r:Bool),Xb0 a0=some r->X0h Tryz.prog 54 [(Xc false a0)] (aB r)):=⟨fun a0 r h=>by
 refine X0h.sym X8 fn54 (nt:=69) rfl rfl ?_ okM
 unfold Xb0 at h
 revert h
 refine brI (fun h1=>?_) fun h1=>?_
 ·
  refine bI fun j6_2 h11=>rnI [Bt,.stop 19] ?_
  intro h
  refine X5.join (s':=⟨fr [(2,(aB j6_2))],hp ([]),0⟩) ?_ (fun J=>X5.cut ?_)
  ·
   revert h
   exact fun e=>oj e▸Xb [] (k:=fi)
  clear h;revert h11
  refine brI (fun h7=>?_) fun h7=>?_
  ·
   refine brI (fun h8=>?_) fun h8=>?_
   ·
    refine rnI [.el (aI .i64 (a0.Marks.length:Int)),.go true,.go true,.go true,.el (aI .i64 (a0.Store.length:Int)),.go true,.go true,.go true,.go true,.go true,.el (aI .i64 (a0.Events.length:Int)),.go true,.go true,.stop 999999] (o:=by repeat' first|apply Ya|exact pcM|exact((X0 h7 h8))|exact(X6 (X0 h7 h8))|exact(X24 (X0 h7 h8))|exact Xr) ?_
    refine brI (fun h9=>?_) fun h9=>?_
    ·
     refine brI (fun h10=>?_) fun h10=>?_
     ·
      intro h
      obtain rfl:=oj h
      exact Xb [.go true,.go true,.go true,.el (aI .i64 (a0.Rows.length:Int)),.go true,.go true,.go true,.go true,.go true,.el (aI .i64 (a0.Late.length:Int)),.go true,.go true] (o:=by repeat' first|apply Ya|exact pcM|exact((X0 (X0 h7 h8) h9))|exact(X6 (X0 (X0 h7 h8) h9))|exact(X24 (X0 (X0 h7 h8) h9))|exact((X0 (X0 (X0 h7 h8) h9) h10))|exact(X6 (X0 (X0 (X0 h7 h8) h9) h10))|exact(X24 (X0 (X0 (X0 h7 h8) h9) h10))|exact Xr) (k:=wkT [] (X5.glue J))
     intro h
     obtain rfl:=oj h
     exact Xb [.go true,.go true,.go true,.el (aI .i64 (a0.Rows.length:Int)),.go true,.go true,.go false,.go false,.go false,.go false,.go false] (o:=by repeat' first|apply Ya|exact pcM|exact((X0 (X0 h7 h8) h9))|exact(X6 (X0 (X0 h7 h8) h9))|exact(X24 (X0 (X0 h7 h8) h9))|exact((X0 (X0 (X0 h7 h8) h9) h10))|exact(X6 (X0 (X0 (X0 h7 h8) h9) h10))|exact(X1q (X0 (X0 (X0 h7 h8) h9) h10))|exact Xr) (k:=wkT [] (X5.glue J))
    intro h
    obtain rfl:=oj h
    exact Xb [.go false,.go false,.go false,.go false,.go false,.go false,.go false,.go false,.go false,.go false] (o:=by repeat' first|apply Ya|exact pcM|exact((X0 (X0 h7 h8) h9))|exact(X6 (X0 (X0 h7 h8) h9))|exact(X1q (X0 (X0 h7 h8) h9))|exact((X1 (X0 (X0 h7 h8) h9) rfl))|exact(X6 (X1 (X0 (X0 h7 h8) h9) rfl))|exact(X1q (X1 (X0 (X0 h7 h8) h9) rfl))|exact Xr) (k:=wkT [] (X5.glue J))
   intro h
   obtain rfl:=oj h
   exact Xb [.el (aI .i64 (a0.Marks.length:Int)),.go true,.go true,.go true,.el (aI .i64 (a0.Store.length:Int)),.go true,.go true,.go false,.go false,.go false,.go false,.go false,.go false,.go false,.go false,.go false,.go false,.go false,.go false,.go false,.go false,.go false] (o:=by repeat' first|apply Ya|exact pcM|exact((X0 h7 h8))|exact(X6 (X0 h7 h8))|exact(X1q (X0 h7 h8))|exact((X1 (X0 h7 h8) rfl))|exact(X6 (X1 (X0 h7 h8) rfl))|exact(X1q (X1 (X0 h7 h8) rfl))|exact((X1 (X1 (X0 h7 h8) rfl) rfl))|exact(X6 (X1 (X1 (X0 h7 h8) rfl) rfl))|exact(X1q (X1 (X1 (X0 h7 h8) rfl) rfl))|exact Xr) (k:=wkT [] (X5.glue J))
  intro h
  obtain rfl:=oj h
  exact Xb [.el (aI .i64 (a0.Marks.length:Int)),.go false,.go false,.go false,.go false,.go false,.go false,.go false,.go false,.go false,.go false,.go false,.go false,.go false,.go false,.go false,.go false,.go false,.go false,.go false,.go false] (o:=by repeat' first|apply Ya|exact pcM|exact((X1 h7 rfl))|exact(X6 (X1 h7 rfl))|exact(X1q (X1 h7 rfl))|exact((X1 (X1 h7 rfl) rfl))|exact(X6 (X1 (X1 h7 rfl) rfl))|exact(X1q (X1 (X1 h7 rfl) rfl))|exact((X1 (X1 (X1 h7 rfl) rfl) rfl))|exact(X6 (X1 (X1 (X1 h7 rfl) rfl) rfl))|exact(X1q (X1 (X1 (X1 h7 rfl) rfl) rfl))|exact Xr) (k:=wkT [] (X5.glue J))
 refine brI (fun h12=>?_) fun h12=>?_
 ·
  refine bI fun X01n h22=>rnI [Bf,Bt,.stop 19] ?_
  intro h
  refine X5.join (s':=⟨fr [(2,(aB X01n))],hp ([]),0⟩) ?_ (fun J=>X5.cut ?_)
  ·
   revert h
   exact fun e=>oj e▸Xb [] (k:=fi)
  clear h;revert h22
  refine brI (fun h18=>?_) fun h18=>?_
  ·
   refine brI (fun h19=>?_) fun h19=>?_
   ·
    refine rnI [.el (aI .i64 (a0.Marks.length:Int)),.go true,.go true,.go true,.el (aI .i64 (a0.Store.length:Int)),.go true,.go true,.go true,.go true,.go true,.el (aI .i64 (a0.Events.length:Int)),.go true,.go true,.stop 999999] (o:=by repeat' first|apply Ya|exact pcM|exact((X0 h18 h19))|exact(X6 (X0 h18 h19))|exact(X24 (X0 h18 h19))|exact Xr) ?_
    refine brI (fun h20=>?_) fun h20=>?_
    ·
     refine brI (fun h21=>?_) fun h21=>?_
     ·
      intro h
      obtain rfl:=oj h
      exact Xb [.go true,.go true,.go true,.el (aI .i64 (a0.Rows.length:Int)),.go true,.go true,.go true,.go true,.go true,.el (aI .i64 (a0.Late.length:Int)),.go true,.go true] (o:=by repeat' first|apply Ya|exact pcM|exact((X0 (X0 h18 h19) h20))|exact(X6 (X0 (X0 h18 h19) h20))|exact(X24 (X0 (X0 h18 h19) h20))|exact((X0 (X0 (X0 h18 h19) h20) h21))|exact(X6 (X0 (X0 (X0 h18 h19) h20) h21))|exact(X24 (X0 (X0 (X0 h18 h19) h20) h21))|exact Xr) (k:=wkT [] (X5.glue J))
     intro h
     obtain rfl:=oj h
     exact Xb [.go true,.go true,.go true,.el (aI .i64 (a0.Rows.length:Int)),.go true,.go true,.go false,.go false,.go false,.go false,.go false] (o:=by repeat' first|apply Ya|exact pcM|exact((X0 (X0 h18 h19) h20))|exact(X6 (X0 (X0 h18 h19) h20))|exact(X24 (X0 (X0 h18 h19) h20))|exact((X0 (X0 (X0 h18 h19) h20) h21))|exact(X6 (X0 (X0 (X0 h18 h19) h20) h21))|exact(X1q (X0 (X0 (X0 h18 h19) h20) h21))|exact Xr) (k:=wkT [] (X5.glue J))
    intro h
    obtain rfl:=oj h
    exact Xb [.go false,.go false,.go false,.go false,.go false,.go false,.go false,.go false,.go false,.go false] (o:=by repeat' first|apply Ya|exact pcM|exact((X0 (X0 h18 h19) h20))|exact(X6 (X0 (X0 h18 h19) h20))|exact(X1q (X0 (X0 h18 h19) h20))|exact((X1 (X0 (X0 h18 h19) h20) rfl))|exact(X6 (X1 (X0 (X0 h18 h19) h20) rfl))|exact(X1q (X1 (X0 (X0 h18 h19) h20) rfl))|exact Xr) (k:=wkT [] (X5.glue J))
   intro h
   obtain rfl:=oj h
   exact Xb [.el (aI .i64 (a0.Marks.length:Int)),.go true,.go true,.go true,.el (aI .i64 (a0.Store.length:Int)),.go true,.go true,.go false,.go false,.go false,.go false,.go false,.go false,.go false,.go false,.go false,.go false,.go false,.go false,.go false,.go false,.go false] (o:=by repeat' first|apply Ya|exact pcM|exact((X0 h18 h19))|exact(X6 (X0 h18 h19))|exact(X1q (X0 h18 h19))|exact((X1 (X0 h18 h19) rfl))|exact(X6 (X1 (X0 h18 h19) rfl))|exact(X1q (X1 (X0 h18 h19) rfl))|exact((X1 (X1 (X0 h18 h19) rfl) rfl))|exact(X6 (X1 (X1 (X0 h18 h19) rfl) rfl))|exact(X1q (X1 (X1 (X0 h18 h19) rfl) rfl))|exact Xr) (k:=wkT [] (X5.glue J))
  intro h
  obtain rfl:=oj h
  exact Xb [.el (aI .i64 (a0.Marks.length:Int)),.go false,.go false,.go false,.go false,.go false,.go false,.go false,.go false,.go false,.go false,.go false,.go false,.go false,.go false,.go false,.go false,.go false,.go false,.go false,.go false] (o:=by repeat' first|apply Ya|exact pcM|exact((X1 h18 rfl))|exact(X6 (X1 h18 rfl))|exact(X1q (X1 h18 rfl))|exact((X1 (X1 h18 rfl) rfl))|exact(X6 (X1 (X1 h18 rfl) rfl))|exact(X1q (X1 (X1 h18 rfl) rfl))|exact((X1 (X1 (X1 h18 rfl) rfl) rfl))|exact(X6 (X1 (X1 (X1 h18 rfl) rfl) rfl))|exact(X1q (X1 (X1 (X1 h18 rfl) rfl) rfl))|exact Xr) (k:=wkT [] (X5.glue J))
 refine brI (fun h23=>?_) fun h23=>?_
 ·
  refine bI fun X01i h33=>rnI [Bf,Bf,Bt,.stop 19] ?_
  intro h
  refine X5.join (s':=⟨fr [(2,(aB X01i))],hp ([]),0⟩) ?_ (fun J=>X5.cut ?_)
  ·
   revert h
   exact fun e=>oj e▸Xb [] (k:=fi)
  clear h;revert h33
  refine brI (fun h29=>?_) fun h29=>?_
  ·
   refine brI (fun h30=>?_) fun h30=>?_
   ·
    refine rnI [.el (aI .i64 (a0.Marks.length:Int)),.go true,.go true,.go true,.el (aI .i64 (a0.Store.length:Int)),.go true,.go true,.go true,.go true,.go true,.el (aI .i64 (a0.Events.length:Int)),.go true,.go true,.stop 999999] (o:=by repeat' first|apply Ya|exact pcM|exact((X0 h29 h30))|exact(X6 (X0 h29 h30))|exact(X24 (X0 h29 h30))|exact Xr) ?_
    refine brI (fun h31=>?_) fun h31=>?_
    ·
     refine brI (fun h32=>?_) fun h32=>?_
     ·
      intro h
      obtain rfl:=oj h
      exact Xb [.go true,.go true,.go true,.el (aI .i64 (a0.Rows.length:Int)),.go true,.go true,.go true,.go true,.go true,.el (aI .i64 (a0.Late.length:Int)),.go true,.go true] (o:=by repeat' first|apply Ya|exact pcM|exact((X0 (X0 h29 h30) h31))|exact(X6 (X0 (X0 h29 h30) h31))|exact(X24 (X0 (X0 h29 h30) h31))|exact((X0 (X0 (X0 h29 h30) h31) h32))|exact(X6 (X0 (X0 (X0 h29 h30) h31) h32))|exact(X24 (X0 (X0 (X0 h29 h30) h31) h32))|exact Xr) (k:=wkT [] (X5.glue J))
     intro h
     obtain rfl:=oj h
     exact Xb [.go true,.go true,.go true,.el (aI .i64 (a0.Rows.length:Int)),.go true,.go true,.go false,.go false,.go false,.go false,.go false] (o:=by repeat' first|apply Ya|exact pcM|exact((X0 (X0 h29 h30) h31))|exact(X6 (X0 (X0 h29 h30) h31))|exact(X24 (X0 (X0 h29 h30) h31))|exact((X0 (X0 (X0 h29 h30) h31) h32))|exact(X6 (X0 (X0 (X0 h29 h30) h31) h32))|exact(X1q (X0 (X0 (X0 h29 h30) h31) h32))|exact Xr) (k:=wkT [] (X5.glue J))
    intro h
    obtain rfl:=oj h
    exact Xb [.go false,.go false,.go false,.go false,.go false,.go false,.go false,.go false,.go false,.go false] (o:=by repeat' first|apply Ya|exact pcM|exact((X0 (X0 h29 h30) h31))|exact(X6 (X0 (X0 h29 h30) h31))|exact(X1q (X0 (X0 h29 h30) h31))|exact((X1 (X0 (X0 h29 h30) h31) rfl))|exact(X6 (X1 (X0 (X0 h29 h30) h31) rfl))|exact(X1q (X1 (X0 (X0 h29 h30) h31) rfl))|exact Xr) (k:=wkT [] (X5.glue J))
   intro h
   obtain rfl:=oj h
   exact Xb [.el (aI .i64 (a0.Marks.length:Int)),.go true,.go true,.go true,.el (aI .i64 (a0.Store.length:Int)),.go true,.go true,.go false,.go false,.go false,.go false,.go false,.go false,.go false,.go false,.go false,.go false,.go false,.go false,.go false,.go false,.go false] (o:=by repeat' first|apply Ya|exact pcM|exact((X0 h29 h30))|exact(X6 (X0 h29 h30))|exact(X1q (X0 h29 h30))|exact((X1 (X0 h29 h30) rfl))|exact(X6 (X1 (X0 h29 h30) rfl))|exact(X1q (X1 (X0 h29 h30) rfl))|exact((X1 (X1 (X0 h29 h30) rfl) rfl))|exact(X6 (X1 (X1 (X0 h29 h30) rfl) rfl))|exact(X1q (X1 (X1 (X0 h29 h30) rfl) rfl))|exact Xr) (k:=wkT [] (X5.glue J))
  intro h
  obtain rfl:=oj h
  exact Xb [.el (aI .i64 (a0.Marks.length:Int)),.go false,.go false,.go false,.go false,.go false,.go false,.go false,.go false,.go false,.go false,.go false,.go false,.go false,.go false,.go false,.go false,.go false,.go false,.go false,.go false] (o:=by repeat' first|apply Ya|exact pcM|exact((X1 h29 rfl))|exact(X6 (X1 h29 rfl))|exact(X1q (X1 h29 rfl))|exact((X1 (X1 h29 rfl) rfl))|exact(X6 (X1 (X1 h29 rfl) rfl))|exact(X1q (X1 (X1 h29 rfl) rfl))|exact((X1 (X1 (X1 h29 rfl) rfl) rfl))|exact(X6 (X1 (X1 (X1 h29 rfl) rfl) rfl))|exact(X1q (X1 (X1 (X1 h29 rfl) rfl) rfl))|exact Xr) (k:=wkT [] (X5.glue J))
 refine brI (fun h34=>?_) fun h34=>?_
 ·
  refine bI fun X01d h44=>rnI [Bf,Bf,Bf,Bt,.el (aI .i64 (a0.Marks.length:Int)),.el (aI .i64 (a0.Store.length:Int)),.stop 19] ?_
  intro h
  refine X5.join (s':=⟨fr [(2,(aB X01d))],hp ([]),0⟩) ?_ (fun J=>X5.cut ?_)
  ·
   revert h
   exact fun e=>oj e▸Xb [] (k:=fi)
  clear h;revert h44
  refine brI (fun h40=>?_) fun h40=>?_
  ·
   refine brI (fun h41=>?_) fun h41=>?_
   ·
    refine rnI [.el (aI .i64 (a0.Marks.length:Int)),.go true,.go true,.go true,.el (aI .i64 (a0.Store.length:Int)),.go true,.go true,.go true,.go true,.go true,.el (aI .i64 (a0.Events.length:Int)),.go true,.go true,.stop 999999] (o:=by repeat' first|apply Ya|exact pcM|exact((X0 h40 h41))|exact(X6 (X0 h40 h41))|exact(X24 (X0 h40 h41))|exact Xr) ?_
    refine brI (fun h42=>?_) fun h42=>?_
    ·
     refine brI (fun h43=>?_) fun h43=>?_
     ·
      intro h
      obtain rfl:=oj h
      exact Xb [.go true,.go true,.go true,.el (aI .i64 (a0.Rows.length:Int)),.go true,.go true,.go true,.go true,.go true,.el (aI .i64 (a0.Late.length:Int)),.go true,.go true] (o:=by repeat' first|apply Ya|exact pcM|exact((X0 (X0 h40 h41) h42))|exact(X6 (X0 (X0 h40 h41) h42))|exact(X24 (X0 (X0 h40 h41) h42))|exact((X0 (X0 (X0 h40 h41) h42) h43))|exact(X6 (X0 (X0 (X0 h40 h41) h42) h43))|exact(X24 (X0 (X0 (X0 h40 h41) h42) h43))|exact Xr) (k:=wkT [] (X5.glue J))
     intro h
     obtain rfl:=oj h
     exact Xb [.go true,.go true,.go true,.el (aI .i64 (a0.Rows.length:Int)),.go true,.go true,.go false,.go false,.go false,.go false,.go false] (o:=by repeat' first|apply Ya|exact pcM|exact((X0 (X0 h40 h41) h42))|exact(X6 (X0 (X0 h40 h41) h42))|exact(X24 (X0 (X0 h40 h41) h42))|exact((X0 (X0 (X0 h40 h41) h42) h43))|exact(X6 (X0 (X0 (X0 h40 h41) h42) h43))|exact(X1q (X0 (X0 (X0 h40 h41) h42) h43))|exact Xr) (k:=wkT [] (X5.glue J))
    intro h
    obtain rfl:=oj h
    exact Xb [.go false,.go false,.go false,.go false,.go false,.go false,.go false,.go false,.go false,.go false] (o:=by repeat' first|apply Ya|exact pcM|exact((X0 (X0 h40 h41) h42))|exact(X6 (X0 (X0 h40 h41) h42))|exact(X1q (X0 (X0 h40 h41) h42))|exact((X1 (X0 (X0 h40 h41) h42) rfl))|exact(X6 (X1 (X0 (X0 h40 h41) h42) rfl))|exact(X1q (X1 (X0 (X0 h40 h41) h42) rfl))|exact Xr) (k:=wkT [] (X5.glue J))
   intro h
   obtain rfl:=oj h
   exact Xb [.el (aI .i64 (a0.Marks.length:Int)),.go true,.go true,.go true,.el (aI .i64 (a0.Store.length:Int)),.go true,.go true,.go false,.go false,.go false,.go false,.go false,.go false,.go false,.go false,.go false,.go false,.go false,.go false,.go false,.go false,.go false] (o:=by repeat' first|apply Ya|exact pcM|exact((X0 h40 h41))|exact(X6 (X0 h40 h41))|exact(X1q (X0 h40 h41))|exact((X1 (X0 h40 h41) rfl))|exact(X6 (X1 (X0 h40 h41) rfl))|exact(X1q (X1 (X0 h40 h41) rfl))|exact((X1 (X1 (X0 h40 h41) rfl) rfl))|exact(X6 (X1 (X1 (X0 h40 h41) rfl) rfl))|exact(X1q (X1 (X1 (X0 h40 h41) rfl) rfl))|exact Xr) (k:=wkT [] (X5.glue J))
  intro h
  obtain rfl:=oj h
  exact Xb [.el (aI .i64 (a0.Marks.length:Int)),.go false,.go false,.go false,.go false,.go false,.go false,.go false,.go false,.go false,.go false,.go false,.go false,.go false,.go false,.go false,.go false,.go false,.go false,.go false,.go false] (o:=by repeat' first|apply Ya|exact pcM|exact((X1 h40 rfl))|exact(X6 (X1 h40 rfl))|exact(X1q (X1 h40 rfl))|exact((X1 (X1 h40 rfl) rfl))|exact(X6 (X1 (X1 h40 rfl) rfl))|exact(X1q (X1 (X1 h40 rfl) rfl))|exact((X1 (X1 (X1 h40 rfl) rfl) rfl))|exact(X6 (X1 (X1 (X1 h40 rfl) rfl) rfl))|exact(X1q (X1 (X1 (X1 h40 rfl) rfl) rfl))|exact Xr) (k:=wkT [] (X5.glue J))
 refine brI (fun h45=>?_) fun h45=>?_
 ·
  refine bI fun X012 h55=>rnI [Bf,Bf,Bf,Bf,Bt,.el (aI .i64 (a0.Store.length:Int)),.stop 19] ?_
  intro h
  refine X5.join (s':=⟨fr [(2,(aB X012))],hp ([]),0⟩) ?_ (fun J=>X5.cut ?_)
  ·
   revert h
   exact fun e=>oj e▸Xb [] (k:=fi)
  clear h;revert h55
  refine brI (fun h51=>?_) fun h51=>?_
  ·
   refine brI (fun h52=>?_) fun h52=>?_
   ·
    refine rnI [.el (aI .i64 (a0.Marks.length:Int)),.go true,.go true,.go true,.el (aI .i64 (a0.Store.length:Int)),.go true,.go true,.go true,.go true,.go true,.el (aI .i64 (a0.Events.length:Int)),.go true,.go true,.stop 999999] (o:=by repeat' first|apply Ya|exact pcM|exact((X0 h51 h52))|exact(X6 (X0 h51 h52))|exact(X24 (X0 h51 h52))|exact Xr) ?_
    refine brI (fun h53=>?_) fun h53=>?_
    ·
     refine brI (fun h54=>?_) fun h54=>?_
     ·
      intro h
      obtain rfl:=oj h
      exact Xb [.go true,.go true,.go true,.el (aI .i64 (a0.Rows.length:Int)),.go true,.go true,.go true,.go true,.go true,.el (aI .i64 (a0.Late.length:Int)),.go true,.go true] (o:=by repeat' first|apply Ya|exact pcM|exact((X0 (X0 h51 h52) h53))|exact(X6 (X0 (X0 h51 h52) h53))|exact(X24 (X0 (X0 h51 h52) h53))|exact((X0 (X0 (X0 h51 h52) h53) h54))|exact(X6 (X0 (X0 (X0 h51 h52) h53) h54))|exact(X24 (X0 (X0 (X0 h51 h52) h53) h54))|exact Xr) (k:=wkT [] (X5.glue J))
     intro h
     obtain rfl:=oj h
     exact Xb [.go true,.go true,.go true,.el (aI .i64 (a0.Rows.length:Int)),.go true,.go true,.go false,.go false,.go false,.go false,.go false] (o:=by repeat' first|apply Ya|exact pcM|exact((X0 (X0 h51 h52) h53))|exact(X6 (X0 (X0 h51 h52) h53))|exact(X24 (X0 (X0 h51 h52) h53))|exact((X0 (X0 (X0 h51 h52) h53) h54))|exact(X6 (X0 (X0 (X0 h51 h52) h53) h54))|exact(X1q (X0 (X0 (X0 h51 h52) h53) h54))|exact Xr) (k:=wkT [] (X5.glue J))
    intro h
    obtain rfl:=oj h
    exact Xb [.go false,.go false,.go false,.go false,.go false,.go false,.go false,.go false,.go false,.go false] (o:=by repeat' first|apply Ya|exact pcM|exact((X0 (X0 h51 h52) h53))|exact(X6 (X0 (X0 h51 h52) h53))|exact(X1q (X0 (X0 h51 h52) h53))|exact((X1 (X0 (X0 h51 h52) h53) rfl))|exact(X6 (X1 (X0 (X0 h51 h52) h53) rfl))|exact(X1q (X1 (X0 (X0 h51 h52) h53) rfl))|exact Xr) (k:=wkT [] (X5.glue J))
   intro h
   obtain rfl:=oj h
   exact Xb [.el (aI .i64 (a0.Marks.length:Int)),.go true,.go true,.go true,.el (aI .i64 (a0.Store.length:Int)),.go true,.go true,.go false,.go false,.go false,.go false,.go false,.go false,.go false,.go false,.go false,.go false,.go false,.go false,.go false,.go false,.go false] (o:=by repeat' first|apply Ya|exact pcM|exact((X0 h51 h52))|exact(X6 (X0 h51 h52))|exact(X1q (X0 h51 h52))|exact((X1 (X0 h51 h52) rfl))|exact(X6 (X1 (X0 h51 h52) rfl))|exact(X1q (X1 (X0 h51 h52) rfl))|exact((X1 (X1 (X0 h51 h52) rfl) rfl))|exact(X6 (X1 (X1 (X0 h51 h52) rfl) rfl))|exact(X1q (X1 (X1 (X0 h51 h52) rfl) rfl))|exact Xr) (k:=wkT [] (X5.glue J))
  intro h
  obtain rfl:=oj h
  exact Xb [.el (aI .i64 (a0.Marks.length:Int)),.go false,.go false,.go false,.go false,.go false,.go false,.go false,.go false,.go false,.go false,.go false,.go false,.go false,.go false,.go false,.go false,.go false,.go false,.go false,.go false] (o:=by repeat' first|apply Ya|exact pcM|exact((X1 h51 rfl))|exact(X6 (X1 h51 rfl))|exact(X1q (X1 h51 rfl))|exact((X1 (X1 h51 rfl) rfl))|exact(X6 (X1 (X1 h51 rfl) rfl))|exact(X1q (X1 (X1 h51 rfl) rfl))|exact((X1 (X1 (X1 h51 rfl) rfl) rfl))|exact(X6 (X1 (X1 (X1 h51 rfl) rfl) rfl))|exact(X1q (X1 (X1 (X1 h51 rfl) rfl) rfl))|exact Xr) (k:=wkT [] (X5.glue J))
 refine brI (fun h56=>?_) fun h56=>?_
 ·
  refine bI fun X010 h66=>rnI [Bf,Bf,Bf,Bf,Bf,Bt,.stop 19] ?_
  intro h
  refine X5.join (s':=⟨fr [(2,(aB X010))],hp ([]),0⟩) ?_ (fun J=>X5.cut ?_)
  ·
   revert h
   exact fun e=>oj e▸Xb [] (k:=fi)
  clear h;revert h66
  refine brI (fun h62=>?_) fun h62=>?_
  ·
   refine brI (fun h63=>?_) fun h63=>?_
   ·
    refine rnI [.el (aI .i64 (a0.Marks.length:Int)),.go true,.go true,.go true,.el (aI .i64 (a0.Store.length:Int)),.go true,.go true,.go true,.go true,.go true,.el (aI .i64 (a0.Events.length:Int)),.go true,.go true,.stop 999999] (o:=by repeat' first|apply Ya|exact pcM|exact((X0 h62 h63))|exact(X6 (X0 h62 h63))|exact(X24 (X0 h62 h63))|exact Xr) ?_
    refine brI (fun h64=>?_) fun h64=>?_
    ·
     refine brI (fun h65=>?_) fun h65=>?_
     ·
      intro h
      obtain rfl:=oj h
      exact Xb [.go true,.go true,.go true,.el (aI .i64 (a0.Rows.length:Int)),.go true,.go true,.go true,.go true,.go true,.el (aI .i64 (a0.Late.length:Int)),.go true,.go true] (o:=by repeat' first|apply Ya|exact pcM|exact((X0 (X0 h62 h63) h64))|exact(X6 (X0 (X0 h62 h63) h64))|exact(X24 (X0 (X0 h62 h63) h64))|exact((X0 (X0 (X0 h62 h63) h64) h65))|exact(X6 (X0 (X0 (X0 h62 h63) h64) h65))|exact(X24 (X0 (X0 (X0 h62 h63) h64) h65))|exact Xr) (k:=wkT [] (X5.glue J))
     intro h
     obtain rfl:=oj h
     exact Xb [.go true,.go true,.go true,.el (aI .i64 (a0.Rows.length:Int)),.go true,.go true,.go false,.go false,.go false,.go false,.go false] (o:=by repeat' first|apply Ya|exact pcM|exact((X0 (X0 h62 h63) h64))|exact(X6 (X0 (X0 h62 h63) h64))|exact(X24 (X0 (X0 h62 h63) h64))|exact((X0 (X0 (X0 h62 h63) h64) h65))|exact(X6 (X0 (X0 (X0 h62 h63) h64) h65))|exact(X1q (X0 (X0 (X0 h62 h63) h64) h65))|exact Xr) (k:=wkT [] (X5.glue J))
    intro h
    obtain rfl:=oj h
    exact Xb [.go false,.go false,.go false,.go false,.go false,.go false,.go false,.go false,.go false,.go false] (o:=by repeat' first|apply Ya|exact pcM|exact((X0 (X0 h62 h63) h64))|exact(X6 (X0 (X0 h62 h63) h64))|exact(X1q (X0 (X0 h62 h63) h64))|exact((X1 (X0 (X0 h62 h63) h64) rfl))|exact(X6 (X1 (X0 (X0 h62 h63) h64) rfl))|exact(X1q (X1 (X0 (X0 h62 h63) h64) rfl))|exact Xr) (k:=wkT [] (X5.glue J))
   intro h
   obtain rfl:=oj h
   exact Xb [.el (aI .i64 (a0.Marks.length:Int)),.go true,.go true,.go true,.el (aI .i64 (a0.Store.length:Int)),.go true,.go true,.go false,.go false,.go false,.go false,.go false,.go false,.go false,.go false,.go false,.go false,.go false,.go false,.go false,.go false,.go false] (o:=by repeat' first|apply Ya|exact pcM|exact((X0 h62 h63))|exact(X6 (X0 h62 h63))|exact(X1q (X0 h62 h63))|exact((X1 (X0 h62 h63) rfl))|exact(X6 (X1 (X0 h62 h63) rfl))|exact(X1q (X1 (X0 h62 h63) rfl))|exact((X1 (X1 (X0 h62 h63) rfl) rfl))|exact(X6 (X1 (X1 (X0 h62 h63) rfl) rfl))|exact(X1q (X1 (X1 (X0 h62 h63) rfl) rfl))|exact Xr) (k:=wkT [] (X5.glue J))
  intro h
  obtain rfl:=oj h
  exact Xb [.el (aI .i64 (a0.Marks.length:Int)),.go false,.go false,.go false,.go false,.go false,.go false,.go false,.go false,.go false,.go false,.go false,.go false,.go false,.go false,.go false,.go false,.go false,.go false,.go false,.go false] (o:=by repeat' first|apply Ya|exact pcM|exact((X1 h62 rfl))|exact(X6 (X1 h62 rfl))|exact(X1q (X1 h62 rfl))|exact((X1 (X1 h62 rfl) rfl))|exact(X6 (X1 (X1 h62 rfl) rfl))|exact(X1q (X1 (X1 h62 rfl) rfl))|exact((X1 (X1 (X1 h62 rfl) rfl) rfl))|exact(X6 (X1 (X1 (X1 h62 rfl) rfl) rfl))|exact(X1q (X1 (X1 (X1 h62 rfl) rfl) rfl))|exact Xr) (k:=wkT [] (X5.glue J))
 refine brI (fun h67=>?_) fun h67=>fun e=>oj e▸Xb [Bf,Bf,Bf,Bf,Bf,Bf,Bf] (k:=fi)
 refine bI fun X00y h77=>rnI [Bf,Bf,Bf,Bf,Bf,Bf,Bt,.stop 19] ?_
 intro h
 refine X5.join (s':=⟨fr [(2,(aB X00y))],hp ([]),0⟩) ?_ (fun J=>X5.cut ?_)
 ·
  revert h
  exact fun e=>oj e▸Xb [] (k:=fi)
 clear h;revert h77
 refine brI (fun h73=>?_) fun h73=>?_
 ·
  refine brI (fun h74=>?_) fun h74=>?_
  ·
   refine rnI [.el (aI .i64 (a0.Marks.length:Int)),.go true,.go true,.go true,.el (aI .i64 (a0.Store.length:Int)),.go true,.go true,.go true,.go true,.go true,.el (aI .i64 (a0.Events.length:Int)),.go true,.go true,.stop 999999] (o:=by repeat' first|apply Ya|exact pcM|exact((X0 h73 h74))|exact(X6 (X0 h73 h74))|exact(X24 (X0 h73 h74))|exact Xr) ?_
   refine brI (fun h75=>?_) fun h75=>?_
   ·
    refine brI (fun h76=>?_) fun h76=>?_
    ·
     intro h
     obtain rfl:=oj h
     exact Xb [.go true,.go true,.go true,.el (aI .i64 (a0.Rows.length:Int)),.go true,.go true,.go true,.go true,.go true,.el (aI .i64 (a0.Late.length:Int)),.go true,.go true] (o:=by repeat' first|apply Ya|exact pcM|exact((X0 (X0 h73 h74) h75))|exact(X6 (X0 (X0 h73 h74) h75))|exact(X24 (X0 (X0 h73 h74) h75))|exact((X0 (X0 (X0 h73 h74) h75) h76))|exact(X6 (X0 (X0 (X0 h73 h74) h75) h76))|exact(X24 (X0 (X0 (X0 h73 h74) h75) h76))|exact Xr) (k:=wkT [] (X5.glue J))
    intro h
    obtain rfl:=oj h
    exact Xb [.go true,.go true,.go true,.el (aI .i64 (a0.Rows.length:Int)),.go true,.go true,.go false,.go false,.go false,.go false,.go false] (o:=by repeat' first|apply Ya|exact pcM|exact((X0 (X0 h73 h74) h75))|exact(X6 (X0 (X0 h73 h74) h75))|exact(X24 (X0 (X0 h73 h74) h75))|exact((X0 (X0 (X0 h73 h74) h75) h76))|exact(X6 (X0 (X0 (X0 h73 h74) h75) h76))|exact(X1q (X0 (X0 (X0 h73 h74) h75) h76))|exact Xr) (k:=wkT [] (X5.glue J))
   intro h
   obtain rfl:=oj h
   exact Xb [.go false,.go false,.go false,.go false,.go false,.go false,.go false,.go false,.go false,.go false] (o:=by repeat' first|apply Ya|exact pcM|exact((X0 (X0 h73 h74) h75))|exact(X6 (X0 (X0 h73 h74) h75))|exact(X1q (X0 (X0 h73 h74) h75))|exact((X1 (X0 (X0 h73 h74) h75) rfl))|exact(X6 (X1 (X0 (X0 h73 h74) h75) rfl))|exact(X1q (X1 (X0 (X0 h73 h74) h75) rfl))|exact Xr) (k:=wkT [] (X5.glue J))
  intro h
  obtain rfl:=oj h
  exact Xb [.el (aI .i64 (a0.Marks.length:Int)),.go true,.go true,.go true,.el (aI .i64 (a0.Store.length:Int)),.go true,.go true,.go false,.go false,.go false,.go false,.go false,.go false,.go false,.go false,.go false,.go false,.go false,.go false,.go false,.go false,.go false] (o:=by repeat' first|apply Ya|exact pcM|exact((X0 h73 h74))|exact(X6 (X0 h73 h74))|exact(X1q (X0 h73 h74))|exact((X1 (X0 h73 h74) rfl))|exact(X6 (X1 (X0 h73 h74) rfl))|exact(X1q (X1 (X0 h73 h74) rfl))|exact((X1 (X1 (X0 h73 h74) rfl) rfl))|exact(X6 (X1 (X1 (X0 h73 h74) rfl) rfl))|exact(X1q (X1 (X1 (X0 h73 h74) rfl) rfl))|exact Xr) (k:=wkT [] (X5.glue J))
 intro h
 obtain rfl:=oj h
 exact Xb [.el (aI .i64 (a0.Marks.length:Int)),.go false,.go false,.go false,.go false,.go false,.go false,.go false,.go false,.go false,.go false,.go false,.go false,.go false,.go false,.go false,.go false,.go false,.go false,.go false,.go false] (o:=by repeat' first|apply Ya|exact pcM|exact((X1 h73 rfl))|exact(X6 (X1 h73 rfl))|exact(X1q (X1 h73 rfl))|exact((X1 (X1 h73 rfl) rfl))|exact(X6 (X1 (X1 h73 rfl) rfl))|exact(X1q (X1 (X1 h73 rfl) rfl))|exact((X1 (X1 (X1 h73 rfl) rfl) rfl))|exact(X6 (X1 (X1 (X1 h73 rfl) rfl) rfl))|exact(X1q (X1 (X1 (X1 h73 rfl) rfl) rfl))|exact Xr) (k:=wkT [] (X5.glue J))⟩
instance Xvz:PCs Tryz.prog 15 (∀ (a0:Xe) (r:Bool),X57 a0=some r->X0h Tryz.prog 15 [(Xt a0)] (aB r)):=⟨fun a0 r h=>by
 refine X0h.sym X8 fn15 (nt:=11) rfl rfl ?_ okM
 unfold X57 at h
 revert h
 exact fun e=>oj e▸Xb [] (k:=fi)⟩
instance Xx9:PCs Tryz.prog 14 (∀ (a0:Int) (r:Bool),X7o a0=some r->X0h Tryz.prog 14 [(aI .i64 a0)] (aB r)):=⟨fun a0 r h=>by
 refine X0h.sym X8 fn14 (nt:=13) rfl rfl ?_ okM
 unfold X7o at h
 revert h
 exact fun e=>oj e▸Xb [] (k:=fi)⟩
instance Xz7:PCs Tryz.prog 91 (∀ (a0:X1g) (r:Bool),Xcj a0=some r->X0h Tryz.prog 91 [(Xw a0)] (aB r)):=⟨fun a0 r h=>by
 refine X0h.sym X8 fn91 (nt:=22) rfl rfl ?_ okM
 unfold Xcj at h
 revert h
 exact fun e=>oj e▸Xb [] (k:=fi)⟩
instance Xvy:PCs Tryz.prog 88 (∀ (a0:Xj) (r:Bool),X9j a0=some r->X0h Tryz.prog 88 [(X00 a0)] (aB r)):=⟨fun a0 r h=>by
 refine X0h.sym X8 fn88 (nt:=48) rfl rfl ?_ okM
 unfold X9j at h
 revert h
 refine bI fun j2_5 h4=>rnI [] ?_
 intro h
 refine X5.join (s':=⟨fr [(1,(AV.ptr 0 0 0)),(4,(aI .u8 a0.Kind)),(5,(aB j2_5))],hp ([(0,Ob [(X00 a0)] 10)]),1⟩) ?_ (fun J=>X5.cut ?_)
 ·
  revert h
  refine brI (fun h5=>?_) fun h5=>?_
  ·
   refine bI fun j9_2 h13=>rnI [Bt,.stop 4] ?_
   intro h
   refine X5.join (s':=⟨fr [(2,(aB j9_2))],hp ([]),0⟩) ?_ (fun J=>X5.cut ?_)
   ·
    revert h
    exact fun e=>oj e▸Xb [] (k:=fi)
   clear h;revert h13
   refine bI fun v10 h11=>brI (fun h12=>?_) fun h12=>?_
   ·
    intro h
    obtain rfl:=oj h
    exact Xb [.pure _ (aB v10),.go true,.go true,.go true,.go true,.go true,.go true,.go true] (k:=wkT [] (X5.glue J))
   intro h
   obtain rfl:=oj h
   exact Xb [.pure _ (aB v10),.go false,.go false,.go false,.go false,.go false,.go false,.go false] (k:=wkT [] (X5.glue J))
  refine brI (fun h14=>?_) fun h14=>?_
  ·
   refine bI fun X01m h22=>rnI [Bf,Bt,.stop 6] ?_
   intro h
   refine X5.join (s':=⟨fr [(2,(aB X01m))],hp ([]),0⟩) ?_ (fun J=>X5.cut ?_)
   ·
    revert h
    exact fun e=>oj e▸Xb [] (k:=fi)
   clear h;revert h22
   refine bI fun v19 h20=>brI (fun h21=>?_) fun h21=>?_
   ·
    intro h
    obtain rfl:=oj h
    exact Xb [.pure _ (aB v19),.go true,.go true,.go true,.go true,.go true,.go true,.go true] (k:=wkT [] (X5.glue J))
   intro h
   obtain rfl:=oj h
   exact Xb [.pure _ (aB v19),.go false,.go false,.go false,.go false,.go false,.go false,.go false] (k:=wkT [] (X5.glue J))
  refine brI (fun h23=>?_) fun h23=>fun e=>oj e▸Xb [Bf,Bf,Bf] (k:=fi)
  refine bI fun X01k h31=>rnI [Bf,Bf,Bt,.stop 8] ?_
  intro h
  refine X5.join (s':=⟨fr [(2,(aB X01k))],hp ([]),0⟩) ?_ (fun J=>X5.cut ?_)
  ·
   revert h
   exact fun e=>oj e▸Xb [] (k:=fi)
  clear h;revert h31
  refine bI fun v28 h29=>brI (fun h30=>?_) fun h30=>?_
  ·
   intro h
   obtain rfl:=oj h
   exact Xb [.pure _ (aB v28),.go true,.go true,.go true,.go true,.go true,.go true,.go true] (k:=wkT [] (X5.glue J))
  intro h
  obtain rfl:=oj h
  exact Xb [.pure _ (aB v28),.go false,.go false,.go false,.go false,.go false,.go false,.go false] (k:=wkT [] (X5.glue J))
 clear h;revert h4
 refine brI (fun h3=>?_) fun h3=>?_
 ·
  intro h
  obtain rfl:=oj h
  exact Xb [Bt] (k:=wkT [] (X5.glue J))
 intro h
 obtain rfl:=oj h
 exact Xb [Bf] (k:=wkT [] (X5.glue J))⟩
end Go.Av.Tryz