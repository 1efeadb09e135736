/- Printed by decomp.py: that the program computes the functions. -/
import Derived.Test.YtmkegegjcihooaaGreatDCert0Z
set_option linter.all false

namespace Go.Av.Tryz
open Go.Proofs Go.D
set_option maxRecDepth 100000
set_option maxHeartbeats 40000000
theorem X7p {P:Prop} (h:P:=by repeat' first|apply Ya|exact pcM|(refine X1n kLate rfl ?_;simp;done)|(refine X0h kLate (by decide) ?_;simp;done)|(refine X1n kRows rfl ?_;simp;done)|(refine X0h kRows (by decide) ?_;simp;done)|(refine X1n kEvents rfl ?_;simp;done)|(refine X0h kEvents (by decide) ?_;simp;done)|(refine X1n kStore rfl ?_;simp;done)|(refine X0h kStore (by decide) ?_;simp;done)|(refine X1n kMarks rfl ?_;simp;done)|(refine X0h kMarks (by decide) ?_;simp;done)|(refine X1n kPending rfl ?_;simp;done)|(refine X0h kPending (by decide) ?_;simp;done)|exact X04):P:=h
theorem brZ {β α:Type} {l:List β} {a b:Option α} {r:α} {G:Prop} (h1:l=[]->a=some r->G) (h2:¬ l=[]->b=some r->G):(bif l.isEmpty then a else b)=some r->G:=brI (λq=>h1 (List.isEmpty_iff.1 q)) λq=>h2 (λe=>by rw[e] at q;cases q)
abbrev hNe:X21:=.ne false
abbrev X3a (a0:Xv):X21:=.via (Lt (a0.Late.map X1b))
abbrev X39 (a0:Xv):X21:=.via (Lt (a0.Rows.map X3z))
abbrev X0t (a0:Xv):X21:=.via (Lt (a0.Events.map X0u))
abbrev X1v (a0:Xv):X21:=.via (Lt (a0.Store.map X1))
abbrev X1w (a0:Xv):X21:=.via (Lt (List.map (aI .i64) a0.Marks))
abbrev X0j (a0:Xv):X21:=.via (Lt (a0.Pending.map X0i))
instance X02x:PCs Tryz.prog 38 (∀ (a0:Xv) (r:Xv),Xdl a0=some r->X05 Tryz.prog 38 [(Xa false a0)] (Xa true r)):=⟨λa0 r h=>by
 refine X05.sym X9 fn38 (nt:=34) rfl rfl ?_ okM;unfold Xdl at h;revert h;refine brZ (λhq=>?_) λhq=>?_
 ·
  refine brZ (λhq=>?_) λhq=>?_
  ·
   refine brZ (λhq=>?_) λhq=>?_
   ·
    refine brZ (λhq=>?_) λhq=>?_
    ·
     refine brZ (λhq=>?_) λhq=>?_
     ·
      refine brZ (λhq=>?_) λhq=>?_
      ·
       exact λe=>oj e▸X3 [hNe,hNe,hNe,hNe,hNe,hNe] (k:=fi)
      exact bI λu7 kLate=>λe=>oj e▸X3 [hNe,hNe,hNe,hNe,hNe,X3a a0] (o:=X7p) (k:=fi)
     refine bI λu9 kRows=>brZ (λhq=>?_) λhq=>?_
     ·
      exact λe=>oj e▸X3 [hNe,hNe,hNe,hNe,X39 a0,hNe] (o:=X7p) (k:=fi)
     exact bI λu12 kLate=>λe=>oj e▸X3 [hNe,hNe,hNe,hNe,X39 a0,X3a a0] (o:=X7p) (k:=fi)
    refine bI λu14 kEvents=>brZ (λhq=>?_) λhq=>?_
    ·
     refine brZ (λhq=>?_) λhq=>?_
     ·
      exact λe=>oj e▸X3 [hNe,hNe,hNe,X0t a0,hNe,hNe] (o:=X7p) (k:=fi)
     exact bI λu18 kLate=>λe=>oj e▸X3 [hNe,hNe,hNe,X0t a0,hNe,X3a a0] (o:=X7p) (k:=fi)
    refine bI λu20 kRows=>brZ (λhq=>?_) λhq=>?_
    ·
     exact λe=>oj e▸X3 [hNe,hNe,hNe,X0t a0,X39 a0,hNe] (o:=X7p) (k:=fi)
    exact bI λu23 kLate=>λe=>oj e▸X3 [hNe,hNe,hNe,X0t a0,X39 a0,X3a a0] (o:=X7p) (k:=fi)
   refine bI λu25 kStore=>brZ (λhq=>?_) λhq=>?_
   ·
    refine brZ (λhq=>?_) λhq=>?_
    ·
     refine brZ (λhq=>?_) λhq=>?_
     ·
      exact λe=>oj e▸X3 [hNe,hNe,X1v a0,hNe,hNe,hNe] (o:=X7p) (k:=fi)
     exact bI λu30 kLate=>λe=>oj e▸X3 [hNe,hNe,X1v a0,hNe,hNe,X3a a0] (o:=X7p) (k:=fi)
    refine bI λu32 kRows=>brZ (λhq=>?_) λhq=>?_
    ·
     exact λe=>oj e▸X3 [hNe,hNe,X1v a0,hNe,X39 a0,hNe] (o:=X7p) (k:=fi)
    exact bI λu35 kLate=>λe=>oj e▸X3 [hNe,hNe,X1v a0,hNe,X39 a0,X3a a0] (o:=X7p) (k:=fi)
   refine bI λu37 kEvents=>brZ (λhq=>?_) λhq=>?_
   ·
    refine brZ (λhq=>?_) λhq=>?_
    ·
     exact λe=>oj e▸X3 [hNe,hNe,X1v a0,X0t a0,hNe,hNe] (o:=X7p) (k:=fi)
    exact bI λu41 kLate=>λe=>oj e▸X3 [hNe,hNe,X1v a0,X0t a0,hNe,X3a a0] (o:=X7p) (k:=fi)
   refine bI λu43 kRows=>brZ (λhq=>?_) λhq=>?_
   ·
    exact λe=>oj e▸X3 [hNe,hNe,X1v a0,X0t a0,X39 a0,hNe] (o:=X7p) (k:=fi)
   exact bI λu46 kLate=>λe=>oj e▸X3 [hNe,hNe,X1v a0,X0t a0,X39 a0,X3a a0] (o:=X7p) (k:=fi)
  refine bI λu48 kMarks=>brZ (λhq=>?_) λhq=>?_
  ·
   refine brZ (λhq=>?_) λhq=>?_
   ·
    refine brZ (λhq=>?_) λhq=>?_
    ·
     refine brZ (λhq=>?_) λhq=>?_
     ·
      exact λe=>oj e▸X3 [hNe,X1w a0,hNe,hNe,hNe,hNe] (o:=X7p) (k:=fi)
     exact bI λu54 kLate=>λe=>oj e▸X3 [hNe,X1w a0,hNe,hNe,hNe,X3a a0] (o:=X7p) (k:=fi)
    refine bI λu56 kRows=>brZ (λhq=>?_) λhq=>?_
    ·
     exact λe=>oj e▸X3 [hNe,X1w a0,hNe,hNe,X39 a0,hNe] (o:=X7p) (k:=fi)
    exact bI λu59 kLate=>λe=>oj e▸X3 [hNe,X1w a0,hNe,hNe,X39 a0,X3a a0] (o:=X7p) (k:=fi)
   refine bI λu61 kEvents=>brZ (λhq=>?_) λhq=>?_
   ·
    refine brZ (λhq=>?_) λhq=>?_
    ·
     exact λe=>oj e▸X3 [hNe,X1w a0,hNe,X0t a0,hNe,hNe] (o:=X7p) (k:=fi)
    exact bI λu65 kLate=>λe=>oj e▸X3 [hNe,X1w a0,hNe,X0t a0,hNe,X3a a0] (o:=X7p) (k:=fi)
   refine bI λu67 kRows=>brZ (λhq=>?_) λhq=>?_
   ·
    exact λe=>oj e▸X3 [hNe,X1w a0,hNe,X0t a0,X39 a0,hNe] (o:=X7p) (k:=fi)
   exact bI λu70 kLate=>λe=>oj e▸X3 [hNe,X1w a0,hNe,X0t a0,X39 a0,X3a a0] (o:=X7p) (k:=fi)
  refine bI λu72 kStore=>brZ (λhq=>?_) λhq=>?_
  ·
   refine brZ (λhq=>?_) λhq=>?_
   ·
    refine brZ (λhq=>?_) λhq=>?_
    ·
     exact λe=>oj e▸X3 [hNe,X1w a0,X1v a0,hNe,hNe,hNe] (o:=X7p) (k:=fi)
    exact bI λu77 kLate=>λe=>oj e▸X3 [hNe,X1w a0,X1v a0,hNe,hNe,X3a a0] (o:=X7p) (k:=fi)
   refine bI λu79 kRows=>brZ (λhq=>?_) λhq=>?_
   ·
    exact λe=>oj e▸X3 [hNe,X1w a0,X1v a0,hNe,X39 a0,hNe] (o:=X7p) (k:=fi)
   exact bI λu82 kLate=>λe=>oj e▸X3 [hNe,X1w a0,X1v a0,hNe,X39 a0,X3a a0] (o:=X7p) (k:=fi)
  refine bI λu84 kEvents=>brZ (λhq=>?_) λhq=>?_
  ·
   refine brZ (λhq=>?_) λhq=>?_
   ·
    exact λe=>oj e▸X3 [hNe,X1w a0,X1v a0,X0t a0,hNe,hNe] (o:=X7p) (k:=fi)
   exact bI λu88 kLate=>λe=>oj e▸X3 [hNe,X1w a0,X1v a0,X0t a0,hNe,X3a a0] (o:=X7p) (k:=fi)
  refine bI λu90 kRows=>brZ (λhq=>?_) λhq=>?_
  ·
   exact λe=>oj e▸X3 [hNe,X1w a0,X1v a0,X0t a0,X39 a0,hNe] (o:=X7p) (k:=fi)
  exact bI λu93 kLate=>λe=>oj e▸X3 [hNe,X1w a0,X1v a0,X0t a0,X39 a0,X3a a0] (o:=X7p) (k:=fi)
 refine bI λu95 kPending=>brZ (λhq=>?_) λhq=>?_
 ·
  refine brZ (λhq=>?_) λhq=>?_
  ·
   refine brZ (λhq=>?_) λhq=>?_
   ·
    refine brZ (λhq=>?_) λhq=>?_
    ·
     refine brZ (λhq=>?_) λhq=>?_
     ·
      exact λe=>oj e▸X3 [X0j a0,hNe,hNe,hNe,hNe,hNe] (o:=X7p) (k:=fi)
     exact bI λu102 kLate=>λe=>oj e▸X3 [X0j a0,hNe,hNe,hNe,hNe,X3a a0] (o:=X7p) (k:=fi)
    refine bI λu104 kRows=>brZ (λhq=>?_) λhq=>?_
    ·
     exact λe=>oj e▸X3 [X0j a0,hNe,hNe,hNe,X39 a0,hNe] (o:=X7p) (k:=fi)
    exact bI λu107 kLate=>λe=>oj e▸X3 [X0j a0,hNe,hNe,hNe,X39 a0,X3a a0] (o:=X7p) (k:=fi)
   refine bI λu109 kEvents=>brZ (λhq=>?_) λhq=>?_
   ·
    refine brZ (λhq=>?_) λhq=>?_
    ·
     exact λe=>oj e▸X3 [X0j a0,hNe,hNe,X0t a0,hNe,hNe] (o:=X7p) (k:=fi)
    exact bI λu113 kLate=>λe=>oj e▸X3 [X0j a0,hNe,hNe,X0t a0,hNe,X3a a0] (o:=X7p) (k:=fi)
   refine bI λu115 kRows=>brZ (λhq=>?_) λhq=>?_
   ·
    exact λe=>oj e▸X3 [X0j a0,hNe,hNe,X0t a0,X39 a0,hNe] (o:=X7p) (k:=fi)
   exact bI λu118 kLate=>λe=>oj e▸X3 [X0j a0,hNe,hNe,X0t a0,X39 a0,X3a a0] (o:=X7p) (k:=fi)
  refine bI λu120 kStore=>brZ (λhq=>?_) λhq=>?_
  ·
   refine brZ (λhq=>?_) λhq=>?_
   ·
    refine brZ (λhq=>?_) λhq=>?_
    ·
     exact λe=>oj e▸X3 [X0j a0,hNe,X1v a0,hNe,hNe,hNe] (o:=X7p) (k:=fi)
    exact bI λu125 kLate=>λe=>oj e▸X3 [X0j a0,hNe,X1v a0,hNe,hNe,X3a a0] (o:=X7p) (k:=fi)
   refine bI λu127 kRows=>brZ (λhq=>?_) λhq=>?_
   ·
    exact λe=>oj e▸X3 [X0j a0,hNe,X1v a0,hNe,X39 a0,hNe] (o:=X7p) (k:=fi)
   exact bI λu130 kLate=>λe=>oj e▸X3 [X0j a0,hNe,X1v a0,hNe,X39 a0,X3a a0] (o:=X7p) (k:=fi)
  refine bI λu132 kEvents=>brZ (λhq=>?_) λhq=>?_
  ·
   refine brZ (λhq=>?_) λhq=>?_
   ·
    exact λe=>oj e▸X3 [X0j a0,hNe,X1v a0,X0t a0,hNe,hNe] (o:=X7p) (k:=fi)
   exact bI λu136 kLate=>λe=>oj e▸X3 [X0j a0,hNe,X1v a0,X0t a0,hNe,X3a a0] (o:=X7p) (k:=fi)
  refine bI λu138 kRows=>brZ (λhq=>?_) λhq=>?_
  ·
   exact λe=>oj e▸X3 [X0j a0,hNe,X1v a0,X0t a0,X39 a0,hNe] (o:=X7p) (k:=fi)
  exact bI λu141 kLate=>λe=>oj e▸X3 [X0j a0,hNe,X1v a0,X0t a0,X39 a0,X3a a0] (o:=X7p) (k:=fi)
 refine bI λu143 kMarks=>brZ (λhq=>?_) λhq=>?_
 ·
  refine brZ (λhq=>?_) λhq=>?_
  ·
   refine brZ (λhq=>?_) λhq=>?_
   ·
    refine brZ (λhq=>?_) λhq=>?_
    ·
     exact λe=>oj e▸X3 [X0j a0,X1w a0,hNe,hNe,hNe,hNe] (o:=X7p) (k:=fi)
    exact bI λu149 kLate=>λe=>oj e▸X3 [X0j a0,X1w a0,hNe,hNe,hNe,X3a a0] (o:=X7p) (k:=fi)
   refine bI λu151 kRows=>brZ (λhq=>?_) λhq=>?_
   ·
    exact λe=>oj e▸X3 [X0j a0,X1w a0,hNe,hNe,X39 a0,hNe] (o:=X7p) (k:=fi)
   exact bI λu154 kLate=>λe=>oj e▸X3 [X0j a0,X1w a0,hNe,hNe,X39 a0,X3a a0] (o:=X7p) (k:=fi)
  refine bI λu156 kEvents=>brZ (λhq=>?_) λhq=>?_
  ·
   refine brZ (λhq=>?_) λhq=>?_
   ·
    exact λe=>oj e▸X3 [X0j a0,X1w a0,hNe,X0t a0,hNe,hNe] (o:=X7p) (k:=fi)
   exact bI λu160 kLate=>λe=>oj e▸X3 [X0j a0,X1w a0,hNe,X0t a0,hNe,X3a a0] (o:=X7p) (k:=fi)
  refine bI λu162 kRows=>brZ (λhq=>?_) λhq=>?_
  ·
   exact λe=>oj e▸X3 [X0j a0,X1w a0,hNe,X0t a0,X39 a0,hNe] (o:=X7p) (k:=fi)
  exact bI λu165 kLate=>λe=>oj e▸X3 [X0j a0,X1w a0,hNe,X0t a0,X39 a0,X3a a0] (o:=X7p) (k:=fi)
 refine bI λu167 kStore=>brZ (λhq=>?_) λhq=>?_
 ·
  refine brZ (λhq=>?_) λhq=>?_
  ·
   refine brZ (λhq=>?_) λhq=>?_
   ·
    exact λe=>oj e▸X3 [X0j a0,X1w a0,X1v a0,hNe,hNe,hNe] (o:=X7p) (k:=fi)
   exact bI λu172 kLate=>λe=>oj e▸X3 [X0j a0,X1w a0,X1v a0,hNe,hNe,X3a a0] (o:=X7p) (k:=fi)
  refine bI λu174 kRows=>brZ (λhq=>?_) λhq=>?_
  ·
   exact λe=>oj e▸X3 [X0j a0,X1w a0,X1v a0,hNe,X39 a0,hNe] (o:=X7p) (k:=fi)
  exact bI λu177 kLate=>λe=>oj e▸X3 [X0j a0,X1w a0,X1v a0,hNe,X39 a0,X3a a0] (o:=X7p) (k:=fi)
 refine bI λu179 kEvents=>brZ (λhq=>?_) λhq=>?_
 ·
  refine brZ (λhq=>?_) λhq=>?_
  ·
   exact λe=>oj e▸X3 [X0j a0,X1w a0,X1v a0,X0t a0,hNe,hNe] (o:=X7p) (k:=fi)
  exact bI λu183 kLate=>λe=>oj e▸X3 [X0j a0,X1w a0,X1v a0,X0t a0,hNe,X3a a0] (o:=X7p) (k:=fi)
 refine bI λu185 kRows=>brZ (λhq=>?_) λhq=>?_
 ·
  exact λe=>oj e▸X3 [X0j a0,X1w a0,X1v a0,X0t a0,X39 a0,hNe] (o:=X7p) (k:=fi)
 exact bI λu188 kLate=>λe=>oj e▸X3 [X0j a0,X1w a0,X1v a0,X0t a0,X39 a0,X3a a0] (o:=X7p) (k:=fi)⟩
end Go.Av.Tryz