/- Printed by decomp.py: the types of the Go program, as data; their encodings. -/
import Derived.Test.YtnkfdamiiejfdaaGreatDoorDTypesZ
set_option linter.all false

namespace Go.D
structure GOp where
  Kind:Int
  N:Int
  deriving DecidableEq,Inhabited
structure Xa9 where
  From:Int
  Out:Int
  To:Int
  In:Int
  Room:Int
  deriving DecidableEq,Inhabited
structure Xc7 where
  Ops:(List GOp)
  Channels:(List Xa9)
  deriving DecidableEq,Inhabited
end Go.D
namespace Go.Av
open Go.D
def X00i (x:GOp):AV:=.agg [(aI .u8 x.Kind),(aI .i64 x.N)]
theorem X04k (x:GOp):X9o (X00i x):=(X1t (X1t Xfx))
def X53 (x:Xa9):AV:=.agg [(aI .i64 x.From),(aI .i64 x.Out),(aI .i64 x.To),(aI .i64 x.In),(aI .i64 x.Room)]
theorem Xnn (x:Xa9):X9o (X53 x):=(X1t (X1t (X1t (X1t (X1t Xfx)))))
def X1d (o:Bool) (x:Xc7):AV:=.agg [(AV.list o (List.map X00i x.Ops)),(AV.list o (List.map X53 x.Channels))]
theorem Xoc (o:Bool) (x:Xc7):X69 (X1d o x):=λ_=>rfl
theorem Xsb (o:Bool) (x:Xc7):Xal (X1d o x):=Xnm (λ_=>(X13 .list (X13 .list X70)))
theorem Xwt {H:Xw} {o:Bool} {x:Xc7}:Cv false H (X1d o x) (X1d false x):=Xkf (Cvs.cons (X4o (X1s X04k _)) (Cvs.cons (X4o (X1s Xnn _)) Cvs.nil))
theorem Xwr {H:Xw} {o:Bool} {x:Xc7}:Cv true H (X1d o x) (X1d o x):=Xkf (Cvs.cons (.listS rfl) (Cvs.cons (.listS rfl) Cvs.nil))
instance X0cl:X05a X1d:=⟨Xwt,Xwr,λ_ _ _=>rfl,Xsb,Xoc⟩
end Go.Av
namespace Go.D
open Go.Av
end Go.D
