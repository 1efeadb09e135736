/- Walks of the library's own text at elements of more cells than one: what they lean on; calls by a contract over the heap. -/
import Derived.Test.YtmkegegjcihooaaGreatAvc
import Derived.Shelf.RegionOpenPlain
import Derived.WalkKit
import Derived.Lib.Walk
import Derived.Lib.Overlaps
import Derived.Laws.Externs
import Derived.Laws.IdiomCopy
import Derived.Laws.NewBlocks
set_option linter.all false

namespace Go.Av
variable [Gls]
open Go.RowKit Go.Lib
section
variable {P:Program}
end
theorem X0.hcall {P:Program} {nt n0 f:Nat} {Q:Xp->St->Mu->Prop} {ops:Array Oper} {l:List Oper} {o:Oper} {K:List Kn} {L:List (Nat×AV)} {G:List (Nat×Obj)} {n:Nat} {μ:Mu} {x:Operand} {args:Array Operand} {ts:Array Nat}
  {caps avs:List AV} {r:AV} {G':List (Nat×Obj)} {n':Nat} (ho:o.op=.call { callee:=.value x,args:=args,argTypes:=ts }) (hg:o.guard=none) (hd:Xjm nt o.dst=true) {qx qa:List Prop} (hx:rd L x=(.fn f caps,qx)) (ha:rds L args.toList=(avs,qa)) (hpx:X4v qx) (hpa:X4v qa)
  (hc:HC P f (avs++caps) (hp G) n (λr2 H2 n2=>r2=r/\H2=hp G'/\n2=n'))
  (h:X0 P nt n0 Q (.ops ops l) K ⟨fr (Xwi o.dst r L),hp G',n'⟩ μ):X0 P nt n0 Q (.ops ops (o::l)) K ⟨fr L,hp G,n⟩ μ:=by
 refine X7r.plain (s:=⟨fr L,hp G,n⟩) hg (X7i hd) (OpR.call (s:=⟨fr L,hp G,n⟩) ho (X0n hx hpx) ?_) (R:=λr2 H2 n2=>r2=r/\H2=hp G'/\n2=n') ?_
 ·rw[Xgl ha hpa];exact hc
 ·rintro _ _ _ ⟨rfl,rfl,rfl⟩;rw[X5u] at h;exact h
end Go.Av
namespace Go.Av
variable [Gls]
end Go.Av
