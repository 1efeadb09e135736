/- Walks of the library's own text at elements of more cells than one: what they lean on; calls by a contract over the heap. -/
import Derived.Test.YtnfamdbgcgjlaaaGreatDoorAvc
import Derived.Shelf.RegionOpenPlain
import Derived.WalkKit
import Derived.Lib.Walk
import Derived.Lib.AppendZerosOnto
import Derived.Lib.Overlaps
import Derived.Laws.IdiomCopy
import Derived.Laws.NewBlocks
set_option linter.all false

namespace Go.Av
variable [Gls]
open Go.RowKit Go.Lib
section
variable {P:Program}
end
theorem X4.hcall {P:Program} {nt n0 f:Nat} {Q:Xi->St->Mu->Prop} {ops:Array Oper} {l:List Oper} {o:Oper} {K:List Kn} {L:List (Nat×AV)} {G:List (Nat×Obj)} {n:Nat} {μ:Mu} {x:Operand} {args:Array Operand} {ts:Array Nat}
  {caps avs:List AV} {r:AV} {G':List (Nat×Obj)} {n':Nat} (ho:o.op=.call { callee:=.value x,args:=args,argTypes:=ts }) (hg:o.guard=none) (hd:X94 nt o.dst=true) {qx qa:List Prop} (hx:rd L x=(.fn f caps,qx)) (ha:rds L args.toList=(avs,qa)) (hpx:X3u qx) (hpa:X3u qa)
  (hc:HC P f (avs++caps) (hp G) n (λr2 H2 n2=>r2=r/\H2=hp G'/\n2=n'))
  (h:X4 P nt n0 Q (.ops ops l) K ⟨fr (Xuv o.dst r L),hp G',n'⟩ μ):X4 P nt n0 Q (.ops ops (o::l)) K ⟨fr L,hp G,n⟩ μ:=by
 refine X22.plain (s:=⟨fr L,hp G,n⟩) hg (X31 hd) (OpR.call (s:=⟨fr L,hp G,n⟩) ho (X0k hx hpx) ?_) (R:=λr2 H2 n2=>r2=r/\H2=hp G'/\n2=n') ?_
 ·rw[Xbn ha hpa];exact hc
 ·rintro _ _ _ ⟨rfl,rfl,rfl⟩;rw[X58] at h;exact h
end Go.Av
namespace Go.Av
end Go.Av
