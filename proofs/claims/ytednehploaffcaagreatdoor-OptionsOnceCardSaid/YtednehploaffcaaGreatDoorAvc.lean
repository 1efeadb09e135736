/- Parts of the proof, laid together. -/
import Derived.Test.YtednehploaffcaaGreatDoorAvb
import Derived.MapKept
import Derived.RangeFuncIn
import Derived.KernelRfl
import Derived.Laws.Strings
import Derived.Lib.ConvBytes
import Derived.Lib.Bytealg
import Derived.Laws.Externs
set_option linter.all false
set_option maxHeartbeats 4000000
noncomputable section

namespace Go.D
def wfI (k:IntKind) (z:Int):Prop:=(Lit.int k z).wf=true
def getI {α:Type} (l:List α) (i:Int):Option α:=if 0<=i then l[i.toNat]? else none
def Xan {α:Type} (l:List α) (a b:Int):Option (List α):=if 0<=a/\a<=b/\b.toNat<=l.length then some ((l.drop a.toNat).take (b.toNat - a.toNat)) else none
def X1o (n b:Nat):Option Unit:=if n*b<=140737488355328 then some () else none
def X4s (n:Nat):Option Unit:=if n<=140737488355328 then some () else none
def shOk (b:Int):Option Unit:=if 0<=b then some () else none
def mkOk (n m:Int) (b:Nat):Option Unit:=if 0<n/\n=m/\(b:Int)*m<=140737488355328 then some () else none
def X0gc (l:List Nat):ByteArray:=⟨(l.map UInt8.ofNat).toArray⟩
def FU:Nat:=100000
structure V2 (α:Type) where
 e0:α
 e1:α
 deriving DecidableEq,Inhabited
structure V5 (α:Type) where
 e0:α
 e1:α
 e2:α
 e3:α
 e4:α
 deriving DecidableEq,Inhabited
end Go.D
namespace Go.Av
variable [Gls]
open Go.D
abbrev aI (k:IntKind) (z:Int):AV:=.sc (.int k z)
abbrev aB (b:Bool):AV:=.sc (.bool b)
theorem brE {α:Type} {c:Bool} {a b:Option α} {r:α} {G:Prop} (h:(bif c then a else b)=some r) (h1:c=true->a=some r->G) (h2:c=false->b=some r->G):G:=by
 grind
theorem X08k {α β:Type} {x:Option α} {f:α->Option β} {r:β} {G:Prop} (h:x.bind f=some r) (k:∀ v,x=some v->f v=some r->G):G:=by
 cases x with
 |none=>cases h
 |some v=>grind
theorem X96 {α:Type} {l:List α} {i:Int} {x:α} (h:getI l i=some x):0<=i:=by
 grind [getI]
theorem Xjh {α:Type} {l:List α} {i:Int} {x:α} (h:getI l i=some x):l[i.toNat]?=some x:=by
 grind [getI]
theorem Xot {α:Type} {l:List α} {i:Int} {x:α} {f:α->AV} (h:getI l i=some x):(l.map f)[i.toNat]?=some (f x):=by
 rw[List.getElem?_map,Xjh h];rfl
theorem Xqe {α:Type} {l:List α} {i:Int} {x:α} {f:α->AV} (h:getI l i=some x):(l.map f)[0+i.toNat]?=some (f x):=by
 rw[Nat.zero_add];exact Xot h
theorem Xo {α:Type} {l:List α} {i:Int} {x:α} (h:getI l i=some x):i<(l.length:Int):=by
 have h1:=X96 h;have h2:=(List.getElem?_eq_some_iff.1 (Xjh h)).1;omega
theorem X80 {α:Type} {l:List α} {i:Int} {x:α} (h:getI l i=some x):i.toNat<l.length:=(List.getElem?_eq_some_iff.1 (Xjh h)).1
theorem drop_cons {α:Type} {l xs:List α} {k:Nat} {x:α} (h:l.drop k=x::xs):k<l.length/\l[k]?=some x/\l.drop (k+1)=xs:=by
 grind [Nat.lt_or_ge,List.drop_of_length_le,List.drop_eq_getElem_cons,List.getElem?_eq_getElem]
theorem drop_nil {α:Type} {l:List α} {k:Nat} (h:l.drop k=[]):l.length<=k:=by
 simpa using h
theorem ixm {α:Type} {l:List α} {k:Nat} {x:α} {f:α->AV} (h:l[k]?=some x):(l.map f)[((k:Nat):Int).toNat]?=some (f x):=X0bb h
theorem Xtt {n b:Nat} {u:Unit} (h:X1o n b=some u):n*b<=140737488355328:=by
 grind [X1o]
theorem X1b {n:Nat} {u:Unit} (h:X4s n=some u):n<=140737488355328:=by
 grind [X4s]
theorem X05f {b:Int} {u:Unit} (h:shOk b=some u):0<=b:=by
 grind [shOk]
theorem Xxd {n m:Int} {b:Nat} {u:Unit} (h:mkOk n m b=some u):0<n/\n=m/\(b:Int)*m<=140737488355328:=by
 grind [mkOk]
theorem X42 {α:Type} {l m:List α} {a b:Int} (h:Xan l a b=some m):0<=a/\a<=b/\b.toNat<=l.length/\m=(l.drop a.toNat).take (b.toNat - a.toNat):=by
 unfold Xan at h;grind
theorem X7l {α:Type} {l m:List α} {a b:Int} (h:Xan l a b=some m):b.toNat - a.toNat=m.length:=by
 obtain⟨h1,h2,h3,rfl⟩:=X42 h;simp;omega
theorem Xdx {α:Type} {m:List α} {a b:Int} (h:Xan ([]:List α) a b=some m):m=[]:=by
 obtain⟨h1,h2,h3,rfl⟩:=X42 h;simp
theorem Xga {α:Type} {m:List α} (h:List.isEmpty m=true):m.length=0:=by
 grind
theorem X3z {α:Type} {m:List α} (h:List.isEmpty m=false):0<m.length:=by
 grind
theorem Xhc {α:Type} {l m:List α} {off n:Nat} {i:Int} {x:α} {f:α->AV} (q:m=(l.drop off).take n) (h:getI m i=some x):(l.map f)[off+i.toNat]?=some (f x):=by
 have h1:=Xjh h
 grind
theorem X2q {α:Type} {l m:List α} {n:Nat} {f:α->AV} (q:m=(l.drop 0).take n):∃ k,m.map f=(l.map f).take k:=⟨n,by simp_all⟩
def opG (id esz:Nat) (es:List AV):List (Nat×Obj) :=
 match es with
 |[]=>[]
 |e::r=>[(id,{ es:=e::r,esz:=esz })]
theorem X039 {α:Type} {f:α->AV} {n:Nat} (h:∀ x,(f x).cells.length=n) (l:List α):∀ e∈l.map f,e.cells.length=n:=by
 grind
theorem Xr {α:Type} {f:α->AV} (h:∀ x,Xal (f x)) (l:List α):∀ e∈l.map f,Xal e:=by
 grind
theorem Xn {α:Type} {f:α->AV} (h:∀ x,X4c (f x)) (l:List α):∀ e∈l.map f,X4c e:=by
 grind
def Xak (e:AV):Prop:=∀ M:Nat->Prop,e.Ok M/\∀ a∈e.cells,a.Ok M
theorem X18 {α:Type} {f:α->AV} (h:∀ x,Xak (f x)) (l:List α) (M:Nat->Prop):∀ e∈l.map f,∀ a∈e.cells,a.Ok M:=by
 intro e he;obtain⟨x,_,rfl⟩:=List.mem_map.1 he;exact(h x M).2
theorem X73 {e:AV} (h:Xal e) (hw:e.whole=true):Xak e:=λM=>by
 have h2:∀ a∈e.cells,a.Ok M:=λa ha=>by obtain⟨v,rfl⟩:=h a ha;exact .sc
 refine⟨?_,h2⟩
 cases e with
 |agg cs=>exact .agg h2
 |_=>first|exact h2 _ (List.mem_singleton.2 rfl)
theorem Xb4 {α:Type} {f g:α->AV} {H:Xz} {own:Bool} (hc:∀ x,(f x).cells.length=(g x).cells.length) (h:∀ x (k:Nat) a b,(f x).cells[k]?=some a->(g x).cells[k]?=some b->Cv false H a b) (l:List α) :
  Cv false H (.list own (l.map f)) (.list false (l.map g)):=by
 refine .listD rfl (by simp) (λi e e' he he'=>?_) (λi e e' k a b he he' ha hb=>?_)
 ·simp only[List.getElem?_map,Option.map_eq_some_iff] at he he';obtain⟨x,hx,rfl⟩:=he;obtain⟨y,hy,rfl⟩:=he';rw[hx] at hy;cases hy;exact hc x
 ·simp only[List.getElem?_map,Option.map_eq_some_iff] at he he';obtain⟨x,hx,rfl⟩:=he;obtain⟨y,hy,rfl⟩:=he';rw[hx] at hy;cases hy;exact h x k a b ha hb
theorem ref1 {i n m:Nat} (h:n=m):[AV.ref i 0 n]=[AV.ref i 0 m]:=h▸rfl
def Nb {α:Type} (l:List α):Type:={ b:Bool // b=true->l=[] }
def nbF {α:Type} {l:List α}:Nb l:=⟨false,λh=>by cases h⟩
def nbT {α:Type} {l:List α} (h:l=[]):Nb l:=⟨true,λ_=>h⟩
def slE (nb:Bool) (id:Nat) (es:List AV):AV:=bif nb then .nils else .ref id 0 es.length
def opE (nb:Bool) (id esz:Nat) (es:List AV):List (Nat×Obj):=bif nb then [] else [(id,{ es:=es,esz:=esz })]
theorem X9.joinF {P:Program} {nt n0:Nat} {Q:Xp->St->Mu->Prop} {cf:Cf} {K:List Kn} {μ:Mu} {s:St} {ι:Type} (s':ι->St) (h1:∀ i,X9 P nt n0 Q (.exit .normal) K (s' i) μ)
  (h2:(∀ i,X9 P nt n0 Q (.exit .normal) K (s' i) μ)->X9 P nt n0 Q cf K s μ):X9 P nt n0 Q cf K s μ:=h2 h1
theorem X9.joinOpF {P:Program} {nt n0:Nat} {Q:Xp->St->Mu->Prop} {ops:Array Oper} {o:Oper} {l:List Oper} {K:List Kn} {μ:Mu} {s:St} {ι:Type} (s':ι->St) (h1:∀ i,X9 P nt n0 Q (.ops ops l) K (s' i) μ)
  (h2:(∀ i,X9 P nt n0 Q (.ops ops l) K (s' i) μ)->X9 P nt n0 Q (.ops ops (o::l)) K s μ):X9 P nt n0 Q (.ops ops (o::l)) K s μ:=h2 h1
theorem X9.join {P:Program} {nt n0:Nat} {Q:Xp->St->Mu->Prop} {cf:Cf} {K:List Kn} {μ:Mu} {s s':St} (h1:X9 P nt n0 Q (.exit .normal) K s' μ)
  (h2:X9 P nt n0 Q (.exit .normal) K s' μ->X9 P nt n0 Q cf K s μ):X9 P nt n0 Q cf K s μ:=h2 h1
theorem X9.joinOp {P:Program} {nt n0:Nat} {Q:Xp->St->Mu->Prop} {ops:Array Oper} {o:Oper} {l:List Oper} {K:List Kn} {μ:Mu} {s s':St} (h1:X9 P nt n0 Q (.ops ops l) K s' μ)
  (h2:X9 P nt n0 Q (.ops ops l) K s' μ->X9 P nt n0 Q (.ops ops (o::l)) K s μ):X9 P nt n0 Q (.ops ops (o::l)) K s μ:=h2 h1
theorem X1l {v:Value} {P:List AV} (h:∀ a∈P,∃ v,a=.sc v):∀ a∈(.sc v::P),∃ v,a=.sc v:=λa ha=>by
 grind
theorem Xgo:∀ a∈([]:List AV),∃ v,a=.sc v:=λ_ h=>by cases h
theorem Xy5 {v:Value}:Xak (.sc v):=λ_=>⟨.sc,λa ha=>by rw[List.mem_singleton.1 ha];exact .sc⟩
theorem Xcn {cs:List AV} (h:∀ M:Nat->Prop,∀ a∈cs,a.Ok M):Xak (.agg cs):=λM=>⟨.agg (h M),h M⟩
theorem X17 {e:AV} (h:Xak e) (M:Nat->Prop):∀ e'∈[e],∀ a∈e'.cells,a.Ok M:=λe' he=>by rw[List.mem_singleton.1 he];exact(h M).2
def X82 {α:Type} (o:Bool) (f:α->AV) (l:List α):AV:=.list o (l.map f)
theorem X9f {α:Type} {o:Bool} {f:α->AV} {l:List α}:X4c (X82 o f l):=λ_=>rfl
theorem Xl5 {α:Type} {o:Bool} {f:α->AV} {l:List α}:Xak (X82 o f l):=λ_=>⟨.list,λa ha=>by rw[List.mem_singleton.1 ha];exact .list⟩
theorem Xmx {l:List AV} (h:∀ a∈l,Xlm a):Xlm (.tup l):=.tup h
theorem X8u {m:Bool} {H:Xz} {as bs:List AV} (h:Cvs m H as bs):Cv m H (.agg as) (.agg bs):=.agg h.len h.rel
theorem X086 {m:Bool} {H:Xz} {es:List AV} (h:es=[]):Cv m H .nils (.list m es):=by rw[h];exact .nils
theorem Xp5 {m:Bool} {H:Xz} {e b:AV} (h:Cv m H e b):∀ own es,b=.list own es->e.cells=[e]:=by
 induction h with
 |weak h ih=>grind
 |agg=>grind
 |_=>intro _ _ _;rfl
theorem X4n {H:Xz} {e e':AV} (h:Cv false H e e'):∀ (k:Nat) a b,e.cells[k]?=some a->e'.cells[k]?=some b->Cv false H a b:=by
 intro k a b ha hb
 cases h with
 |agg hl h=>exact h k a b ha hb
 |weak h =>
  trivial
 |_ =>
  cases k with
  |succ k=>trivial
  |zero =>
   simp[AV.cells] at ha hb;subst ha hb;first
    |exact .sc
    |exact .nils
    |exact .nils0
    |exact .fn0
    |(apply Cv.tup<;>assumption)
    |(apply Cv.listS;assumption)
    |(apply Cv.listD<;>assumption)
    |(apply Cv.ref<;>assumption)
    |(apply Cv.ptrL<;>assumption)
    |(apply Cv.elemD<;>assumption)
theorem absT {b:Bool} {P:Prop} (h:b=false):b=true->P:=λa=>Bool.noConfusion (a.symm.trans h)
theorem absN {b:Bool} {P:Prop} (h:b=true):(!b)=true->P:=λa=>by grind
theorem X14 {m n b c:Nat} {u:Unit} (h:X1o n c=some u) (hb:b=c) (hm:m=n):m*b<=140737488355328:=by subst hb hm;exact Xtt h
theorem X03 {m n c:Nat} {u:Unit} (h:X1o n c=some u) (hc:0<c) (hm:m=n):m<=maxLen:=by
 subst hm;have:=Xtt h;have h2:m*1<=m*c:=Nat.mul_le_mul_left _ hc;unfold maxLen;omega
theorem X5 {c x y b:Bool} (h:c=true) (hx:x=b):(bif c then x else y)=b:=by grind
theorem Xb {c x y b:Bool} (h:c=false) (hy:y=b):(bif c then x else y)=b:=by grind
theorem X0e6 {c:Bool} (h:c=true):(!c)=false:=by rw[h];rfl
theorem X0e7 {c:Bool} (h:c=false):(!c)=true:=by rw[h];rfl
theorem X08j {c b:Bool} (h:c=b):(!c)=!b:=by rw[h]
theorem X04k {m:Bool} {H:Xz} {u v:Value} (h:u=v):Cv m H (.sc u) (.sc v):=by rw[h];exact .sc
theorem Xwv {f:Nat} {M:Nat->Prop}:(AV.fn f []).Ok M:=.fn λ_ h=>by cases h
theorem Xdy {α:Type} {f:α->AV} {w:α->Prop} {es:List AV} (h:∀ x∈es,∃ e,x=f e/\w e):∃ l:List α,es=l.map f/\∀ y∈l,w y:=by
 induction es with
 |nil=>simp_all
 |cons a r ih =>
  obtain⟨e,he,hw⟩:=h a (List.mem_cons_self ..);obtain⟨l,hl,hws⟩:=ih λx hx=>h x (List.mem_cons_of_mem _ hx);refine⟨e::l,by grind,λy hy=>?_⟩
  grind
theorem X07w {p:AV->Prop} {a:AV} {l:List AV} (h:p a):∃ e∈(a::l),p e:=⟨a,List.mem_cons_self ..,h⟩
theorem oblA {P:Prop} (h:P:=by
 first
  |exact trivial
  |exact λh=>h
  |rfl
  |assumption
  |(apply X96;assumption;done)
  |(apply Xot;assumption;done)
  |(apply Xqe;assumption;done)
  |(apply ixm;assumption;done)
  |(apply ixm0;assumption;done)
  |(apply getI_mapc;assumption;done)
  |(apply getI_mapc0;assumption;done)
  |(apply ixmc;assumption;done)
  |(apply ixmc0;assumption;done)
  |(apply divOk_ne;assumption;done)
  |(apply X05f;assumption;done)
  |(intro a;rw[a];done)
  |(intro a;rw[a];rfl)
  |exact X00p om om
  |(refine X039 ?_ _;intro x;rfl)
  |exact X07w rfl
  |(refine cell_len_td ?_ _ _ _;intro x;rfl)
  |(refine cell_len_c ?_ _ _;intro x;rfl)
  |(refine take_full ?_;first|rfl|(simp;done)|(simp;omega)|(simp[*];done))
  |exact Nat.le_of_ble_eq_true rfl
  |(exact decide_eq_true om)
  |(exact decide_eq_false om)
  |(simp only[maxLen,List.length_append,List.length_map,List.length_cons,List.length_nil,List.length_replicate,Int.toNat_natCast];done)
  |(simp only[maxLen,List.length_append,List.length_map,List.length_cons,List.length_nil,List.length_replicate,Int.toNat_natCast] at *;omega)
  |(simp only[List.length_map];first|done|assumption|rfl)
  |(simp only[List.length_map];first|(apply X96;assumption;done)|(apply Xot;assumption;done)|(apply Xqe;assumption;done)|(apply getI_mapc;assumption;done)|(apply getI_mapc0;assumption;done))
  |(refine congrArg (λz=>AV.sc (Value.int IntKind.i64 z)) ?_;simp only[List.length_map,List.length_cons,List.length_append];done)
  |(refine congrArg (λz=>AV.sc (Value.int IntKind.i64 z)) ?_;first|(simp;done)|(simp;omega)|(simp[*];done))
  |(intro e he;rw[List.mem_singleton.1 he];rfl)
  |(intro e he;simp only[List.mem_cons,List.not_mem_nil,or_false] at he;rcases he with rfl|rfl<;>rfl)
  |exact andL
  |exact andR
  |(refine X0e6 ?_;assumption)
  |(refine X0e7 ?_;assumption)
  |(refine absT ?_;assumption)
  |(refine absN ?_;assumption)
  |omega
  |(simp;done)
  |(simp[*];done)
  |(intros;simp_all;done)):P:=h
end Go.Av


namespace Go.Av
variable [Gls]
theorem Xld {P:Program} {t et:Nat} {p:Option Addr} {n m:Nat} (hu:P.underlying t=some (.slice et)) (w:World) (d:Nat) :
  (Op.equalIn (d+1) t (.slice p n m) (.slice none 0 0)).run P w=.ok p.isNone w:=by
 unfold Op.equalIn;rw[Sem.run_bind,run_underlying hu w];cases p<;>rfl
theorem Xhw {P:Program} {t:Nat} {et:Nat} {x:Operand} {p:Option Addr} {n m:Nat} (hu:P.underlying t=some (.slice et)) (w:World) (y:Operand) :
  ((do eqGuard .eql t x y (.slice p n m) (.slice none 0 0);binOp .eql t (.slice p n m) (.slice none 0 0):Sem Value)).run P w=.ok (.bool p.isNone) w:=by
 have h1:(eqGuard .eql t x y (.slice p n m) (.slice none 0 0)).run P w=.ok () w:=rfl;have h2:(binOp .eql t (.slice p n m) (.slice none 0 0))=(do pure (.bool (<-Op.equalIn (9999+1) t (.slice p n m) (.slice none 0 0))):Sem Value):=rfl
 simp_all [Sem.run_bind,Result.andThen_ok,Xld]
def X6y:AV->Option Bool
 |.list _ es=>some es.isEmpty
 |.nils=>some true
 |.ref _ _ _=>some false
 |_=>none
theorem Xq2 {c:Ctx} {a:AV} {v:Value} {b:Bool} (h:X0m c false a v) (hn:X6y a=some b):∃ p n m,v=.slice p n m/\(b=false->p.isNone=false):=by
 cases h with
 |listNil=>grind [X6y]
 |list vf hne =>
  grind
 |nils=>grind [X6y]
 |ref=>grind
 |_=>cases hn
theorem X9.eqNil {P:Program} {T:Ty} {nt n0:Nat} {Q:Xp->St->Mu->Prop} {ops:Array Oper} {l:List Oper} {o:Oper} {K:List Kn} {L:List (Nat×AV)} {G:List (Nat×Obj)} {n:Nat} {μ:Mu} {t yt:Nat} {x:Operand} {ti:TI} {et:Nat}
  {a:AV} {q:List Prop} {may:Bool} (hT:X7a P T) (ho:o.op=.binOp .eql t x (.const (.slice none 0 0)) yt) (hg:o.guard=none) (hd:Xen nt o.dst=true) (ht:T t=some ti) (hk:ti.kind=.slice et) (hx:rd L x=(a,q)) (hq:X4u q)
  (hm:X6y a=some may) (h:∀ b:Bool,(may=false->b=false)->X9 P nt n0 Q (.ops ops l) K ⟨fr (putO o.dst (.sc (.bool b)) L),hp G,n⟩ μ):X9 P nt n0 Q (.ops ops (o::l)) K ⟨fr L,hp G,n⟩ μ:=by
 refine X2m.plain (s:=⟨fr L,hp G,n⟩) hg (X5n hd) (R:=λa' H' n'=>(∃ b:Bool,(may=false->b=false)/\a'=.sc (.bool b))/\H'=hp G/\n'=n) ?_ ?_
 ·intro c0 H0 n0' c act g K' Q' hK R;have hv:=g.ev x;rw[show evA (St.A ⟨fr L,hp G,n⟩) x=a from X13 hx hq] at hv;obtain⟨p,m1,m2,hv',hp'⟩:=Xq2 hv hm;refine Oper.wpR (λd hd=>by grind) ?_;unfold Oper.wp;have hr:(execOp act.eval o).run P c.w=.ok (.value (.bool p.isNone)) c.w:=by
   obtain⟨dst,op,type,pos,after,guard⟩:=o;simp only at ho;subst ho;have:=Xhw (P:=P) (t:=t) (x:=x) (p:=p) (n:=m1) (m:=m2) (X1i (hT t ti ht) hk) c.w (.const (.slice none 0 0));have hc:act.eval (.const (.slice none 0 0))=.slice none 0 0:=rfl;simp only[execOp,hv',hc];rw[Sem.run_bind,this];rfl
  rw[hr];exact hK c (.sc (.bool p.isNone)) (hp G) n (.bool p.isNone) ⟨⟨_,hp',rfl⟩,rfl,rfl⟩ λdst hd=>g.next hd (.refl c) rfl (λb hb=>.inl hb) (.refl c (hp G)) (λq x hx=>.inr ⟨q,x,hx,rfl⟩) g.inv g.solo (Nat.le_refl _) .sc .sc
 ·rintro a' H' n' ⟨⟨b,hb,rfl⟩,rfl,rfl⟩;have:=h b hb;rw[X6v] at this;exact this
theorem X9.inlineG {P:Program} {T:Ty} {nt n0 nt' f j t:Nat} {want g:Bool} {Q:Xp->St->Mu->Prop} {ops:Array Oper} {l:List Oper} {o:Oper} {K:List Kn} {L:List (Nat×AV)} {G:List (Nat×Obj)} {n:Nat} {μ:Mu} {x:Operand} {args:Array Operand} {ts:Array Nat}
  {caps as:List AV} {fn:Func} {code:Code} (hT:X7a P T) (hfn:Xmg P f fn code) (ho:o.op=.call { callee:=.value x,args:=args,argTypes:=ts }) (hg:o.guard=some (j,want)) (hj:(ops[j]?).bind (·.dst)=some t) (ht:Nat.blt t nt=true) (hgd:gdS want (fr L t)=some g)
  (hd:Xen nt o.dst=true) {qx qa:List Prop} (hx:rd L x=(.fn f caps,qx)) (ha:rds L args.toList=(as,qa)) (hnt:fn.ntmps=nt') (hle:Nat.ble (as++caps).length nt'=true) (hgt:g=true) (hpx:X4u qx) (hpa:X4u qa)
  (h:X9 P nt' n (retM T fn λr H' n'=>X9 P nt n0 Q (.ops ops l) K ⟨X65 (fr L) o.dst r,H',n'⟩ μ) (.code code) [] ⟨fr (Av.argL 0 (as++caps)),hp G,n⟩ []):X9 P nt n0 Q (.ops ops (o::l)) K ⟨fr L,hp G,n⟩ μ:=by
 subst hgt;refine X2m.step (s:=⟨fr L,hp G,n⟩) (λc0 c H0 act gd=>Xb8 (s:=⟨fr L,hp G,n⟩) hg hj ht hgd gd) (X5n hd) (OpR.call (s:=⟨fr L,hp G,n⟩) ho (X13 hx hpx) ?_) (λa H' n' hr=>hr);rw[Xg9 ha hpa];exact HC.of_bodyM hT hfn hnt (by simp_all) (X2i.ofCl h)
theorem Xyy {H:Xz} {e e':AV} (h:Cv true H e e'):∀ (k:Nat) a b,e.cells[k]?=some a->e'.cells[k]?=some b->Cv true H a b:=by
 intro k a b ha hb
 cases h with
 |agg hl h=>exact h k a b ha hb
 |weak h =>
  rw[Xp5 h _ _ rfl] at ha
  cases k with
  |succ k=>simp at ha
  |zero=>simp[AV.cells] at ha hb;subst ha hb;exact .weak h
 |ptrL hm=>cases hm
 |elemD hm=>cases hm
 |_ =>
  cases k with
  |succ k=>trivial
  |zero =>
   simp[AV.cells] at ha hb;subst ha hb;first
    |exact .sc
    |exact .nils
    |exact .nils0
    |exact .fn0
    |(apply Cv.tup<;>assumption)
    |(apply Cv.listS;assumption)
    |(apply Cv.ref<;>assumption)
    |(rename_i hm _ _ _;cases hm)
theorem Xsc {m:Bool} {α:Type} {f g:α->AV} {H:Xz} {o n:Nat} {x:Obj} {l:List α} (hH:H o=some x) (he:x.es=l.map f) (hn:n=l.length) (hc:∀ x,(f x).cells.length=(g x).cells.length)
  (h:∀ x (k:Nat) a b,(f x).cells[k]?=some a->(g x).cells[k]?=some b->Cv m H a b):Cv m H (.ref o 0 n) (.list m (l.map g)):=by
 have hg:∀ (i:Nat) e e',x.es[0+i]?=some e->(l.map g)[i]?=some e'->∃ y,e=f y/\e'=g y:=by
  intro i e e' h1 h2;rw[Nat.zero_add,he] at h1;simp only[List.getElem?_map,Option.map_eq_some_iff] at h1 h2;obtain⟨y,hy,rfl⟩:=h1;obtain⟨z,hz,rfl⟩:=h2;rw[hy] at hz;cases hz;exact⟨y,rfl,rfl⟩
 refine .ref hH (by rw[he,hn];simp) (by rw[hn];simp) (λi e e' h1 h2=>?_) (λi e e' k a b h1 h2 ha hb=>?_)
 ·obtain⟨y,rfl,rfl⟩:=hg i e e' h1 h2;exact hc y
 ·obtain⟨y,rfl,rfl⟩:=hg i e e' h1 h2;exact h y k a b ha hb
end Go.Av


namespace Go.Av
variable [Gls]
open MapKept
def Xlu (k v:Value):List (Value×Value)->List (Value×Value)
 |[]=>[(k,v)]
 |(a,b)::r=>open Classical in if a=k then (k,v)::r else (a,b)::Xlu k v r
def getV (k:Value):List (Value×Value)->Option Value
 |[]=>none
 |(a,b)::r=>open Classical in if a=k then some b else getV k r
theorem X05i {k v:Value}:∀ (l:List (Value×Value)) (j:Nat) (p:Value×Value),l[j]?=some p->p.1=k->(∀ i q,i<j->l[i]?=some q->q.1≠k)->Xlu k v l=l.set j (k,v)/\getV k l=some p.2:=by
 intro l
 induction l with
 |nil=>grind
 |cons a r ih =>
  obtain⟨a1,a2⟩:=a;intro j p h hk hn
  cases j with
  |zero=>grind [Xlu,getV]
  |succ j =>
   have h0:a1≠k:=hn 0 (a1,a2) (Nat.succ_pos j) rfl
   grind [Nat.succ_lt_succ,Xlu,getV]
theorem X00z {k v:Value}:∀ (l:List (Value×Value)),(∀ q∈l,q.1≠k)->Xlu k v l=l++[(k,v)]/\getV k l=none:=by
 intro l
 induction l with
 |nil=>intro _;trivial
 |cons a r ih =>
  grind [List.mem_cons_of_mem,Xlu,getV]
theorem Xoz {d:TypeDesc} {k:Value} (hk:IsKey d k):∀ (l:List MapEntry) (i:Nat),(∀ x∈l,IsKey d x.key) ->
  (Instr.findNow d k l i=some none/\∀ x∈l,x.key≠k)\/∃ j e,Instr.findNow d k l i=some (some (i+j,e.val))/\l[j]?=some e/\e.key=k/\∀ m x,m<j->l[m]?=some x->x.key≠k:=by
 intro l
 induction l with
 |nil=>intro i _;exact .inl ⟨rfl,by simp⟩
 |cons e es ih =>
  intro i h;obtain⟨r,hr,hiff⟩:=sameNow_of_keys hk (h e (by simp))
  cases r with
  |true=>exact .inr ⟨0,e,by simp[Instr.findNow,hr],rfl,(hiff.1 rfl).symm,λm x hm=>absurd hm (Nat.not_lt_zero m)⟩
  |false =>
   have hne:e.key≠k:=λq=>by grind
   rcases ih (i+1) (λx hx=>h x (List.mem_cons_of_mem _ hx)) with ⟨h1,h2⟩|⟨j,e',h1,h2,h3,h4⟩
   ·grind [Instr.findNow]
   ·refine .inr ⟨j+1,e',by simp[Instr.findNow,hr,h1];omega,by grind,h3,λm x hm hx=>?_⟩
    grind
theorem Xpx {d:TypeDesc} {k:Value} (hk:IsKey d k) (n:Nat):Instr.sameBits (n+1) k k=true:=by
 cases d<;>cases k<;>simp_all [IsKey,Instr.sameBits,bytes_beq]
theorem Xie {P:Program} {w:World} {b:Nat} {l:List (Value×Value)} {t kt et:TypeId} {d:TypeDesc} {k v:Value} (hm:P.underlying t=some (.map kt et)) (hd:P.underlying kt=some d)
  (hM:Xvb w b l) (hk:IsKey d k) (hks:∀ p∈l,IsKey d p.1) :
  ∃ o',(Instr.mapUpdate t (.map (some b)) k v).run P w=.ok () { w with heap:=w.heap.setIfInBounds b o' }/\Xvb { w with heap:=w.heap.setIfInBounds b o' } b (Xlu k v l):=by
 obtain⟨es,clock,hb,hl,hp,hc⟩:=hM;have hes:∀ x∈es.toList,IsKey d x.key:=λx hx=>hks (x.key,x.val) (by grind);have hset:∀ o',(w.heap.setIfInBounds b o')[b]?=some o':=λo'=>(heap_set (o':=o') hb).1;rcases Xoz hk es.toList 0 hes with ⟨h1,h2⟩|⟨j,e,h1,h2,h3,h4⟩
 ·refine⟨.map (es.push { key:=k,val:=v,born:=clock }) (clock+1),?_,es.push { key:=k,val:=v,born:=clock },clock+1,hset _,?_,?_,?_⟩
  ·simp[Instr.mapUpdate,run_underlying hm,MapKept.run_getObj_map hb,run_checkKey hd hk,run_findKey hd h1,MapKept.run_setObj_map _ hb]
  ·rw[Array.toList_push,List.map_append,hl];rw[(X00z (v:=v) l (λq hq=>by
    rw[<-hl] at hq;obtain⟨x,hx,rfl⟩:=List.mem_map.1 hq;exact h2 x hx)).1]
   rfl
  ·rw[Array.toList_push];exact List.pairwise_append.2 ⟨hp,List.pairwise_singleton _ _,λa ha b' hb'=>by rw[List.mem_singleton.1 hb'];exact hc a ha⟩
  ·intro x hx;rw[Array.toList_push,List.mem_append] at hx;rcases hx with hx|hx
   ·exact Nat.lt_succ_of_lt (hc x hx)
   ·rw[List.mem_singleton.1 hx];exact Nat.lt_succ_self _
 ·have he:es[j]?=some e:=by simpa using h2
  have hlj:l[j]?=some (e.key,e.val):=by rw[<-hl,List.getElem?_map,h2];rfl
  have hm2:(es.modify j λe=>{ e with key:=k,val:=v }).toList=es.toList.modify j λe=>{ e with key:=k,val:=v }:=by simp
  refine⟨.map (es.modify j λe=>{ e with key:=k,val:=v }) clock,?_,es.modify j λe=>{ e with key:=k,val:=v },clock,hset _,?_,?_,?_⟩
  ·have hst:(Instr.keyThatStays k k).run P w=.ok k w:=by simp[Instr.keyThatStays,Xpx hk]
   simp only[Nat.zero_add] at h1;simp[Instr.mapUpdate,run_underlying hm,MapKept.run_getObj_map hb,run_checkKey hd hk,run_findKey hd h1,he,h3,hst,MapKept.run_setObj_map _ hb]
  ·rw[hm2,(X05i (v:=v) l j _ hlj h3 (λi q hi hq=>by
    rw[<-hl,List.getElem?_map] at hq
    cases hx:es.toList[i]? with
    |none=>rw[hx] at hq;cases hq
    |some x=>rw[hx] at hq;cases hq;exact h4 i x hi hx)).1,<-hl]
   apply List.ext_getElem?;intro i;simp only[List.getElem?_map,List.getElem?_modify,List.getElem?_set];by_cases hij:j=i
   ·subst hij;have hlt:j<es.toList.length:=(List.getElem?_eq_some_iff.1 h2).1;simp[he] at *;simpa using hlt
   ·simp[hij]
  ·rw[hm2];refine List.pairwise_iff_getElem.2 λi i' hi hi' hlt=>?_;have:=List.pairwise_iff_getElem.1 hp i i' (by simpa using hi) (by simpa using hi') hlt;simp only[List.getElem_modify];split<;>split<;>exact this
  ·intro x hx;rw[hm2] at hx;obtain⟨i,hi⟩:=List.getElem?_of_mem hx;rw[List.getElem?_modify] at hi
   cases hy:es.toList[i]? with
   |none=>rw[hy] at hi;simp at hi
   |some y =>
    rw[hy] at hi;have:=hc y (List.mem_of_getElem? hy);by_cases hij:j=i
    ·simp[hij] at hi;rw[<-hi];exact this
    ·simp[hij] at hi;rw[<-hi];exact this
theorem Inv.aside {c:Ctx} {H:Xz} {M:Nat->Prop} (hI:Inv c H M) {b:Nat} {w':World} (hsz:w'.heap.size=c.w.heap.size) (hw:∀ q,q≠b->w'.heap[q]?=c.w.heap[q]?) (hsa:¬ c.Sa b/\¬ c.So b) (hob:∀ o x,H o=some x->(c.ρ o).blk≠b) :
  c.Le M { c with w:=w' }/\Inv { c with w:=w' } H M:=by
 have hle:c.Le M { c with w:=w' }:=⟨λ_ _=>rfl,λ_ h=>h,λ_ h=>h,λq hq=>hw q (λe=>by grind),rfl⟩;refine⟨hle,⟨?_,hI.sep,hI.stab,λq hq=>by have:=hI.lt q hq;grind,by have:=hI.base;grind,hI.own,hI.low,hI.glob.mono hle⟩⟩;intro p x hx;obtain⟨h1,⟨⟨cur,hb,hs,hc⟩,h3,h4,h5⟩,h6⟩:=hI.obj p x hx;refine⟨h1,⟨⟨cur,?_,hs,?_⟩,h3,h4,h5⟩,h6⟩
 ·grind
 ·intro i e he;obtain⟨g1,g2⟩:=hc i e he;exact⟨g1,λk a ha=>by obtain⟨v,hv,hr,h7⟩:=g2 k a ha;exact⟨v,hv,hr.mono hle (.inr (h6 e (List.mem_of_getElem? he) a (List.mem_of_getElem? ha))),h7⟩⟩
section
variable {P:Program} {nt n0:Nat} {Q:Xp->St->Mu->Prop} {ops:Array Oper} {l:List Oper} {o:Oper} {K:List Kn} {L:List (Nat×AV)} {G:List (Nat×Obj)} {n:Nat} {μ:Mu}
theorem Xhu {P:Program} (t:TypeId) (w:World):(Instr.makeMap t none).run P w=.ok (.map (some w.heap.size)) (w.alloc (.map #[] 0)):=rfl
theorem X9.mapNew {t:Nat} (ho:o.op=.makeMap t none) (hg:o.guard=none) (hd:Xen nt o.dst=true)
  (h:∀ b,X9 P nt n0 Q (.ops ops l) K ⟨fr (putO o.dst (.sc (.map (some b))) L),hp G,n⟩ ((b,.map [])::μ)):X9 P nt n0 Q (.ops ops (o::l)) K ⟨fr L,hp G,n⟩ μ:=by
 intro c0 H0 c act g hm Qx hQ R hR;refine X4a λK' hK'=>?_;rw[if_pos (by simp[Region.wanted,hg])];have hrun:(execOp act.eval o).run P c.w=.ok (.value (.map (some c.w.heap.size))) (c.w.alloc (.map #[] 0)):=by
  simp_all [guard,execOp,Sem.run_bind,Xhu]
 refine Oper.wpR (λd hd=>by grind) ?_;unfold Oper.wp;rw[hrun];obtain⟨h1,h2,h3⟩:=g.inv.waste (w':=c.w.alloc (.map #[] 0)) (.map #[] 0) rfl rfl rfl ⟨rfl,Nat.le_refl _⟩;have g2:=(g.rebase).next (c':={ c with w:=c.w.alloc (.map #[] 0) }) (dst:=o.dst) (a:=.sc (.map (some c.w.heap.size))) (v:=.map (some c.w.heap.size)) (X5n hd) h1 rfl (λb hb=>.inl hb) h3 (λq x hx=>.inr ⟨q,x,hx,rfl⟩) h2 g.solo (Nat.le_refl _) .sc .sc;have hk:=hm.kept g2.reach;have hnew:(c.w.alloc (.map #[] 0)).heap[c.w.heap.size]?=some (.map #[] 0):=(heap_alloc c.w _).1;have hb:=h c.w.heap.size;rw[X6v] at hb;refine hK' _ _ (hb c0 H0 { c with w:=c.w.alloc (.map #[] 0) } _ (.join g.reach g2) ⟨?_,?_,?_,(put_defers _ _ _).trans hm.ds⟩ Qx hQ R hR)
 ·intro p hp;rcases List.mem_cons.1 hp with rfl|hp
  ·exact⟨#[],0,hnew,rfl,List.Pairwise.nil,λe he=>by simp at he⟩
  ·exact hk.is p hp
 ·intro p hp;rcases List.mem_cons.1 hp with rfl|hp
  ·refine⟨λhs=>Nat.lt_irrefl _ (g.inv.lt _ (.inl hs)),λhs=>Nat.lt_irrefl _ (g.inv.lt _ (.inr hs)),λq x hx he=>?_,⟨by rw[<-g.reach.B];exact g.inv.base,.inl g.reach.size⟩⟩;obtain⟨_,⟨⟨cur,hcb,_⟩,_,_,_⟩,_⟩:=g.inv.obj q x hx
   grind
  ·exact hk.away p hp
 ·refine List.nodup_cons.2 ⟨λhmem=>?_,hk.nodup⟩;obtain⟨p,hp,he⟩:=List.mem_map.1 hmem;have:=(hm.is p hp).lt
  grind
theorem X9.mapUpd {T:Ty} {t b kt et:Nat} {m k x:Operand} {qm qk qx:List Prop} {kv xv:Value} {es:List (Value×Value)} {ti:TI} {d:TypeDesc} (hT:X7a P T) (ho:o.op=.mapUpdate t m k x) (hg:o.guard=none) (hd:o.dst=none)
  (ht:T t=some ti) (hkd:ti.kind=.map kt et) (hu:P.underlying kt=some d)
  (hm:rd L m=(.sc (.map (some b)),qm)) (hk:rd L k=(.sc kv,qk)) (hx:rd L x=(.sc xv,qx)) (hqm:X4u qm) (hqk:X4u qk) (hqx:X4u qx) (hik:IsKey d kv) (hks:∀ p∈es,IsKey d p.1)
  (h:X9 P nt n0 Q (.ops ops l) K ⟨fr L,hp G,n⟩ ((b,Xlu kv xv es)::μ)):X9 P nt n0 Q (.ops ops (o::l)) K ⟨fr L,hp G,n⟩ ((b,es)::μ):=by
 intro c0 H0 c act g hM Qx hQ R hR;refine X4a λK' hK'=>?_;rw[if_pos (by simp[Region.wanted,hg])];have em:act.eval m=.map (some b):=by have:=g.ev m;rw[show evA (St.A ⟨fr L,hp G,n⟩) m=_ from X13 hm hqm] at this;exact this.sc_inv
 have ek:act.eval k=kv:=by have:=g.ev k;rw[show evA (St.A ⟨fr L,hp G,n⟩) k=_ from X13 hk hqk] at this;exact this.sc_inv
 have ex:act.eval x=xv:=by have:=g.ev x;rw[show evA (St.A ⟨fr L,hp G,n⟩) x=_ from X13 hx hqx] at this;exact this.sc_inv
 have hu1:P.underlying t=some (.map kt et):=by
  obtain⟨i,dd,_,hdd,_,hkk,_⟩:=X1y (hT t ti ht);rw[hkd] at hkk;cases dd<;>simp[X8g] at hkk
  grind
 obtain⟨o',hrun,hmap⟩:=Xie (v:=xv) hu1 hu (hM.is (b,es) (by simp)) hik hks;have hex:(execOp act.eval o).run P c.w=.ok .skip { c.w with heap:=c.w.heap.setIfInBounds b o' }:=by
  simp_all [guard,execOp,Sem.run_bind]
 refine Oper.wpR (λd hd=>by grind) ?_;unfold Oper.wp;rw[hex];obtain⟨a1,a2,a3,a4⟩:=hM.away (b,es) (by simp);obtain⟨es0,cl,hb0,_⟩:=hM.is (b,es) (by simp);have hoth:∀ q,q≠b->({ c.w with heap:=c.w.heap.setIfInBounds b o' }:World).heap[q]?=c.w.heap[q]?:=(heap_set (o':=o') hb0).2;obtain⟨h1,h2⟩:=g.inv.aside (w':={ c.w with heap:=c.w.heap.setIfInBounds b o' }) (by simp) hoth ⟨a1,a2⟩ a3;have g2:X38 nt c0 H0 n0 { c with w:={ c.w with heap:=c.w.heap.setIfInBounds b o' } } ⟨fr L,hp G,n⟩ act:=by
  refine⟨h2,g.solo,λq=>(g.frame q).mono h1 (.inr (g.ok q)),g.ok,g.size,?_,g.le0⟩;have r:=g.reach;refine⟨r.rho,r.os,r.tape,⟨r.output.1,Nat.le_trans r.output.2 (by simp_all [Nat.le_refl,Xho,Nat.le_succ])⟩,by simpa using r.size,λq hq hn=>?_,λq hq=>?_,r.sa,r.so1,r.so2,r.B,r.own⟩
  ·exact(hoth q (λe=>by subst e;exact(a4.no hq hn).elim)).trans (r.block q hq hn)
  ·refine(hoth q (λe=>?_)).trans (r.stable q hq);subst e;rcases hq with hq|hq
   ·exact a1 (by rw[r.sa];exact hq)
   ·exact a2 (r.so1 _ hq)
 have hact:act.put o.dst undef=act:=by rw[hd];rfl
 have hMs:MOk n0 c0 H0 { c with w:={ c.w with heap:=c.w.heap.setIfInBounds b o' } } (hp G) ((b,Xlu kv xv es)::μ) act:=by
  refine⟨λp hp=>?_,λp hp=>?_,?_,hM.ds⟩
  ·rcases List.mem_cons.1 hp with rfl|hp
   ·exact hmap
   ·have hne:p.1≠b:=λe=>(List.nodup_cons.1 hM.nodup).1 (List.mem_map.2 ⟨p,hp,e⟩);exact(hM.is p (List.mem_cons_of_mem _ hp)).le (hoth _ hne) (h1.weaken λq hq=>Nat.lt_of_lt_of_le hq g.le0)
  ·rcases List.mem_cons.1 hp with rfl|hp
   ·grind
   ·exact hM.away p (List.mem_cons_of_mem _ hp)
  ·exact hM.nodup
 have:=hK' act { c.w with heap:=c.w.heap.setIfInBounds b o' } (h c0 H0 _ act g2 hMs Qx hQ R hR);show K' (act.put o.dst undef) _
 grind
theorem X9.mapLen {T:Ty} {t b kt et:Nat} {x:Operand} {qx:List Prop} {es:List (Value×Value)} {ti:TI} (hT:X7a P T) (ho:o.op=.call { callee:=.builtin .len,args:=#[x],argTypes:=#[t] }) (hg:o.guard=none) (hd:Xen nt o.dst=true)
  (ht:T t=some ti) (hkd:ti.kind=.map kt et) (hx:rd L x=(.sc (.map (some b)),qx)) (hqx:X4u qx)
  (h:X9 P nt n0 Q (.ops ops l) K ⟨fr (putO o.dst (.sc (.int .i64 es.length)) L),hp G,n⟩ ((b,es)::μ)):X9 P nt n0 Q (.ops ops (o::l)) K ⟨fr L,hp G,n⟩ ((b,es)::μ):=by
 intro c0 H0 c act g hM Qx hQ R hR;refine X4a λK' hK'=>?_;rw[if_pos (by simp[Region.wanted,hg])];have ex:act.eval x=.map (some b):=by have:=g.ev x;rw[show evA (St.A ⟨fr L,hp G,n⟩) x=_ from X13 hx hqx] at this;exact this.sc_inv
 have hu1:P.underlying t=some (.map kt et):=by
  obtain⟨i,dd,_,hdd,_,hkk,_⟩:=X1y (hT t ti ht);rw[hkd] at hkk;cases dd<;>simp[X8g] at hkk
  grind
 obtain⟨es0,cl,hb0,hl,_⟩:=hM.is (b,es) (by simp);have hsz:es0.size=es.length:=by grind
 have hex:(execOp act.eval o).run P c.w=.ok (.value (.int .i64 es.length)) c.w:=by
  obtain⟨dst,op,type,pos,after,guard⟩:=o;simp only at ho;subst ho;simp[execOp,resolve,invoke,builtin,Builtin.len_,ex,run_underlying hu1,MapKept.run_getObj_map hb0,goInt,hsz]
 refine Oper.wpR (λd hd=>by grind) ?_;unfold Oper.wp;rw[hex];have g2:=g.next (c':=c) (dst:=o.dst) (a:=.sc (.int .i64 es.length)) (v:=.int .i64 es.length) (X5n hd) (.refl c) rfl (λb hb=>.inl hb) (.refl c (hp G)) (λq x hx=>.inr ⟨q,x,hx,rfl⟩) g.inv g.solo (Nat.le_refl _) .sc .sc;rw[X6v] at h;exact hK' _ _ (h c0 H0 c _ g2 hM.act Qx hQ R hR)
end
end Go.Av
namespace Go.D
def Xdu (ks:List Int) (z:Int):List Int:=if z∈ks then ks else ks++[z]
def X5x (ks:List Int):List Int->List Int
 |[]=>ks
 |z::zs=>X5x (Xdu ks z) zs
end Go.D
namespace Go.Av
variable [Gls]
def Xbk (z:Int):Value×Value:=(.int .i64 z,.bool true)
end Go.Av


namespace Go.Av
variable [Gls]
theorem Oper.wp_mono2 {P:Program} {o:Oper} {a:Act} {w:World} {K K':Act->World->Prop} {Q Q':Exit->Act->World->Prop} (h:∀ a w,K a w->K' a w) (hq:∀ e a w,e≠.normal->Q e a w->Q' e a w)
  (hh:o.wp P a w K Q):o.wp P a w K' Q':=by
 unfold Oper.wp at *;generalize (execOp a.eval o).run P w=r at *
 cases r with
 |ok n w' =>
  cases n with
  |enter f args =>
   simp only[Oper.upon] at hh ⊢;refine Calls.mono hh (λe w'' he=>?_)
   cases e with
   |returned v=>grind
   |panicked ch=>grind
   |outgrown=>obtain⟨a0,w0,h0⟩:=he;exact⟨a0,w0,hq _ _ _ (by grind) h0⟩
  |row row args=>grind [Oper.upon,Rows.mono]
  |_=>grind [Oper.upon]
 |halt x w'=>cases x<;>simp only[Oper.upon] at hh ⊢<;>first|exact hh|exact hq _ _ _ (by intro h;cases h) hh
section
variable {P:Program} {ops:Array Oper} {Q:Exit->Act->World->Prop}
theorem Xmq:∀ (f:Nat) (listed:Array Bool) (a:Act) (w:World),wpAny P .any ops Q f listed a w->wpAny P .any ops Q (f+1) listed a w
 |0,listed,a,w,h=>⟨λ_=>h.2,λi hi=>by rw[h.1] at hi;cases hi⟩
 |f+1,listed,a,w,h=>⟨h.1,λi hi=>wpOp_mono (λa' w' h'=>Xmq f _ a' w' h') (h.2 i hi)⟩
theorem Xrd (n:Nat):∀ (f:Nat) (listed:Array Bool) (a:Act) (w:World),wpAny P .any ops Q f listed a w->wpAny P .any ops Q (f+n) listed a w:=by
 induction n with
 |zero=>grind
 |succ n ih=>grind [Xmq]
def Xva (j:Nat) (l:List Oper):Bool:=(List.range l.length).all λi=>Nat.blt i j||(List.range i).all λq=>((X1h l).getD i 0).testBit q
def Xjf (l:List Oper):Bool:=l.all λo=>match o.guard with
 |some (j,_)=>Nat.blt j l.length
 |none=>true
theorem Xna {j:Nat} {l:List Oper} (h:Xva j l=true) {i q:Nat} (hi:i<l.length) (hj:j<=i) (hq:q<i):((X1h l).getD i 0).testBit q=true:=by
 have:=List.all_eq_true.1 h i (List.mem_range.2 hi);simp only[Bool.or_eq_true,Nat.blt_eq] at this
 grind
theorem X6u {listed:Array Bool} {i:Nat} {o:Oper} (hi:i∈Region.ready .any ops listed) (ho:ops.toList[i]?=some o):∀ j∈X8e o,listed.getD j false=true:=by
 rw[X1t] at hi;obtain⟨_,_,h3⟩:=hi;have ho':ops[i]?=some o:=by grind
 rw[ho'] at h3;simp only[Option.map_some,Option.getD_some] at h3;intro j hj;obtain⟨e,he,rfl⟩:=List.mem_map.1 hj
 grind [Array.all_eq_true_iff_forall_mem]
theorem X5w {listed:Array Bool} {i:Nat} {o:Oper} (hsz:listed.size=ops.size) (ho:ops.toList[i]?=some o) (hl:listed.getD i false=false) (h:∀ j∈X8e o,listed.getD j false=true):i∈Region.ready .any ops listed:=by
 have hi:i<ops.size:=by grind
 rw[X1t];refine⟨hi,?_,?_⟩
 ·grind
 ·have ho':ops[i]?=some o:=by grind
  rw[ho'];simp only[Option.map_some,Option.getD_some];rw[Array.all_eq_true_iff_forall_mem];intro e he
  cases hb:Region.binds .any e with
  |false=>rfl
  |true=>simpa using h e.on (List.mem_map.2 ⟨e,List.mem_filter.2 ⟨by grind,hb⟩,rfl⟩)
def Xfp (ops:Array Oper) (listed:Array Bool):Prop:=∀ (i:Nat) o,ops.toList[i]?=some o->listed.getD i false=true->∀ j∈X8e o,listed.getD j false=true
theorem Xg8 (hpre:X7g 0 ops.toList=true) {listed:Array Bool} (hc:Xfp ops listed) {i:Nat} (hi:i∈Region.ready .any ops listed) {q:Nat} (hq:((X1h ops.toList).getD i 0).testBit q=true):listed.getD q false=true:=by
 have hlt:=(X1t.1 hi).1;have ho:ops.toList[i]?=some ops[i]:=by simp[hlt]
 have hp:∀ (i:Nat) o,ops.toList[i]?=some o->∀ j∈X8e o,j<i:=λi o ho j hj=>by have:=X6f _ 0 hpre i o ho j hj;omega
 exact(Xi9 (S:=λk=>listed.getD k false) hp hc i _ ho (X6u hi ho) q hq).1
theorem X4j {listed:Array Bool} {i k:Nat} (hi:i<listed.size):(listed.setIfInBounds i true).getD k false=(listed.getD k false||Nat.beq k i):=by
 simp only[Array.getD_eq_getD_getElem?];by_cases h:k=i
 ·simp_all
 ·have:Nat.beq k i=false:=by rw[<-Bool.not_eq_true,Nat.beq_eq];exact h
  grind
theorem Xvu (hpre:X7g 0 ops.toList=true) {j:Nat} (hbar:Xva j ops.toList=true):∀ (f m:Nat) (listed:Array Bool) (a:Act) (w:World),listed.size=ops.size->j<=m->m+f=ops.size->(∀ k,k<ops.size->(listed.getD k false=true↔k<m)) ->
  wpList P ops Q (ops.toList.drop m) a w->wpAny P .any ops Q f listed a w:=by
 have hlen:ops.toList.length=ops.size:=Array.length_toList;intro f
 induction f with
 |zero =>
  intro m listed a w hsz hj hm hl h;refine⟨?_,?_⟩
  ·simp_all [List.eq_nil_iff_forall_not_mem,X1t,Array.getD_eq_getD_getElem?,Array.getElem?_eq_getElem,Option.getD_some]
  ·rw[List.drop_of_length_le om] at h;exact h
 |succ f ih =>
  intro m listed a w hsz hj hm hl h;have hmo:ops.toList[m]?=some (ops.toList[m]' om):=List.getElem?_eq_getElem om;have hc:Xfp ops listed:=λi o ho hi q hq=>by
   have hio:i<ops.size:=by grind
   have h1:=X6f _ 0 hpre i o ho q hq
   grind
  have hrm:m∈Region.ready .any ops listed:=by
   refine X5w hsz hmo ?_ λq hq=>?_
   ·grind
   ·have h1:=X6f _ 0 hpre m _ hmo q hq
    grind
  refine⟨λhr=>(by grind),λi hi=>?_⟩;have him:i=m:=by
   grind [X1t,Nat.lt_or_ge,Array.getD_eq_getD_getElem?,Array.getElem?_eq_getElem,Nat.lt_or_eq_of_le,Xg8,Xna]
  subst him;rw[List.drop_eq_getElem_cons om] at h;unfold wpList at h;unfold wpOp;have ho':ops[i]?=some (ops.toList[i]' om):=by grind
  rw[ho'];simp only;have hnext:∀ a' w',wpList P ops Q (ops.toList.drop (i+1)) a' w'->wpAny P .any ops Q f (listed.setIfInBounds i true) a' w':=λa' w' h' =>
   ih (i+1) _ a' w' (by grind) om om (λk hk=>by
    rw[X4j om,Bool.or_eq_true,hl k hk,Nat.beq_eq];omega) h'
  by_cases hw:Region.wanted (ops.toList[i]' om) (yielded ops a.tmps)=true
  ·rw[if_pos hw] at h ⊢;exact h.imp (Oper.wp_mono hnext) id
  grind
theorem Xue {j i:Nat} {o:Oper} (h:(ops.toList.take j)[i]?=some o):ops.toList[i]?=some o/\i<j:=by
 grind
theorem Xvv {R:Exit->Act->World->Prop} {j:Nat} {pre:Array Oper} (hp:pre.toList=ops.toList.take j) (hjl:j<=ops.size) (hpre:X7g 0 ops.toList=true) (hbar:Xva j ops.toList=true) (hgd:Xjf (ops.toList.take j)=true)
  (hRQ:∀ e a w,e≠.normal->R e a w->Q e a w) (r:Nat)
  (hend:∀ listed a w,listed.size=ops.size->(∀ k,k<ops.size->(listed.getD k false=true↔k<j))->R .normal a w->wpAny P .any ops Q r listed a w) :
  ∀ (f:Nat) (lp lo:Array Bool) (a:Act) (w:World),lp.size=pre.size->lo.size=ops.size->(∀ k,lo.getD k false=(lp.getD k false&&Nat.blt k j))->Xfp pre lp ->
   wpAny P .any pre R f lp a w->wpAny P .any ops Q (f+r) lo a w:=by
 have hlen:ops.toList.length=ops.size:=Array.length_toList;have hps:pre.size=j:=by grind [Array.length_toList,hp,List.length_take]
 have hpp:X7g 0 pre.toList=true:=by
  have key:∀ (l:List Oper) (i k:Nat),X7g i l=true->X7g i (l.take k)=true:=by
   intro l
   induction l with
   |nil=>grind
   |cons a l ih =>
    intro i k h
    cases k with
    |zero=>rfl
    |succ k =>
     simp_all [X7g,Bool.and_eq_true,List.take_succ_cons]
  grind
 have same:∀ (k:Nat) o,ops.toList[k]?=some o->k<j->pre.toList[k]?=some o:=λk o ho hk=>by grind
 have full:∀ (lp:Array Bool),lp.size=pre.size->Region.ready .any pre lp=[]->∀ k,k<j->lp.getD k false=true:=by
  intro lp hs hr k
  induction k using Nat.strongRecOn with
  |_ k ih =>
   intro hk
   cases hl:lp.getD k false with
   |true=>rfl
   |false =>
    have hko:pre.toList[k]?=some (pre.toList[k]'(by grind)):=List.getElem?_eq_getElem _;have:=X5w hs hko hl λq hq=>by
     have h1:=X6f _ 0 hpp k _ hko q hq
     grind
    grind
 have yl:∀ (tmps:Array Value) (q:Nat),q<j->yielded ops tmps q=yielded pre tmps q:=by
  intro tmps q hq;have:ops[q]?=pre[q]?:=by
   have h1:ops.toList[q]?=pre.toList[q]?:=by grind
   grind
  unfold yielded;rw[this]
 intro f
 induction f with
 |zero =>
  intro lp lo a w hs1 hs2 hrel hcl h;obtain⟨h1,h2⟩:=h;rw[Nat.zero_add];refine hend lo a w hs2 (λk hk=>?_) h2;rw[hrel]
  simp_all
 |succ f ih =>
  intro lp lo a w hs1 hs2 hrel hcl h;obtain⟨h1,h2⟩:=h;by_cases hr:Region.ready .any pre lp=[]
  ·have:wpAny P .any ops Q r lo a w:=hend lo a w hs2 (λk hk=>by
    rw[hrel]
    simp_all) (h1 hr)
   simp_all [Xrd,Nat.add_comm]
  ·have hclo:Xfp ops lo:=by
    intro i o ho hi q hq;rw[hrel] at hi ⊢;simp only[Bool.and_eq_true,Nat.blt_eq] at hi ⊢;have hq2:=X6f _ 0 hpre i o ho q hq;exact⟨hcl i o (same i o ho hi.2) hi.1 q hq,by omega⟩
   obtain⟨p,hpr⟩:=List.exists_mem_of_ne_nil _ hr;have hpj:p<j:=by have:=(X1t.1 hpr).1;omega
   have hnl:lo.getD p false=false:=by
    grind [X1t,Array.getD_eq_getD_getElem?,Array.getElem?_eq_getElem]
   have low:∀ i,i∈Region.ready .any ops lo->i<j:=by
    grind [Nat.lt_or_ge,Xg8,Xna,X1t]
   rw[show f+1+r=(f+r)+1 by omega];refine⟨λhro=>?_,λi hi=>?_⟩
   ·exfalso;have hpo:pre.toList[p]?=some (pre.toList[p]'(by grind)):=List.getElem?_eq_getElem _;have hpo2:ops.toList[p]?=some (pre.toList[p]'(by grind)):=(Xue (by rw[<-hp];exact hpo)).1;have:p∈Region.ready .any ops lo:=X5w hs2 hpo2 hnl λq hq=>by
     have h3:=X6u hpr hpo q hq;have h4:=X6f _ 0 hpre p _ hpo2 q hq;rw[hrel,h3];simp;omega
    grind
   ·have hij:=low i hi;have hio:ops.toList[i]?=some (ops.toList[i]' om):=List.getElem?_eq_getElem _;have hip:=same i _ hio hij;have hli:lp.getD i false=false:=by
     have h3:=(X1t.1 hi).2.1;have hil:i<lo.size:=by omega
     have h5:lo.getD i false=false:=by
      grind
     rw[hrel] at h5;have:Nat.blt i j=true:=by simp_all
     grind
    have hir:i∈Region.ready .any pre lp:=X5w hs1 hip hli λq hq=>by
     have h3:=X6u hi hio q hq
     grind
    have hk:=h2 i hir;unfold wpOp at hk ⊢;have e1:ops[i]?=some (ops.toList[i]' om):=by grind
    have e2:pre[i]?=some (ops.toList[i]' om):=by grind
    rw[e2] at hk;rw[e1];simp only at hk ⊢;have hw:Region.wanted (ops.toList[i]' om) (yielded ops a.tmps)=Region.wanted (ops.toList[i]' om) (yielded pre a.tmps):=by
     unfold Region.wanted
     cases hgu:(ops.toList[i]' om).guard with
     |none=>rfl
     |some g =>
      obtain⟨gj,want⟩:=g;have h5:=List.all_eq_true.1 hgd (ops.toList[i]' om) (List.mem_of_getElem? (i:=i) (by grind))
      simp_all
    rw[hw];have hnext:∀ a' w',wpAny P .any pre R f (lp.setIfInBounds i true) a' w'->wpAny P .any ops Q (f+r) (lo.setIfInBounds i true) a' w':=by
     intro a' w' h';refine ih _ _ a' w' (by grind) (by grind) (λk=>?_) ?_ h'
     ·rw[X4j om,X4j om,hrel];by_cases hki:k=i
      ·simp_all
      ·have:Nat.beq k i=false:=by rw[<-Bool.not_eq_true,Nat.beq_eq];exact hki
       simp[this]
     ·intro k o ho hk q hq;rw[X4j om] at hk ⊢;rcases Bool.or_eq_true_iff.1 hk with hk|hk
      ·rw[hcl k o ho hk q hq];rfl
      ·have:k=i:=by simp_all
       grind [X6u]
    by_cases hwt:Region.wanted (ops.toList[i]' om) (yielded pre a.tmps)=true
    ·rw[if_pos hwt] at hk ⊢;rcases hk with hk|⟨hk,a0,w0,hl⟩
     ·exact .inl (Oper.wp_mono2 hnext hRQ hk)
     ·exact .inr ⟨hk,a0,w0,hRQ _ _ _ (by grind) hl⟩
    grind
end
end Go.Av
namespace Go.Av
variable [Gls]
end Go.Av


namespace Go.Av
variable [Gls]
def denC:AV->AV
 |.nils=>.list true []
 |a=>a
def denil:AV->AV
 |.agg cs=>.agg (cs.map denC)
 |a=>denC a
theorem Xlg (e:AV):(denil e).cells=e.cells.map denC:=by
 cases e<;>rfl
theorem X035 {c:Ctx} {d:Bool} {a:AV} {v:Value} (h:X0m c d a v):X0m c d (denC a) v:=by
 cases a with
 |nils=>obtain⟨p,rfl⟩:=h.nils_inv;exact .listNil
 |_=>exact h
theorem X085 {M:Nat->Prop} {a:AV} (h:a.Ok M):(denC a).Ok M:=by
 cases a with
 |nils=>exact .list
 |_=>exact h
theorem Xyq {c:Ctx} {p:Pl} {y:Obj} (h:Xzg c p y):Xzg c p { y with es:=y.es.map denil }:=by
 obtain⟨⟨cur,h1,h2,h3⟩,h4,h5,h6⟩:=h;refine⟨⟨cur,h1,h2,λi e he=>?_⟩,by simpa using h4,h5,h6⟩;simp only[List.getElem?_map,Option.map_eq_some_iff] at he;obtain⟨e0,he0,rfl⟩:=he;obtain⟨g1,g2⟩:=h3 i e0 he0;rw[Xlg];refine⟨by simpa using g1,λk a ha=>?_⟩;simp only[List.getElem?_map,Option.map_eq_some_iff] at ha;obtain⟨a0,ha0,rfl⟩:=ha;obtain⟨v,v1,v2,v3⟩:=g2 k a0 ha0;exact⟨v,v1,X035 v2,v3⟩
theorem X9.denil {P:Program} {nt n0 n:Nat} {Q:Xp->St->Mu->Prop} {cf:Cf} {K:List Kn} {μ:Mu} {L:List (Nat×AV)} {G:List (Nat×Obj)} {y:Obj} (q:Nat) (es':List AV) (hy:hp G q=some y) (he:y.es.map denil=es')
  (h:X9 P nt n0 Q cf K ⟨fr L,hp ((q,{ y with es:=es' })::G),n⟩ μ):X9 P nt n0 Q cf K ⟨fr L,hp G,n⟩ μ:=by
 subst he;have hd:∀ o x',hp ((q,{ y with es:=y.es.map Go.Av.denil })::G) o=some x'->∃ x,hp G o=some x/\x'.esz=x.esz/\x'.solo=x.solo/\x'.spent=x.spent/\x'.es.length=x.es.length/\(x'=x\/(o=q/\x=y/\x'={ y with es:=y.es.map Go.Av.denil })):=by
  intro o x' hx;by_cases ho:o=q
  ·subst ho;rw[show hp ((o,{ y with es:=y.es.map Go.Av.denil })::G) o=some { y with es:=y.es.map Go.Av.denil } by simp[hp,Xhj hy]] at hx;cases hx
   exact⟨y,hy,rfl,rfl,rfl,by simp,.inr ⟨rfl,rfl,rfl⟩⟩
  ·have:hp ((q,{ y with es:=y.es.map Go.Av.denil })::G) o=hp G o:=by
    have hb:Nat.beq o q=false:=by rw[<-Bool.not_eq_true,Nat.beq_eq];exact ho
    simp[hp,hb]
   rw[this] at hx;exact⟨x',hx,rfl,rfl,rfl,rfl,.inl rfl⟩
 refine X9.sub (s':=⟨fr L,hp ((q,{ y with es:=y.es.map Go.Av.denil })::G),n⟩) (λc0 H0 c act μ g hm=>⟨?_,?_⟩) h
 ·refine⟨⟨λo x' hx=>?_,λo o' x1 x2 h1 h2 hne hb=>?_,λo x' hx=>?_,g.inv.lt,g.inv.base,g.inv.own,λo x' hx=>?_,g.inv.glob⟩,λo x' hx=>?_,g.frame,g.ok,g.size,?_,g.le0⟩
  ·obtain⟨x,hx0,_,_,_,_,hc⟩:=hd o x' hx;obtain⟨i1,i2,i3⟩:=g.inv.obj o x hx0;rcases hc with rfl|⟨rfl,rfl,rfl⟩
   ·exact⟨i1,i2,i3⟩
   ·refine⟨i1,Xyq i2,λe he a ha=>?_⟩;obtain⟨e0,he0,rfl⟩:=List.mem_map.1 he;rw[Xlg] at ha;obtain⟨a0,ha0,rfl⟩:=List.mem_map.1 ha;exact X085 (i3 e0 he0 a0 ha0)
  ·obtain⟨y1,hy1,e1,s1,p1,l1,_⟩:=hd o x1 h1;obtain⟨y2,hy2,e2,s2,p2,l2,_⟩:=hd o' x2 h2;have:=g.inv.sep o o' y1 y2 hy1 hy2 hne hb;rw[s1,p1,p2,l1,l2,e1,e2];exact this
  ·obtain⟨x,hx0,_⟩:=hd o x' hx;exact g.inv.stab o x hx0
  ·obtain⟨x,hx0,_⟩:=hd o x' hx;exact g.inv.low o x hx0
  ·obtain⟨x,hx0,_,s1,p1,_⟩:=hd o x' hx;rw[s1,p1];exact g.solo o x hx0
  ·have r:=g.reach;exact⟨r.rho,r.os,r.tape,r.output,r.size,r.block,r.stable,r.sa,r.so1,r.so2,r.B,λo x' hx=>by obtain⟨x,hx0,_⟩:=hd o x' hx;exact r.own o x hx0⟩
 ·exact⟨hm.is,λp hp=>by
   obtain⟨a1,a2,a3,a4⟩:=hm.away p hp;exact⟨a1,a2,λo x' hx=>by obtain⟨x,hx0,_⟩:=hd o x' hx;exact a3 o x hx0,a4⟩,hm.nodup,hm.ds⟩
end Go.Av


namespace Go.Av
variable [Gls]
structure Xsh (c:Ctx) (H:Xz) (b:Nat):Prop where
 sa:¬ c.Sa b
 so:¬ c.So b
 ob:∀ o x,H o=some x->(c.ρ o).blk≠b
theorem Xsh.kept {c c':Ctx} {H H':Xz} {n b:Nat} (h:Xsh c H b) (hb:b<c.w.heap.size) (r:Reach c H n c' H'):Xsh c' H' b:=by
 refine⟨by rw[r.sa];exact h.sa,λhs=>?_,λo x hx he=>?_⟩
 ·rcases r.so2 _ hs with h1|h1|⟨o,x,h1,h2⟩
  ·exact h.so h1
  ·omega
  ·exact h.ob o x h1 h2
 ·rcases r.own o x hx with h1|⟨o',x',h1,h2⟩
  ·omega
  ·exact h.ob o' x' h1 (h2.trans he)
theorem Reach.weaken {c c':Ctx} {H H':Xz} {n n':Nat} (r:Reach c H n c' H') (h:n'<=n):Reach c H n' c' H' :=
 ⟨λo ho=>r.rho o (Nat.lt_of_lt_of_le ho h),r.os,r.tape,r.output,r.size,r.block,r.stable,r.sa,r.so1,r.so2,r.B,r.own⟩
theorem X38.turn0 {nt n0:Nat} {c0 c:Ctx} {H0:Xz} {s:St} {act:Act} {b:Nat} (o:Go.Obj) (g:X38 nt c0 H0 n0 c s act) (h:Xsh c s.H b) :
  X38 nt { c with w:=c.w.putObj b o } s.H n0 { c with w:=c.w.putObj b o } s act/\c.Le (λ_=>True) { c with w:=c.w.putObj b o }:=by
 have hother:∀ k,k≠b->(c.w.putObj b o).heap[k]?=c.w.heap[k]?:=λk hk=>World.putObj_heap_other hk;have hle:c.Le (λ_=>True) { c with w:=c.w.putObj b o } :=
  ⟨λ_ _=>rfl,λ_ h=>h,λ_ h=>h,λk hk=>hother k (λe=>by subst e;exact hk.elim h.sa h.so),rfl⟩
 have all:∀ {a:AV} {M:Nat->Prop},a.Ok M->a.Ok (λ_=>True):=λh=>h.mono λ_ _=>trivial;refine⟨⟨⟨λq x hx=>?_,g.inv.sep,g.inv.stab,λk hk=>?_,?_,g.inv.own,g.inv.low,g.inv.glob.mono hle⟩,g.solo,λt=>(g.frame t).mono hle (.inr (all (g.ok t))),g.ok,g.size,.refl _ _ _,g.le0⟩,hle⟩
 ·obtain⟨i1,⟨⟨cur,hb,hs,hc⟩,i3,i4,i5⟩,i6⟩:=g.inv.obj q x hx;refine⟨i1,⟨⟨cur,(hother _ (h.ob q x hx)).trans hb,hs,λi e he=>?_⟩,i3,i4,i5⟩,i6⟩;obtain⟨g1,g2⟩:=hc i e he;exact⟨g1,λk a ha=>by obtain⟨v,hv,hr,h7⟩:=g2 k a ha;exact⟨v,hv,hr.mono hle (.inr (all (i6 e (List.mem_of_getElem? he) a (List.mem_of_getElem? ha)))),h7⟩⟩
 ·show k<(c.w.putObj b o).heap.size;rw[World.putObj_size];exact g.inv.lt k hk
 ·show c.B<=(c.w.putObj b o).heap.size;rw[World.putObj_size];exact g.inv.base
theorem Reach.turnBack {c c1 c2:Ctx} {H H1 H2:Xz} {n b:Nat} {o0 o1:Go.Obj} (r1:Reach c H n c1 H1) (r2:Reach { c1 with w:=c1.w.putObj b o1 } H1 n c2 H2) (hb:c.w.heap[b]?=some o0) (h:Xsh c H b) :
  Reach c H n { c2 with w:=c2.w.putObj b o0 } H2:=by
 have hlt:b<c.w.heap.size:=(Array.getElem?_eq_some_iff.1 hb).1;have hs2:c.w.heap.size<=c2.w.heap.size:=by
  have h1:=r1.size;have h2:(c1.w.putObj b o1).heap.size<=c2.w.heap.size:=r2.size;rw[World.putObj_size] at h2;omega
 refine⟨λo ho=>(r2.rho o ho).trans (r1.rho o ho),r2.os.trans r1.os,r2.tape.trans r1.tape,⟨r2.output.1.trans r1.output.1,Nat.le_trans r1.output.2 r2.output.2⟩,?_,λk hk hn=>?_,λk hk=>?_,r2.sa.trans r1.sa,λk hk=>r2.so1 k (r1.so1 k hk),λk hk=>?_,r2.B.trans r1.B,λo x hx=>?_⟩
 ·show c.w.heap.size<=(c2.w.putObj b o0).heap.size;rw[World.putObj_size];exact hs2
 ·show(c2.w.putObj b o0).heap[k]?=_;by_cases e:k=b
  ·subst e;rw[World.putObj_heap_same om];exact hb.symm
  ·rw[World.putObj_heap_other e];have h2:c2.w.heap[k]?=(c1.w.putObj b o1).heap[k]?:=r2.block k (by show k<(c1.w.putObj b o1).heap.size;rw[World.putObj_size];exact Nat.lt_of_lt_of_le hk r1.size) λo x hx he=>by
    rcases r1.own o x hx with h1|⟨o',x',h1,h2⟩
    ·have he':(c1.ρ o).blk=k:=he;omega
    ·exact hn o' x' h1 (h2.trans he)
   rw[h2,World.putObj_heap_other e];exact r1.block k hk hn
 ·show(c2.w.putObj b o0).heap[k]?=_;have e:k≠b:=λe=>by subst e;exact hk.elim h.sa h.so
  rw[World.putObj_heap_other e];have h2:c2.w.heap[k]?=(c1.w.putObj b o1).heap[k]?:=r2.stable k (hk.imp (λx=>by show c1.Sa k;rw[r1.sa];exact x) (r1.so1 k));rw[h2,World.putObj_heap_other e];exact r1.stable k hk
 ·rcases r2.so2 k hk with h1|h1|⟨q,y,h1,h2⟩
  ·exact r1.so2 k h1
  ·right;left
   have h3:(c1.w.putObj b o1).heap.size<=k:=h1;rw[World.putObj_size] at h3;exact Nat.le_trans r1.size h3
  ·have h2':(c1.ρ q).blk=k:=h2;rcases r1.own q y h1 with h3|⟨q',y',h3,h4⟩
   ·exact .inr (.inl om)
   ·exact .inr (.inr ⟨q',y',h3,h4.trans h2'⟩)
 ·rcases r2.own o x hx with h1|⟨q,y,h1,h2⟩
  ·left;have h3:(c1.w.putObj b o1).heap.size<=(c2.ρ o).blk:=h1;rw[World.putObj_size] at h3;exact Nat.le_trans r1.size h3
  ·rcases r1.own q y h1 with h3|⟨q',y',h3,h4⟩
   ·left;have:(c1.ρ q).blk=(c2.ρ o).blk:=h2;show c.w.heap.size<=(c2.ρ o).blk;omega
   ·exact .inr ⟨q',y',h3,h4.trans h2⟩
def zipL:List Nat->List AV->List (Nat×AV)->List (Nat×AV)
 |p::ps,a::as,L=>zipL ps as ((p,a)::L)
 |_,_,L=>L
theorem X00j {c:Ctx} {n:Nat}:∀ (ps:List Nat) (as:List AV) (vs:List Value) (L:List (Nat×AV)) (tmps:Array Value),as.length=vs.length->(∀ (i:Nat) a v,as[i]?=some a->vs[i]?=some v->X0m c false a v/\a.Ok (·<n)) ->
  (∀ p∈ps,p<tmps.size)->(∀ t,X0m c false (fr L t) (tmps.getD t undef)/\(fr L t).Ok (·<n)) ->
  (∀ t,X0m c false (fr (zipL ps as L) t) (((ps.zip vs).foldl (λt (p,v)=>t.setIfInBounds p v) tmps).getD t undef)/\(fr (zipL ps as L) t).Ok (·<n))/\((ps.zip vs).foldl (λt (p,v)=>t.setIfInBounds p v) tmps).size=tmps.size:=by
 intro ps
 induction ps with
 |nil=>intro as vs L tmps _ _ _ h;trivial
 |cons p ps ih =>
  intro as vs L tmps hl ha hp h
  cases as with
  |nil =>
   have:vs=[]:=List.eq_nil_of_length_eq_zero (by grind);subst this;trivial
  |cons a as =>
   cases vs with
   |nil=>simp at hl
   |cons v vs =>
    have h0:=ha 0 a v rfl rfl;obtain⟨k1,k2⟩:=ih as vs ((p,a)::L) (tmps.setIfInBounds p v) (by grind) (λi a v h1 h2=>ha (i+1) a v (by grind) (by grind)) (λq hq=>by grind) (λt=>by
     rw[Xgk (hp p List.mem_cons_self)];by_cases ht:t=p
     ·subst ht;rw[if_pos rfl]
      simp_all [fr]
     ·rw[if_neg ht];have:fr ((p,a)::L) t=fr L t:=by
       have hb:Nat.beq t p=false:=by rw[<-Bool.not_eq_true,Nat.beq_eq];exact ht
       simp[fr,hb]
      grind)
    exact⟨k1,by simp_all⟩
def asgQ (P:Program) (nt n:Nat) (body:Code) (RQ:Xp->St->Mu->Prop):Xp->St->Mu->Prop:=λe s μ=>e=.normal/\μ=[]/\X2i P nt n body RQ s []
theorem X9.asg {P:Program} {nt n:Nat} {body:Code} {RQ:Xp->St->Mu->Prop} {s:St} (h:X9 P nt n RQ (.code body) [] s []):X9 P nt n (asgQ P nt n body RQ) (.exit .normal) [] s [] :=
 Cl.mk ⟨rfl,rfl,X2i.ofCl h⟩
theorem Xn1 {μ:Mu} {b:Nat} {r:Loop} {nt m:Nat} {A:Nat->AV} (h:(b,.loop r nt m A)∈μ):Xi1 μ=false:=by
 induction μ with
 |nil=>cases h
 |cons p μ ih =>
  obtain⟨q,x⟩:=p;rcases List.mem_cons.1 h with h|h2
  ·cases h;rfl
  ·cases x with
   |loop=>rfl
   |mark=>exact ih h2
   |map=>exact ih h2
   |blk=>exact ih h2
def rndQ (P:Program) (nt n0:Nat) (Q:Xp->St->Mu->Prop) (ops:Array Oper) (l:List Oper) (K:List Kn) (L:List (Nat×AV)) (d:Option Nat) (μ:Mu):Xp->St->Mu->Prop :=
 λe s _=>e=.normal/\X9 P nt n0 Q (.ops ops l) K ⟨X65 (fr L) d (.sc (.bool true)),s.H,s.n⟩ μ
theorem X9.rndEnd {P:Program} {nt n0 nt' n1:Nat} {Q:Xp->St->Mu->Prop} {ops:Array Oper} {l:List Oper} {K:List Kn} {L L1:List (Nat×AV)} {d:Option Nat} {μ μ1:Mu} {G:List (Nat×Obj)} {n:Nat}
  (h:X9 P nt n0 Q (.ops ops l) K ⟨fr (putO d (.sc (.bool true)) L),hp G,n⟩ μ):X9 P nt' n1 (rndQ P nt n0 Q ops l K L d μ) (.exit .normal) [] ⟨fr L1,hp G,n⟩ μ1 :=
 Cl.mk ⟨rfl,by grind [X9,X65,fr,bool,hp,X6v]⟩
theorem X9.yield {P:Program} {nt n0 n b ntc m:Nat} {Q:Xp->St->Mu->Prop} {ops:Array Oper} {l:List Oper} {o:Oper} {K:List Kn} {L Lc:List (Nat×AV)} {G:List (Nat×Obj)} {μ:Mu} {x:Operand} {args:Array Operand} {ts:Array Nat} {r:Loop}
  {as:List AV} {qx qa:List Prop} {ps:Array Nat} {assign body:Code} (ho:o.op=.call { callee:=.value x,args:=args,argTypes:=ts }) (hg:o.guard=none) (hd:Xen nt o.dst=true)
  (hx:rd L x=(.sc (.func (.yield b) #[] #[]),qx)) (ha:rds L args.toList=(as,qa)) (hqx:X4u qx) (hqa:X4u qa)
  (hμ:(b,.loop r ntc m (fr Lc))∈μ) (h1:r.state=.ready) (h2:r.pending=none) (h3:r.params=ps) (h4:r.assign=assign) (h5:r.body=body)
  (hps:(Nat.beq as.length ps.size&&ps.toList.all λp=>Nat.blt p ntc)=true) (ht:(X2g assign||X2g body)=false)
  (h:X9 P ntc n (asgQ P ntc n body (rndQ P nt n0 Q ops l K L o.dst μ)) (.code assign) [] ⟨fr (zipL ps.toList as Lc),hp G,n⟩ []):X9 P nt n0 Q (.ops ops (o::l)) K ⟨fr L,hp G,n⟩ μ:=by
 subst h3 h4 h5;simp only[Bool.and_eq_true,Nat.beq_eq,List.all_eq_true,Nat.blt_eq] at hps;obtain⟨hp1,hp2⟩:=hps;simp only[Bool.or_eq_false_iff] at ht;intro c0 H0 c act g hm Qx hQ R hR
 cases R with
 |none=>rw[Xn1 hμ] at hR;grind
 |some R =>
 refine X4a λK' hK'=>?_;rw[if_pos (by simp[Region.wanted,hg])];obtain⟨⟨hrec,hsz⟩,hmn,hAok,hA⟩:=hm.is _ hμ;obtain⟨w1,w2,w3,w4⟩:=hm.away _ hμ;have haw:Xsh c (hp G) b:=⟨w1,w2,w3⟩;have hlt:b<c.w.heap.size:=(Array.getElem?_eq_some_iff.1 hrec).1;have ex:act.eval x=.func (.yield b) #[] #[]:=by have:=g.ev x;rw[show evA (St.A ⟨fr L,hp G,n⟩) x=_ from X13 hx hqx] at this;exact this.sc_inv
 have hargs:args.toList.map (evA (fr L))=as:=Xg9 ha hqa;have hlen:as.length=args.size:=by grind
 have hy:=run_yield (P:=P) (args:=args.map act.eval) hrec (by grind);have hrun:(execOp act.eval o).run P c.w=.ok (.round b r.fn ((r.params.zip (args.map act.eval)).foldl (λtmps (t,a)=>tmps.setIfInBounds t a) r.tmps) r.assign r.body) c.w:=by
  simp only[execOp,ho,resolve,ex,Deferred.ofValue,Sem.run_bind,Sem.run_pure,Result.andThen_ok,invoke,Array.empty_append,Array.append_empty];exact hy
 show Oper.wpIn (FR R) 0 P o act c.w K' Qx;refine⟨λ_ _=>trivial,?_⟩;rw[Oper.semAt_eq _ _ _ (λd hd=>by grind),hrun,Oper.uponIn_round];refine⟨λh=>Bool.noConfusion h,roundIn_of_wpIn trivial ?_⟩;have hz:(r.params.zip (args.map act.eval)).foldl (λtmps (t,a)=>tmps.setIfInBounds t a) r.tmps=(r.params.toList.zip (args.toList.map act.eval)).foldl (λt (p,v)=>t.setIfInBounds p v) r.tmps:=by
  rw[<-Array.foldl_toList];simp
 have hzip:=X00j (c:=c) (n:=n) r.params.toList as (args.toList.map act.eval) Lc r.tmps (by grind) (λi a v h1 h2=>by
   rw[<-hargs,List.getElem?_map] at h1;rw[List.getElem?_map] at h2
   cases hq:args.toList[i]? with
   |none=>grind
   |some q =>
    simp only[hq,Option.map_some,Option.some.injEq] at h1 h2;subst h1 h2;exact⟨g.ev q,g.evOk q⟩) (λp hp=>by grind) (λt=>⟨hA t,(hAok t).mono λq hq=>Nat.lt_of_lt_of_le hq (Nat.le_trans hmn g.le0)⟩)
 rw[<-hz] at hzip;have gB:X38 ntc c (hp G) n c ⟨fr (zipL r.params.toList as Lc),hp G,n⟩ { tmps:=(r.params.zip (args.map act.eval)).foldl (λtmps (t,a)=>tmps.setIfInBounds t a) r.tmps,defers:=[] } :=
  ⟨g.inv,g.solo,λt=>(hzip.1 t).1,λt=>(hzip.1 t).2,hzip.2.trans hsz,.refl _ _ _,Nat.le_refl _⟩
 refine wpIn_mono (X2i.ofCl h c (hp G) c _ gB (.nil rfl) (some b) (λh=>by grind)) ?_;rintro e a1 w' ⟨c1,s1,ae,μ1,rfl,g1,hm1,rfl,rfl,rfl,hbody⟩;have hrec1:c1.w.heap[b]?=some (.loop r):=(g1.reach.block b hlt haw.ob).trans hrec;refine⟨_,run_beginRound hrec1 h1,?_⟩;have aw1:Xsh c1 s1.H b:=haw.kept hlt g1.reach;obtain⟨g1',_⟩:=g1.turn0 (.loop { r with state:=.busy }) aw1;refine wpIn_mono (hbody _ s1.H _ a1 g1' (.nil hm1.ds) (some b) (λh=>by grind)) ?_;rintro e a2 w' ⟨c2,s2,ae,μ2,rfl,g2,hm2,rfl,rfl,hk⟩;have hlt1:b<c1.w.heap.size:=(Array.getElem?_eq_some_iff.1 hrec1).1;have hrec2:c2.w.heap[b]?=some (.loop { r with state:=.busy }) :=
  (g2.reach.block b (by simp_all) aw1.ob).trans (World.putObj_heap_same hlt1)
 have hr:({ r with state:=.ready,pending:=none }:Loop)=r:=by
  obtain⟨st,pe,fn,tm,pa,asg,bd,de⟩:=r
  grind
 have hend:=run_endRound (P:=P) none hrec2;simp only[Option.isNone_none,if_true] at hend;rw[hr] at hend;refine⟨_,_,hend,?_⟩;have aw2:Xsh c2 s2.H b:=(Xsh.mk aw1.sa aw1.so aw1.ob:Xsh { c1 with w:=c1.w.putObj b (.loop { r with state:=.busy }) } s1.H b).kept (by simp_all) g2.reach;obtain⟨g3,_⟩:=g2.turn0 (.loop r) aw2;have rt:Reach c (hp G) n { c2 with w:=c2.w.putObj b (.loop r) } s2.H:=Reach.turnBack g1.reach g2.reach hrec haw;have gf:=g.next (X5n hd) rt.le rt.sa rt.so2 rt.fr rt.own g3.inv g3.solo g3.le0 (a:=.sc (.bool true)) (v:=.bool true) .sc .sc;exact hK' _ _ (hk c0 H0 _ _ gf (hm.kept (rt.weaken g.le0)) Qx hQ (some R) (λh=>by cases h))
def Xlw:Code->List (Array Nat×Code×Code)
 |.loop b=>Xlw b
 |.seq a b=>Xlw a++Xlw b
 |.block _ c=>Xlw c
 |.scope c=>Xlw c
 |.cond _ a b=>Xlw a++Xlw b
 |.rangeFunc _ ps a b=>(ps,a,b)::(Xlw a++Xlw b)
 |_=>[]
def rfB (i:Nat) (c:Code):Array Nat×Code×Code:=((Xlw c)[i]?).getD (#[],.skip,.skip)
def Xm3 (slots:List Nat) (L:List (Nat×AV)):List (Nat×AV):=slots.map λt=>(t,fr L t)
theorem Xst (L:List (Nat×AV)):∀ (slots:List Nat) (t:Nat),fr (Xm3 slots L) t=fr L t\/fr (Xm3 slots L) t=.junk:=by
 intro slots
 induction slots with
 |nil=>intro t;exact .inr rfl
 |cons q r ih =>
  intro t;show fr ((q,fr L q)::Xm3 r L) t=_\/fr ((q,fr L q)::Xm3 r L) t=_;simp only[fr]
  cases hb:Nat.beq t q with
  |true=>simp_all
  |false=>exact ih t
theorem X9.keepL {P:Program} {nt n0 n:Nat} {Q:Xp->St->Mu->Prop} {cf:Cf} {K:List Kn} {L:List (Nat×AV)} {G:List (Nat×Obj)} {μ:Mu} (slots:List Nat) (h:X9 P nt n0 Q cf K ⟨fr (Xm3 slots L),hp G,n⟩ μ):X9 P nt n0 Q cf K ⟨fr L,hp G,n⟩ μ:=by
 refine X9.sub (s':=⟨fr (Xm3 slots L),hp G,n⟩) (λc0 H0 c act μ g hm=>⟨⟨g.inv,g.solo,λt=>?_,λt=>?_,g.size,g.reach,g.le0⟩,hm⟩) h
 ·rcases Xst L slots t with h|h
  ·show X0m c false (fr (Xm3 slots L) t) _;rw[h];exact g.frame t
  ·show X0m c false (fr (Xm3 slots L) t) _;rw[h];exact .junk
 ·rcases Xst L slots t with h|h
  ·show(fr (Xm3 slots L) t).Ok _;rw[h];exact g.ok t
  ·show(fr (Xm3 slots L) t).Ok _;rw[h];exact .junk
def rfQ (P:Program) (nt n0:Nat) (Q:Xp->St->Mu->Prop) (K:List Kn) (L:List (Nat×AV)) (μ:Mu) (D:Nat) (μi:Mu):Xp->St->Mu->Prop :=
 λe s μ'=>(∀ id,e≠.exit id)/\μ'=μi/\X9 P nt n0 Q (.exit .normal) K ⟨fr L,s.H,s.n⟩ ((D,.mark)::μ)
theorem X9.rfEnd {P:Program} {nt n0 nt' n1:Nat} {Q:Xp->St->Mu->Prop} {K:List Kn} {L L1:List (Nat×AV)} {μ μi:Mu} {D:Nat} {G:List (Nat×Obj)} {n:Nat} {e:Xp} (he:∀ id,e≠.exit id)
  (h:X9 P nt n0 Q (.exit .normal) K ⟨fr L,hp G,n⟩ ((D,.mark)::μ)):X9 P nt' n1 (rfQ P nt n0 Q K L μ D μi) (.exit e) [] ⟨fr L1,hp G,n⟩ μi :=
 Cl.mk ⟨he,rfl,h⟩
theorem X38.alloc {nt n0:Nat} {c0 c:Ctx} {H0:Xz} {s:St} {act:Act} (o:Go.Obj) (g:X38 nt c0 H0 n0 c s act):X38 nt c0 H0 n0 { c with w:=c.w.alloc o } s act:=by
 obtain⟨h1,h2,h3⟩:=g.inv.waste (w':=c.w.alloc o) o rfl rfl rfl ⟨rfl,Nat.le_refl _⟩;have:=g.next (c':={ c with w:=c.w.alloc o }) (dst:=none) (a:=.sc undef) (v:=undef) (λd h=>by cases h) h1 rfl (λb hb=>.inl hb) h3 (λq x hx=>.inr ⟨q,x,hx,rfl⟩) h2 g.solo (Nat.le_refl _) .sc .sc;exact this
theorem X9.rangeFunc {P:Program} {nt n0 n gf nti:Nat} {Q:Xp->St->Mu->Prop} {K:List Kn} {L:List (Nat×AV)} {G:List (Nat×Obj)} {μ:Mu} {g:Operand} {ps:Array Nat} {assign body codeI:Code} {fnI:Func} {caps:List AV} {q:List Prop}
  (hg:rd L g=(.fn gf caps,q)) (hq:X4u q) (hfn:Xmg P gf fnI codeI) (hnt:fnI.ntmps=nti) (hle:Nat.ble (caps.length+1) nti=true) (hres:fnI.results=#[])
  (h:∀ (b D:Nat) (r:Loop),r.state=.ready->r.pending=none->r.params=ps->r.assign=assign->r.body=body ->
   X9 P nti n (rfQ P nt n0 Q K L μ D [(b,.loop r nt n (fr L)),(D,.blk (.deferred (some [])))]) (.code codeI) [] ⟨fr (argL 0 (.sc (.func (.yield b) #[] #[])::caps)),hp G,n⟩ [(b,.loop r nt n (fr L)),(D,.blk (.deferred (some [])))]) :
  X9 P nt n0 Q (.code (.rangeFunc g ps assign body)) K ⟨fr L,hp G,n⟩ μ:=by
 intro c0 H0 c act gd hm R hR;obtain rfl:=hR rfl;have hv:=gd.ev g;rw[show evA (St.A ⟨fr L,hp G,n⟩) g=_ from X13 hg hq] at hv;have hvo:=gd.evOk g;rw[show evA (St.A ⟨fr L,hp G,n⟩) g=_ from X13 hg hq] at hvo;obtain⟨cv,hcv,hcl,hcr⟩:=hv.fn_inv;refine wpIn_rangeFunc ?_;intro fn _;let D:=c.w.heap.size
 let b:=c.w.heap.size+1
 let rec0:Loop:={ state:=.ready,pending:=none,fn,tmps:=act.tmps,params:=ps,assign,body,defers:=c.w.heap.size }
 let W1:World:=(c.w.alloc (.deferred (some []))).alloc (.loop rec0)
 let c1:Ctx:={ c with w:=W1 }
 have hL1:W1.heap[b]?=some (.loop rec0):=by
  grind [World.alloc_heap_new,World.size_alloc]
 have hK1:W1.heap[D]?=some (.deferred (some [])):=(RowKit.Below.heap_alloc _ _ _ (by simp[D])).trans (World.alloc_heap_new c.w _);have hs1:W1.heap.size=c.w.heap.size+2:=by simp[W1]
 have g1:X38 nt c (hp G) n0 c1 ⟨fr L,hp G,n⟩ act:=(gd.rebase.alloc (.deferred (some []))).alloc (.loop rec0);have hold:∀ k,k<c.w.heap.size->W1.heap[k]?=c.w.heap[k]?:=λk hk=>(RowKit.Below.heap_alloc _ _ _ (by simp;omega)).trans (RowKit.Below.heap_alloc _ _ _ hk);have r1:Reach c (hp G) n c1 (hp G):=⟨λ_ _=>rfl,rfl,rfl,⟨rfl,Nat.le_refl _⟩,by grind,λk hk _=>hold k hk,λk hk=>hold k (gd.inv.lt k hk),rfl,λ_ h=>h,λ_ h=>.inl h,rfl,λo x hx=>.inr ⟨o,x,hx,rfl⟩⟩;have hob:∀ o x,hp G o=some x->(c.ρ o).blk<c.w.heap.size:=λo x hx=>by
  obtain⟨_,⟨⟨cur,hcb,_⟩,_⟩,_⟩:=gd.inv.obj o x hx
  grind
 let vs:Array Value:=#[.func (.yield b) #[] #[]]++cv
 have hvs:vs.size=caps.length+1:=by grind
 have gI:X38 nti c (hp G) n c1 ⟨fr (argL 0 (.sc (.func (.yield b) #[] #[])::caps)),hp G,n⟩ { tmps:=vs++Array.replicate (fnI.ntmps - vs.size) undef,defers:=[] }:=by
  have hrel:Xbr c1 false (.sc (.func (.yield b) #[] #[])::caps) vs:=by
   refine⟨by grind,λi a v ha hv=>?_⟩
   cases i with
   |zero =>
    have hv':vs[0]?=some (.func (.yield b) #[] #[]):=by grind
    rw[hv'] at hv;simp only[List.getElem?_cons_zero,Option.some.injEq] at ha hv;subst ha hv;exact .sc
   |succ i =>
    have hv':cv[i]?=some v:=by
     grind
    simp only[List.getElem?_cons_succ] at ha;refine(hcr i a v ha hv').mono r1.le (.inr ?_)
    cases hvo with|fn hvo=>grind
  have hok:∀ a∈(.sc (.func (.yield b) #[] #[])::caps:List AV),a.Ok (·<n):=by
   intro a ha;rcases List.mem_cons.1 ha with rfl|ha
   ·exact .sc
   ·cases hvo with|fn hvo=>grind
  have:X38 nti c (hp G) n c1 ⟨Xjl (.sc (.func (.yield b) #[] #[])::caps),hp G,n⟩ { tmps:=vs++Array.replicate (fnI.ntmps - vs.size) undef,defers:=[] } :=
   ⟨g1.inv,g1.solo,λt=>Xbl hrel _ t,λt=>Xll hok t,by simp_all,r1,Nat.le_refl _⟩
  exact this.argL
 have mI:MOk n c (hp G) c1 (hp G) [(b,.loop rec0 nt n (fr L)),(D,.blk (.deferred (some [])))] { tmps:=vs++Array.replicate (fnI.ntmps - vs.size) undef,defers:=[] }:=by
  refine⟨λp hp=>?_,λp hp=>?_,by simp[b,D],rfl⟩
  ·simp only[List.mem_cons,List.not_mem_nil,or_false] at hp;rcases hp with rfl|rfl
   ·exact⟨⟨hL1,gd.size⟩,Nat.le_refl _,λt=>gd.ok t,λt=>g1.frame t⟩
   ·exact hK1
  ·simp only[List.mem_cons,List.not_mem_nil,or_false] at hp;have key:∀ k,c.w.heap.size<=k->¬ c1.Sa k/\¬ c1.So k/\(∀ o x,Av.hp G o=some x->(c1.ρ o).blk≠k)/\NewB c (Av.hp G) k:=λk hk =>
    ⟨λhs=>by have:=gd.inv.lt k (.inl hs);omega,λhs=>by have:=gd.inv.lt k (.inr hs);omega,λo x hx e=>by grind,⟨Nat.le_trans gd.inv.base hk,.inl hk⟩⟩
   grind
 refine⟨b,[{ target:=.collected D,args:=#[] }],W1,{ target:=.fn (.func gf) cv,args:=#[.func (.yield b) #[] #[]] },W1,gf,vs,W1,run_enterLoop_outer _ _ _ _ _,?_,λ_ _=>trivial,?_,λh=>Bool.noConfusion h,?_⟩
 ·simp only[resolve,hcv];simp[go_sem]
 ·simp only[invoke,callFunc,Sem.run_bind,run_program,Result.andThen_ok,hfn.here,hfn.name,hfn.body,Option.isNone_some,Bool.false_eq_true,if_false];rfl
 refine callsIn_of_wp hfn.here hfn.body trivial ?_ rfl;refine wpIn_mono (X2i.ofCl (h b D rec0 rfl rfl rfl rfl rfl) c (hp G) c1 _ gI mI none .none) ?_;rintro e a w' ⟨c2,s2,ae,μ2,rfl,g2,hm2,rfl,hne,rfl,hk⟩;have hds:a.defers=[]:=hm2.ds;have fin:a.defers=[]/\∃ v,(results fnI a.tmps).run P c2.w=.ok v c2.w/\rangePost (FR none) 0 P b (MQ nt c0 H0 n0 (Xd2 P nt n0 Q K)) { act with defers:=[{ target:=.collected D,args:=#[] }]++act.defers } (.returned v) c2.w:=by
  obtain⟨⟨hrec,_⟩,_⟩:=hm2.is (b,.loop rec0 nt n (fr L)) (by simp);have hDk:c2.w.heap[D]?=some (.deferred (some [])):=hm2.is (D,.blk (.deferred (some []))) (by simp);obtain⟨x1,x2,x3,x4⟩:=hm2.away (b,.loop rec0 nt n (fr L)) (by simp);obtain⟨y1,y2,y3,y4⟩:=hm2.away (D,.blk (.deferred (some []))) (by simp);obtain⟨g3,hle3⟩:=g2.turn (.loop { rec0 with state:=.exhausted }) x1 x2 x3 x4;refine⟨hds,.tuple #[],by simp[results,hres,go_sem],?_⟩;refine⟨none,_,run_endLoop hrec (by simp[rec0]),?_⟩;have rt:=g3.reach;have gc:=gd.next (dst:=none) (a:=.sc undef) (v:=undef) (λd h=>by cases h) rt.le rt.sa rt.so2 rt.fr rt.own g3.inv g3.solo g3.le0 .sc .sc;have gc2:X38 nt c0 H0 n0 { c2 with w:=c2.w.putObj b (.loop { rec0 with state:=.exhausted }) } ⟨fr L,s2.H,s2.n⟩ { act with defers:=[{ target:=.collected D,args:=#[] }]++act.defers } :=
   ⟨gc.inv,gc.solo,gc.frame,gc.ok,gc.size,gc.reach,gc.le0⟩
  have hmk:=hm.kept (rt.weaken gd.le0) (act':=act) rfl;refine⟨_,⟨fr L,s2.H,s2.n⟩,.normal,(D,.mark)::μ,rfl,gc2,⟨λp hp=>?_,λp hp=>?_,?_,?_⟩,rfl,hk⟩
  ·rcases List.mem_cons.1 hp with rfl|hp
   ·exact(World.putObj_heap_other (by simp[b,D])).trans hDk
   ·exact hmk.is p hp
  ·rcases List.mem_cons.1 hp with rfl|hp
   ·exact⟨y1,y2,y3,⟨by rw[<-gd.reach.B];exact gd.inv.base,.inl gd.reach.size⟩⟩
   ·exact hmk.away p hp
  ·refine List.nodup_cons.2 ⟨λhmem=>?_,hm.nodup⟩;obtain⟨p,hp,he⟩:=List.mem_map.1 hmem;have:=(hm.is p hp).lt
   grind
  ·show[_]++act.defers=_::dsOf μ;rw[hm.ds];rfl
 cases ae with
 |exit id=>grind
 |normal=>exact fin
 |ret=>exact fin
end Go.Av


namespace Go.Av
variable [Gls]
def StTo (nt n0:Nat) (s s':St):Prop:=∀ (c0:Ctx) (H0:Xz) (c:Ctx) (act:Act) (μ:Mu),X38 nt c0 H0 n0 c s act->MOk n0 c0 H0 c s.H μ act->∃ c',c'.w=c.w/\X38 nt c0 H0 n0 c' s' act/\MOk n0 c0 H0 c' s'.H μ act
section
variable {P:Program} {nt n0:Nat} {s s':St} {Q:Xp->St->Mu->Prop} {μ:Mu}
theorem StTo.loop (hw:StTo nt n0 s s') {b:Code} (h:X6b P nt n0 b Q s' μ):X6b P nt n0 b Q s μ:=by
 intro c0 H0 c act g hm R hR;obtain⟨c',hc,g',hm'⟩:=hw c0 H0 c act μ g hm;have:=h c0 H0 c' act g' hm' R hR
 grind
theorem StTo.semM (hw:StTo nt n0 s s') {c:Code} (h:X2i P nt n0 c Q s' μ):X2i P nt n0 c Q s μ:=by
 intro c0 H0 c act g hm R hR;obtain⟨c',hc,g',hm'⟩:=hw c0 H0 c act μ g hm;have:=h c0 H0 c' act g' hm' R hR
 grind
end
end Go.Av


namespace Go.D
end Go.D
namespace Go.Av
variable [Gls]
open Go.D
class Xbs {α:Type} (f:α->AV):Prop where
 flat:∀ x,Xal (f x)
 whole:∀ x,(f x).whole=true
 still:∀ x,X4c (f x)
instance iInt {k:IntKind}:Xbs (aI k):=⟨λ_=>X7h,λ_=>rfl,λ_=>Xgy⟩
instance X0i6:Xbs aB:=⟨λ_=>X7h,λ_=>rfl,λ_=>Xgy⟩
class Xpd {α:Type} (g:Bool->α->AV):Prop where
 cva:∀ {H:Xz} {o:Bool} {x:α},Cv false H (g o x) (g false x)
 cvt:∀ {H:Xz} {o:Bool} {x:α},Cv true H (g o x) (g o x)
 len:∀ (o o':Bool) (x:α),(g o x).cells.length=(g o' x).cells.length
 free:∀ (o:Bool) (x:α),Xak (g o x)
 still:∀ (o:Bool) (x:α),X4c (g o x)
theorem cvLf {α:Type} {f:α->AV} [i:Xbs f] {H:Xz} {o:Bool} {l:List α}:Cv false H (.list o (l.map f)) (.list false (l.map f)):=X0z (Xr i.flat l)
theorem cvLg {α:Type} {g:Bool->α->AV} [i:Xpd g] {H:Xz} {o p:Bool} {l:List α}:Cv false H (.list o (l.map (g p))) (.list false (l.map (g false))) :=
 Xb4 (λx=>i.len _ _ x) (λ_=>X4n i.cva) l
theorem cvLe {α:Type} {f:α->AV} [i:Xbs f] {H:Xz} {o p:Bool} {l:List (List α)}:Cv false H (.list o (l.map (X82 p f))) (.list false (l.map (X82 false f))) :=
 Xb4 (f:=X82 p f) (g:=X82 false f) (λ_=>rfl) (λx=>X4n (show Cv false H (.list p (x.map f)) (.list false (x.map f)) from cvLf)) l
theorem cvRe {α:Type} {f:α->AV} [i:Xbs f] (p:Bool) {H:Xz} {o n:Nat} {x:Obj} {l:List (List α)} (hH:H o=some x) (he:x.es=l.map (X82 p f)) (hn:n=l.length):Cv false H (.ref o 0 n) (.list false (l.map (X82 false f))) :=
 Xsc (f:=X82 p f) (g:=X82 false f) hH he hn (λ_=>rfl) (λx=>X4n (show Cv false H (.list p (x.map f)) (.list false (x.map f)) from cvLf))
theorem cvR {α:Type} {f:α->AV} [i:Xbs f] {m:Bool} {H:Xz} {o n:Nat} {x:Obj} {l:List α} (hH:H o=some x) (he:x.es=l.map f) (hn:n=(l.map f).length):Cv m H (.ref o 0 n) (.list m (l.map f)) :=
 X0ca hH he hn (Xr i.flat l)
theorem cvRt {α:Type} {g:Bool->α->AV} [i:Xpd g] {H:Xz} {o n:Nat} {x:Obj} {l:List α} (hH:H o=some x) (he:x.es=l.map (g true)) (hn:n=l.length):Cv true H (.ref o 0 n) (.list true (l.map (g true))) :=
 Xsc hH he hn (λ_=>rfl) (λ_=>Xyy i.cvt)
theorem X0g4 {α:Type} {f:α->AV} {m:Bool} {H:Xz} {l:List α} (h:l=[]):Cv m H .nils (.list m (l.map f)):=X086 (by rw[h];rfl)
theorem ownL {α:Type} {f:α->AV} [i:Xbs f] {l:List α}:Xlm (.list true (l.map f)):=X1a (Xr i.flat l)
def CvE (m:Bool) (H:Xz) (e e':AV):Prop:=e.cells.length=e'.cells.length/\∀ (k:Nat) a b,e.cells[k]?=some a->e'.cells[k]?=some b->Cv m H a b
def CvL (m:Bool) (H:Xz) (l l':List AV):Prop:=l.length=l'.length/\∀ (i:Nat) e e',l[i]?=some e->l'[i]?=some e'->CvE m H e e'
theorem CvL.nil {m:Bool} {H:Xz}:CvL m H [] []:=⟨rfl,λi e e' h=>by simp at h⟩
theorem CvL.cons {m:Bool} {H:Xz} {e e':AV} {l l':List AV} (h:CvE m H e e') (t:CvL m H l l'):CvL m H (e::l) (e'::l'):=by
 refine⟨by simp[t.1],λi a b ha hb=>?_⟩
 cases i with
 |zero=>grind
 |succ i=>simp at ha hb;exact t.2 i a b ha hb
theorem cvM {P:Prop} (h:P:=by
 repeat' first
  |exact Cvs.nil
  |refine Cvs.cons ?_ ?_
  |exact Cv.sc
  |exact Cv.fn0
  |exact Cv.listS rfl
  |exact cvLf
  |exact cvW
  |exact cvGt
  |exact cvG
  |exact cvLg
  |exact cvLe
  |refine X0c9 ?_
  |exact Cv.nils
  |exact X0g4 (by first|rfl|assumption|(simp;done)|(simp[*];done)|fail)
  |exact cvR rfl (by first|rfl|(simp;done)|(simp;rfl)|(simp[*];done)|(simp[*];rfl)|fail) (by first|rfl|(simp;done)|(simp;omega)|(simp[*];done)|(simp[*];omega)|fail)
  |exact cvRt rfl (by first|rfl|(simp;done)|(simp;rfl)|(simp[*];done)|fail) (by first|rfl|(simp;done)|(simp;omega)|(simp[*];done)|fail)
  |exact cvRw rfl (by first|rfl|(simp;done)|(simp;rfl)|(simp[*];done)|fail) (by first|rfl|(simp;done)|(simp;omega)|(simp[*];done)|fail)
  |exact cvRg true rfl (by first|rfl|(simp;done)|(simp;rfl)|(simp[*];done)|fail) (by first|rfl|(simp;done)|(simp;omega)|(simp[*];done)|fail)
  |exact cvRg false rfl (by first|rfl|(simp;done)|(simp;rfl)|(simp[*];done)|fail) (by first|rfl|(simp;done)|(simp;omega)|(simp[*];done)|fail)
  |exact cvRe true rfl (by first|rfl|(simp;done)|(simp;rfl)|(simp[*];done)|fail) (by first|rfl|(simp;done)|(simp;omega)|(simp[*];done)|fail)
  |exact cvRe false rfl (by first|rfl|(simp;done)|(simp;rfl)|(simp[*];done)|fail) (by first|rfl|(simp;done)|(simp;omega)|(simp[*];done)|fail)
  |exact cvRf rfl (by first|rfl|(simp;done)|(simp;rfl)|(simp[*];done)|fail) (by first|rfl|(simp;done)|(simp;omega)|(simp[*];done)|fail)
  |exact cvLq (by first|rfl|(simp;done)|(simp[*];done)|fail)
  |exact cv_leqS (by first|rfl|(simp;done)|(simp[*];done)|fail)
  |exact X04k (by first|rfl|(simp;done)|(simp[*];done)|fail)
  |refine X8u ?_
  |exact Cv.nils0
  |refine cv_refs rfl ?_ rfl
  |exact CvL.nil
  |refine CvL.cons ?_ ?_
  |refine cvE_agg ?_
  |refine cvE_one ?_ rfl rfl
  |refine Cv.ptrL rfl rfl rfl rfl (X4n ?_)
  |refine Cv.elemD rfl rfl (X4n ?_)
  |refine Cv.weak ?_
 first|done|fail):P:=h
theorem ownM {P:Prop} (h:P:=by
 repeat' first
  |exact .sc
  |exact ownL
  |exact ownW
  |refine Xmx ?_
  |refine Xg ?_ ?_
  |exact X3d
  |refine Xlm.agg ?_
 first|done|fail):P:=h
class PCs (P:Program) (f:Nat) (S:outParam Prop):Prop where
 ok:S
theorem pcN {P:Program} {f:Nat} {H:Xz} {as bs:List AV} {r:AV} {S:Prop} [i:PCs P f S] (k:S->X8t P f bs r) (hc:Cvs false (λ_=>none) as bs):X3m P f H as bs r:=.none (k i.ok) hc
theorem pcL {P:Program} {f:Nat} {H:Xz} {as bs:List AV} {r:AV} {S:Prop} [i:PCs P f S] (k:S->X8t P f bs r) (hc:Cvs false H as bs) (ho:Xlm r):X3m P f H as bs r:=.lent (k i.ok) hc ho
theorem pcM {P:Prop} (h:P:=by
 first
  |exact pcN (by intro K;apply K;assumption) cvM
  |exact pcL (by intro K;apply K;assumption) cvM ownM):P:=h
theorem fq {p:Prop} (h:p) {P:Prop} (k:p->P:=by first|exact id|exact X08j|exact absT|exact absN):P:=k h
theorem X0y {P:Prop} (h:P:=by
 repeat' first
  |refine And.intro ?_ ?_
  |exact trivial
  |exact pcM
  |exact oblA
 first|done|fail):P:=h
theorem X0e5 {cs:List AV} {M:Nat->Prop} (h:∀ a∈cs,a.Ok M):∀ e∈[AV.agg cs],∀ a∈e.cells,a.Ok M:=λe he=>by rw[List.mem_singleton.1 he];exact h
def X012 (f:Nat->Nat):List AV->List AV->Prop
 |[],[]=>True
 |a::r,b::s=>a=b.ren f/\X012 f r s
 |_,_=>False
theorem Xsq {f:Nat->Nat}:∀ {cs cs':List AV},X012 f cs cs'->cs=AV.rens f cs'
 |[],[],_=>rfl
 |a::r,b::s,h=>by
  show a::r=AV.ren f b::AV.rens f s;rw[<-h.1,<-Xsq h.2]
 |[],_::_,h=>h.elim
 |_::_,[],h=>h.elim
theorem aggV {f:Nat->Nat} {cs cs':List AV} (h:X012 f cs cs'):AV.agg cs=(AV.agg cs').ren f:=by rw[Xsq h];rfl
theorem aggR {f:Nat->Nat} {cs cs':List AV} (h:X012 f cs cs'):[AV.agg cs]=[AV.agg cs'].map (AV.ren f):=by rw[aggV h];rfl
theorem refR {f:Nat->Nat} {i j n m:Nat} (hi:j=f i) (h:n=m):AV.ref j 0 n=(AV.ref i 0 m).ren f:=by rw[hi,h];rfl
class TmD (P:Program) (T:outParam Ty):Prop where
 ok:X7a P T/\P.follows .mixedOrders=true
abbrev nbS {α:Type} {l:List α} (h:l=[]:=by first|rfl|simp[*]):Nb l:=nbT h
theorem okF {α:Type} {f:α->AV} [i:Xbs f] {x:α} {M:Nat->Prop}:(f x).Ok M:=(X73 (i.flat x) (i.whole x) M).1
theorem okG {α:Type} {g:Bool->α->AV} [i:Xpd g] {o:Bool} {x:α} {M:Nat->Prop}:(g o x).Ok M:=(i.free o x M).1
theorem okM {P:Prop} (h:P:=by
 repeat' first
  |exact X3d
  |refine Xg ?_ ?_
  |exact .sc
  |exact .list
  |exact Xwv
  |exact .elem
  |exact okF
  |exact okG
 first|done|fail):P:=h
theorem bI {α β:Type} {x:Option α} {f:α->Option β} {r:β} {G:Prop} (k:∀ v,x=some v->f v=some r->G):x.bind f=some r->G:=λh=>X08k h k
theorem brI {α:Type} {c:Bool} {a b:Option α} {r:α} {G:Prop} (h1:c=true->a=some r->G) (h2:c=false->b=some r->G):(bif c then a else b)=some r->G:=λh=>brE h h1 h2
theorem oj {α:Type} {a b:α} (h:some a=some b):a=b:=Option.some.inj h
theorem oj1 {α β:Type} {a c:α} {b d:β} (h:some (a,b)=some (c,d)):a=c:=by cases h;rfl
theorem oj2 {α β:Type} {a c:α} {b d:β} (h:some (a,b)=some (c,d)):b=d:=by cases h;rfl
theorem gJ {P:Program} {nt n0:Nat} {Q:Xp->St->Mu->Prop} {x:Xp} {K:List Kn} {μ:Mu} {s' s:St} (J:X9 P nt n0 Q (.exit x) K s' μ) (r:s'=s):X9 P nt n0 (Xd2 P nt n0 Q K) (.exit x) [] s μ:=r▸.glue J
def Lc (P:Program) (nt n0:Nat) (Q:Xp->St->Mu->Prop) (μ:Mu) {O:Type} (o:O) (out:O->Xp×St):Prop:=X9 P nt n0 Q (.exit (out o).1) [] (out o).2 μ
def Lq (P:Program) (nt n0:Nat) (Q:Xp->St->Mu->Prop) (μ:Mu) {O:Type} (o:O) (out:O->Xp×St) (b:Code) (s:St) (f:Option O):Prop:=Lc P nt n0 Q μ o out->f=some o->X9 P nt n0 Q (.loop b) [] s μ
theorem lE {P:Program} {nt n0:Nat} {Q:Xp->St->Mu->Prop} {μ:Mu} {O:Type} {a o:O} {out:O->Xp×St} {e:Xp} {s:St} (h:some a=some o) (C:Lc P nt n0 Q μ o out) (r:out a=(e,s)):X9 P nt n0 Q (.exit e) [] s μ:=by
 cases oj h;unfold Lc at C;rw[r] at C;exact C
theorem lG {P:Program} {nt n0:Nat} {Q:Xp->St->Mu->Prop} {μ:Mu} {K:List Kn} {O:Type} {a:O} {out:O->Xp×St} {e:Xp} {s:St} (r:out a=(e,s)) (h:X9 P nt n0 Q (.exit e) K s μ):Lc P nt n0 (Xd2 P nt n0 Q K) μ a out:=by
 unfold Lc;rw[r];exact X9.glue h
theorem lGI {A:Prop} {P:Program} {nt n0:Nat} {Q:Xp->St->Mu->Prop} {μ:Mu} {K:List Kn} {O:Type} {a:O} {out:O->Xp×St} {e:Xp} {s:St} (r:out a=(e,s)) (h:A->X9 P nt n0 Q (.exit e) K s μ):A->Lc P nt n0 (Xd2 P nt n0 Q K) μ a out:=λx=>lG r (h x)
theorem rdI {A:Prop} {P:Program} {nt n0:Nat} {μ:Mu} {Q:Xp->St->Mu->Prop} {b:Code} {K:List Kn} {s:St} (h:A->X9 P nt n0 Q (.code b) (.loop b::K) s μ):A->X9 P nt n0 Q (.loop b) K s μ:=λa=>.round (h a)
theorem jnI {A B:Prop} {P:Program} {nt n0:Nat} {Q:Xp->St->Mu->Prop} {cf:Cf} {K:List Kn} {μ:Mu} {s:St} (s':St) (b:B) (h1:A->X9 P nt n0 Q (.exit .normal) K s' μ)
  (h2:X9 P nt n0 Q (.exit .normal) K s' μ->B->X9 P nt n0 (Xd2 P nt n0 Q K) cf [] s μ):A->X9 P nt n0 Q cf K s μ:=λa=>.cut (h2 (h1 a) b)
def Dr {α:Type} (L:List α) (p:List α->Nat->Prop):Prop:=∀ xs k,L.drop k=xs->p xs k
theorem drA {α:Type} {L:List α} {p:List α->Nat->Prop} (h:Dr L p):p L 0:=h L 0 rfl
theorem drI {α:Type} {L:List α} {p:List α->Nat->Prop} (h0:∀ k,L.length<=k->decide ((k:Int)<(L.length:Int))=false->p [] k)
  (h1:∀ x xs k,k<L.length->L[k]?=some x->decide ((k:Int)<(L.length:Int))=true->p xs (k+1)->p (x::xs) k):Dr L p:=by
 intro xs
 induction xs with
 |nil=>intro k hx;exact h0 k (drop_nil hx) (decide_eq_false (by have:=drop_nil hx;omega))
 |cons x xs ih=>intro k hx;obtain⟨a,b,c⟩:=drop_cons hx;exact h1 x xs k a b (decide_eq_true om) (ih (k+1) c)
theorem X1j {P:Program} {T:Ty} {nt n0:Nat} {μ:Mu} {Q:Xp->St->Mu->Prop} {cf cf':Cf} {K K':List Kn} {L L':List (Nat×AV)} {G G':List (Nat×Obj)} {n n':Nat} {hs':List X4d} {ps':List Prop} [hT:TmD P T] (hs:List X4d)
  (k:X9 P nt n0 Q cf' K' ⟨fr L',hp G',n'⟩ μ) (h:Xb6 P T nt 4000 cf K L G n hs []=some (cf',K',L',G',n',hs',ps'):=by exact rfl) (o:X4u ps':=by exact X0y):X9 P nt n0 Q cf K ⟨fr L,hp G,n⟩ μ:=Xcu hT.ok 4000 hs h o k
theorem rnI {A:Prop} {P:Program} {T:Ty} {nt n0:Nat} {μ:Mu} {Q:Xp->St->Mu->Prop} {cf cf':Cf} {K K':List Kn} {L L':List (Nat×AV)} {G G':List (Nat×Obj)} {n n':Nat} {hs':List X4d} {ps':List Prop} [hT:TmD P T] (hs:List X4d)
  (k:A->X9 P nt n0 Q cf' K' ⟨fr L',hp G',n'⟩ μ) (h:Xb6 P T nt 4000 cf K L G n hs []=some (cf',K',L',G',n',hs',ps'):=by exact rfl) (o:X4u ps':=by exact X0y):A->X9 P nt n0 Q cf K ⟨fr L,hp G,n⟩ μ:=λa=>Xcu hT.ok 4000 hs h o (k a)
theorem rnK {A:Prop} {P:Program} {T:Ty} {nt n0:Nat} {μ:Mu} {Q:Xp->St->Mu->Prop} {cf cf':Cf} {K K':List Kn} {L L':List (Nat×AV)} {G G':List (Nat×Obj)} {n n':Nat} {hs':List X4d} {ps':List Prop} [hT:TmD P T] (hs:List X4d)
  (h:Xb6 P T nt 4000 cf K L G n hs []=some (cf',K',L',G',n',hs',ps'):=by exact rfl) (o:X4u ps':=by exact X0y) (k:A->X9 P nt n0 Q cf' K' ⟨fr L',hp G',n'⟩ μ):A->X9 P nt n0 Q cf K ⟨fr L,hp G,n⟩ μ:=λa=>Xcu hT.ok 4000 hs h o (k a)
theorem X8 {P:Program} {T:Ty} {nt n0:Nat} {μ:Mu} {Q:Xp->St->Mu->Prop} {cf cf':Cf} {K K':List Kn} {L L':List (Nat×AV)} {G G':List (Nat×Obj)} {n n':Nat} {hs':List X4d} {ps':List Prop} [hT:TmD P T] (hs:List X4d)
  (h:Xb6 P T nt 4000 cf K L G n hs []=some (cf',K',L',G',n',hs',ps'):=by exact rfl) (o:X4u ps':=by exact X0y) (k:X9 P nt n0 Q cf' K' ⟨fr L',hp G',n'⟩ μ):X9 P nt n0 Q cf K ⟨fr L,hp G,n⟩ μ:=Xcu hT.ok 4000 hs h o k
theorem psI {A:Prop} {P:Program} {T:Ty} {f:Nat} {fn:Func} {code:Code} {as:List AV} {r:AV} [hT:TmD P T] (hfn:Xmg P f fn code) (nt:Nat) (k:A->X9 P nt 0 (Xwr T fn r) (.code code) [] ⟨fr (argL 0 as),hp [],0⟩ [])
  (h1:fn.ntmps=nt:=by rfl) (h2:Nat.ble as.length nt=true:=by rfl) (h3:∀ a∈as,a.Ok (·<0):=by exact okM):A->X8t P f as r:=λa=>.sym hT.ok.1 hfn h1 h2 (k a) h3
theorem fi {P:Program} {T:Ty} {nt n0:Nat} {fn:Func} {r:AV} {L:List (Nat×AV)} {G:List (Nat×Obj)} {n:Nat} {μ:Mu} {rs:List AV} (hr:Xzn T L G fn.results.toList=some rs:=by exact rfl) (hc:Cv true (hp G) (Xei rs) r:=by exact cvM):X9 P nt n0 (Xwr T fn r) (.exit .ret) [] ⟨fr L,hp G,n⟩ μ:=Xs4 hr hc
end Go.Av


namespace Go.Av
variable [Gls]
theorem X9.copyS {P:Program} {T:Ty} {nt n0:Nat} {Q:Xp->St->Mu->Prop} {ops:Array Oper} {l:List Oper} {o:Oper} {K:List Kn} {L:List (Nat×AV)} {G:List (Nat×Obj)} {n:Nat} {μ:Mu} {d x:Operand} {t t' q off len et:Nat} {y:Obj} {xa:AV} {xs:List AV} {te ti:TI} {qd qx:List Prop}
  (es':List AV) (m:Nat) (hT:X7a P T) (ho:o.op=.call { callee:=.builtin .copy,args:=#[d,x],argTypes:=#[t,t'] }) (hg:o.guard=none) (hdst:Xen nt o.dst=true) (hd:rd L d=(.ref q off len,qd)) (hqd:X4u qd) (hH:hp G q=some y) (hle:Nat.ble (off+len) y.es.length=true)
  (hx:rd L x=(xa,qx)) (hqx:X4u qx) (hsrc:Xnb (hp G) xa xs) (hm:min xs.length len=m) (hn0:Nat.ble 1 m=true) (ht:T t=some ti) (hk:ti.kind=.slice et) (hte:T et=some te) (hsz:(xs.all λe=>Nat.beq e.cells.length te.size)=true) (hes:y.esz=te.size)
  (hsp:splice y.es off (xs.take m)=es')
  (h:X9 P nt n0 Q (.ops ops l) K ⟨fr (putO o.dst (.sc (.int .i64 m)) L),hp ((q,{ y with es:=es' })::G),n⟩ μ):X9 P nt n0 Q (.ops ops (o::l)) K ⟨fr L,hp G,n⟩ μ:=by
 subst hm hsp;refine X2m.plain (s:=⟨fr L,hp G,n⟩) hg (X5n hdst) (OpR.copy (s:=⟨fr L,hp G,n⟩) hT ho (X13 hd hqd) hH (by simpa using hle) (by rw[show evA (St.A ⟨fr L,hp G,n⟩) x=_ from X13 hx hqx];exact hsrc) (by simp at hn0;omega) ht hk hte (λe he=>by
  have:=List.all_eq_true.1 hsz e he;simpa using this) hes) ?_
 rintro _ _ _ ⟨rfl,rfl,rfl⟩;rw[X6v] at h;have e:goInt (min (xs.length:Int) (len:Int))=.int .i64 ((min xs.length len:Nat):Int):=by unfold goInt;congr 1;omega
 rw[e];have hgn:=Xhj hH;rw[Xfl] at h
 ·exact h
 ·exact hgn
end Go.Av


namespace Go.Av
variable [Gls]
open Go
def Xia (o:Oper):Oper:={ o with after:=o.after.push { on:=0,ground:=.data } }
def X1c (ops:Array Oper) (c:Nat):Array Oper:=ops.modify c Xia
theorem Xdb (o:Oper):∀ j,j∈X8e (Xia o)↔j∈X8e o\/j=0:=by
 intro j;simp only[X8e,Xia,Array.toList_push,List.filter_append,List.map_append,List.mem_append];constructor
 ·grind
 ·rintro(h|rfl)
  ·exact .inl h
  ·right;trivial
section
variable {P:Program} {ops:Array Oper} {Q:Exit->Act->World->Prop}
theorem Oper.wp_put {o:Oper} {a a2:Act} {w:World} {K K2:Act->World->Prop} (hQ:(∀ ch a w,¬ Q (.panic ch) a w)/\∀ a w,¬ Q .outgrown a w) (he:execOp a2.eval o=execOp a.eval o) (hr:∀ n w',(execOp a.eval o).run P w=.ok n w'->∃ v,n=.value v) (hK:∀ v w',K (a2.put o.dst v) w'->K2 (a.put o.dst v) w')
  (hh:o.wp P a2 w K Q):o.wp P a w K2 Q:=by
 unfold Oper.wp at *;rw[he] at hh;generalize (execOp a.eval o).run P w=r at *
 cases r with
 |ok n w' =>
  obtain⟨v,rfl⟩:=hr n w' rfl;simp only[Oper.upon] at hh ⊢;exact hK _ _ hh
 |halt x w'=>cases x<;>simp only[Oper.upon] at hh ⊢<;>first|exact hh|exact absurd hh (hQ.1 _ _ _)|exact absurd hh (hQ.2 _ _)
theorem Xpr {o:Oper} {a:Act} {w:World} {K:Act->World->Prop} (h:(Xia o).wp P a w K Q):o.wp P a w K Q:=h
theorem Xnm {i:Nat} {o:Oper} {K:Act->World->Prop} {a:Act} {w:World} (hQ:(∀ ch a w,¬ Q (.panic ch) a w)/\∀ a w,¬ Q .outgrown a w) (ho:ops[i]?=some o) (hg:o.guard=none) (h:wpOp P ops Q i K a w):o.wp P a w K Q:=by
 unfold wpOp at h;rw[ho] at h;simp only at h;rw[if_pos (by simp[Region.wanted,hg])] at h;rcases h with h|⟨_,a0,w0,h⟩
 ·exact h
 ·exact absurd h (hQ.2 _ _)
theorem Xnn {i:Nat} {o:Oper} {K:Act->World->Prop} {a:Act} {w:World} (ho:ops[i]?=some o) (hg:o.guard=none) (h:o.wp P a w K Q):wpOp P ops Q i K a w:=by
 simp_all [wpOp,if_pos,Region.wanted]
theorem Xgn {c:Nat} {oc:Oper} (hc:ops[c]?=some oc) (i:Nat):(X1c ops c)[i]?=if i=c then some (Xia oc) else ops[i]?:=by
 unfold X1c
 grind
theorem X08t (a:Act) {d d':Nat} (v v':Value) (h:d≠d'):(a.put (some d) v).put (some d') v'=(a.put (some d') v').put (some d) v:=by
 grind [Act.put,Array.setIfInBounds_comm]
theorem Xre {c d0 dc src:Nat} {o0 oc:Oper} (hQ:(∀ ch a w,¬ Q (.panic ch) a w)/\∀ a w,¬ Q .outgrown a w) (hpre:X7g 0 ops.toList=true)
  (h0:ops[0]?=some o0) (hop:o0.op=.move (.tmp src)) (hg0:o0.guard=none) (hd0:o0.dst=some d0) (hp0:X8e o0=[]) (hc:ops[c]?=some oc) (hc0:c≠0) (hgc:oc.guard=none) (hdc:oc.dst=some dc) (hne:dc≠d0) (hns:dc≠src)
  (hg:∀ (i:Nat) (o:Oper),ops[i]?=some o->o.guard=none) (hres:∀ (a:Act) w n w',(execOp a.eval oc).run P w=.ok n w'->∃ v,n=.value v)
  (hex:∀ (a:Act) v,execOp (a.put (some d0) v).eval oc=execOp a.eval oc)
  (hall:∀ i,i<ops.size->i≠0->i≠c->((X1h ops.toList).getD c 0).testBit i=true\/((X1h ops.toList).getD i 0).testBit 0=true) :
  ∀ (f:Nat) (L:Array Bool) (a:Act) (w:World),L.size=ops.size->Xfp ops L->wpAny P .any (X1c ops c) Q f L a w->wpAny P .any ops Q f L a w:=by
 have hsz':(X1c ops c).size=ops.size:=by simp[X1c]
 have hlt0:0<ops.size:=(Array.getElem?_eq_some_iff.1 h0).1;have hltc:c<ops.size:=(Array.getElem?_eq_some_iff.1 hc).1;have h0':(X1c ops c)[0]?=some o0:=by rw[Xgn hc,if_neg (Ne.symm hc0)];exact h0
 have hc':(X1c ops c)[c]?=some (Xia oc):=by rw[Xgn hc,if_pos rfl]
 have rd:∀ (L:Array Bool) i,L.size=ops.size->i∈Region.ready .any ops L->(i=c->L.getD 0 false=true)->i∈Region.ready .any (X1c ops c) L:=by
  intro L i hL hi hic;have hio:=(X1t.1 hi).1;have ho:ops.toList[i]?=some ops[i]:=by simp[hio]
  have hnl:L.getD i false=false:=by
   grind [X1t,Array.getD_eq_getD_getElem?,Array.getElem?_eq_getElem]
  have hp:=X6u hi ho;by_cases h:i=c
  ·grind [X5w,Xia,Xdb,Array.getElem?_eq_getElem,Option.some.inj]
  ·refine X5w (o:=ops[i]) om ?_ hnl hp;have:=Xgn hc i
   grind
 have rd0:∀ (L:Array Bool),L.size=ops.size->L.getD 0 false=false->0∈Region.ready .any ops L/\0∈Region.ready .any (X1c ops c) L:=by
  grind [Region.ready,X5w,absurd]
 have hmove:∀ (a:Act) (w:World),(execOp a.eval o0).run P w=.ok (.value (a.eval (.tmp src))) w:=by
  simp_all [guard,execOp]
 have mv:∀ (opsx:Array Oper) (K:Act->World->Prop) (a:Act) (w:World),opsx[0]?=some o0->(wpOp P opsx Q 0 K a w↔K (a.put (some d0) (a.eval (.tmp src))) w):=by
  intro opsx K a w hx;constructor
  ·intro h;have h1:=Xnm hQ hx hg0 h;unfold Oper.wp at h1;rw[hmove] at h1;have h2:K (a.put o0.dst (a.eval (.tmp src))) w:=h1
   grind
  ·intro h;refine Xnn hx hg0 ?_;unfold Oper.wp;rw[hmove];show K (a.put o0.dst (a.eval (.tmp src))) w
   grind
 have hcl:∀ (L:Array Bool) i,L.size=ops.size->Xfp ops L->i∈Region.ready .any ops L->Xfp ops (L.setIfInBounds i true):=by
  intro L i hL hC hi k o ho hk q hq;have hio:=(X1t.1 hi).1;rw[X4j om] at hk ⊢;rcases Bool.or_eq_true_iff.1 hk with hk|hk
  ·rw[hC k o ho hk q hq];rfl
  ·have:k=i:=by simp_all
   grind [X6u]
 intro f
 induction f using Nat.strongRecOn with
 |_ f ih =>
  intro L a w hL hC h
  cases f with
  |zero =>
   obtain⟨h1,h2⟩:=h;refine⟨?_,h2⟩;rw[List.eq_nil_iff_forall_not_mem]
   grind
  |succ f =>
   obtain⟨h1,h2⟩:=h;refine⟨λhr=>h1 ?_,λi hi=>?_⟩
   ·rw[List.eq_nil_iff_forall_not_mem];intro i hi;have hio:=(X1t.1 hi).1;have hnl:L.getD i false=false:=by
     grind [X1t,Array.getD_eq_getD_getElem?,Array.getElem?_eq_getElem]
    have:i∈Region.ready .any ops L:=by
     by_cases hic:i=c
     ·grind [X5w,X6u,Xdb]
     ·have hx:=Xgn hc i;rw[if_neg hic] at hx
      grind [X5w,X6u]
    grind
   ·have hio:=(X1t.1 hi).1;by_cases hs:i=c/\L.getD 0 false=false
    ·obtain⟨rfl,hl0⟩:=hs;obtain⟨_,r0⟩:=rd0 L hL hl0;have s1:=(mv _ _ a w h0').1 (h2 0 r0);have hL0:(L.setIfInBounds 0 true).size=ops.size:=by grind
     have hi0:i∈Region.ready .any (X1c ops i) (L.setIfInBounds 0 true):=by
      have ho:ops.toList[i]?=some oc:=by grind
      refine X5w (o:=Xia oc) om (by grind) ?_ λj hj=>?_
      ·rw[X4j om];have h3:=(X1t.1 hi).2.1;have hil:i<L.size:=by omega
       simp only[Array.getD_eq_getD_getElem?,Array.getElem?_eq_getElem hil,Option.getD_some] at h3 ⊢;have hb:Nat.beq i 0=false:=by rw[<-Bool.not_eq_true,Nat.beq_eq];exact hc0
       grind
      ·rw[X4j om];rcases(Xdb oc j).1 hj with h3|rfl
       ·rw[X6u hi ho j h3];rfl
       ·simp
     cases f with
     |zero=>exact absurd hi0 (by rw[s1.1];grind)
     |succ f =>
      have s2:=Xnm hQ hc' (by exact hgc) (s1.2 i hi0);refine Xnn hc hgc (Oper.wp_put hQ (a2:=a.put (some d0) (a.eval (.tmp src))) (hex _ _) (hres a w) (λv w' hk=>?_) (Xpr s2));rw[hdc] at hk ⊢;have hLi:(L.setIfInBounds i true).size=ops.size:=by grind
      have hCi:=hcl L i hL hC hi;have hl0i:(L.setIfInBounds i true).getD 0 false=false:=by
       simp_all
      refine⟨λhr=>(by grind),λk hk2=>?_⟩;have hk0:k=0:=by
       refine Classical.byContradiction λhk0=>?_;have hks:=(X1t.1 hk2).1;have hki:k≠i:=by
        rintro rfl
        simp_all [X1t,Array.getD_eq_getD_getElem?]
       rcases hall k hks hk0 hki with h3|h3
       ·have h4:=Xg8 hpre hC hi h3;have h5:=(X1t.1 hk2).2.1;have hkl:k<L.size:=by omega
        rw[Array.getD_eq_getD_getElem?,Array.getElem?_setIfInBounds_ne (λe=>hki e.symm),Array.getElem?_eq_getElem hkl] at h5
        simp_all
       grind [Xg8]
      subst hk0;refine(mv _ _ _ _ h0).2 ?_;have hev:(a.put (some dc) v).eval (.tmp src)=a.eval (.tmp src):=by
       simp[Act.put,Act.eval,Array.getD_eq_getD_getElem?,Array.getElem?_setIfInBounds_ne hns]
      grind [X08t,Array.setIfInBounds_comm]
    ·have hr':=rd L i hL hi (λe=>by
      grind)
     have h3:=h2 i hr';have hgo:ops[i].guard=none:=hg i _ (by simp[hio]);have hLi:(L.setIfInBounds i true).size=ops.size:=by grind
     have hio':ops[i]?=some ops[i]:=by simp[hio]
     by_cases hic:i=c
     ·subst hic;have hoc:ops[i]=oc:=by grind
      refine Xnn hc hgc (Oper.wp_mono (λv w' hk=>ih f om _ _ _ hLi (hcl L i hL hC hi) hk) (Xpr (Xnm hQ hc' (by exact hgc) h3)))
     ·have hx:=Xgn hc i;rw[if_neg hic,hio'] at hx
      grind [Xnn,Oper.wp_mono,Xnm]
end
theorem X0gk {nt n0:Nat} {c0:Ctx} {H0:Xz} {Q:Xp->St->Mu->Prop}:(∀ ch a w,¬ MQ nt c0 H0 n0 Q (.panic ch) a w)/\∀ a w,¬ MQ nt c0 H0 n0 Q .outgrown a w:=by
 constructor
 ·rintro ch a w ⟨c,s,ae,μ,_,_,_,h,_⟩;cases ae<;>cases h
 ·rintro a w ⟨c,s,ae,μ,_,_,_,h,_⟩;cases ae<;>cases h
theorem X08p {P:Program} {T:Ty} {nt n0 j n:Nat} {ops:Array Oper} {L L':List (Nat×AV)} {G G':List (Nat×Obj)} {Q:Xp->St->Mu->Prop} {μ:Mu} (hT:X7a P T/\P.follows .mixedOrders=true) (hpre:X7g 0 ops.toList=true)
  (hjl:Nat.ble j ops.size=true) (hbar:Xva j ops.toList=true) (hgd:Xjf (ops.toList.take j)=true) (hs:List X4d) {hs':List X4d} {ps':List Prop}
  (h:Xlf hz0 P T nt n ⟨ops.toList.take j⟩ (X1h (ops.toList.take j)) ((X1h (ops.toList.take j)).zip ((ops.toList.take j).map hz0)) 0 (ops.toList.take j) L G [] hs []=some (L',G',hs',ps')) (hp':X4u ps')
  (k:X2m P nt n0 ops (ops.toList.drop j) (λs μ=>Q .normal s μ) ⟨fr L',hp G',n+j⟩ μ) (hμ:Xi1 μ=true):∀ (c0:Ctx) (HH:Xz) (c:Ctx) (act:Act),X38 nt c0 HH n0 c ⟨fr L,hp G,n⟩ act->MOk n0 c0 HH c (hp G) μ act->wpAny P .any ops (MQ nt c0 HH n0 Q) ops.size (Array.replicate ops.size false) act { c.w with drawn:=c.w.drawn+1 }:=by
 have hjl':j<=ops.size:=by simp_all
 obtain⟨_,hrun⟩:=Xto _ _ _ _ _ _ _ _ _ _ _ h hp';obtain⟨rs,hall,hA,hH⟩:=hrun.all (fr L) (hp G) [] (Nat.zero_le _) rfl rfl rfl rfl rfl (λk o r _ hr=>by simp at hr);have hpl:X7g 0 (ops.toList.take j)=true:=by
  have key:∀ (l:List Oper) (i k:Nat),X7g i l=true->X7g i (l.take k)=true:=by
   intro l
   induction l with
   |nil=>grind
   |cons a l ih =>
    intro i k h
    cases k with
    |zero=>rfl
    |succ k =>
     simp_all [X7g,Bool.and_eq_true,List.take_succ_cons]
  grind
 have hlenp:(ops.toList.take j).length=j:=by grind
 intro c0 HH c act g0 hm;have g:=g0.rebase.drew;have hz:∀ m k,(Array.replicate m false).getD k false=false:=by
  intro m k;simp only[Array.getD_eq_getD_getElem?,Array.getElem?_replicate];split<;>rfl
 have hfn:∀ m,(λk=>(Array.replicate m false).getD k false)=(λ_=>false):=λm=>funext (hz m);have hM:∀ q,q<n->AtS n (λ_=>false) q:=λq h=>.inl h;have hdg:=Xp3 (n0:=n0) (Q:=λe s=>e=.normal/\s=⟨fr L',hp G',n+j⟩) hT.1 (ops:=⟨ops.toList.take j⟩) hpl hall ⟨rfl,by grind⟩ (c0:=c) (HH:=hp G) g.le0 j (Array.replicate j false) (List.range j)
  { c with w:={ c.w with drawn:=c.w.drawn+1 } } act (by simp[hlenp]) (by simp) (λk hk _=>List.mem_range.2 (by grind)) (λi o _ h=>by grind) (by
   rw[hfn,X7w,X7w];exact⟨g.inv.more hM,g.solo,g.frame,λt=>(g.ok t).mono hM,g.size,g.reach,λq hq=>hM q (Nat.lt_of_lt_of_le hq g.le0)⟩) rfl
 have:=Xvv (Q:=MQ nt c0 HH n0 Q) (pre:=⟨ops.toList.take j⟩) (R:=CQ nt c (hp G) n0 act.defers (λe s=>e=.normal/\s=⟨fr L',hp G',n+j⟩)) (j:=j) rfl hjl' hpre hbar hgd
  (by rintro e a w hne ⟨c',s',ae,_,_,_,rfl,rfl,_⟩;trivial) (ops.size - j) (by
   rintro listed a w hsz hl ⟨c',s',ae,rfl,g',hd',_,rfl,rfl⟩;refine Xvu hpre hbar (ops.size - j) j listed a c'.w hsz (Nat.le_refl _) om hl ?_;exact k c0 HH c' a (.join g0.reach g') (hm.kept g'.reach hd') _ (λc2 s2 a2 μ2 g2 hm2 hq=>⟨c2,s2,.normal,μ2,rfl,g2,hm2,rfl,hq⟩) none (λ_=>hμ))
  j (Array.replicate j false) (Array.replicate ops.size false) act { c.w with drawn:=c.w.drawn+1 } (by simp[hlenp]) (by simp) (λk=>by grind) (λi o _ h=>by grind) hdg
 grind
theorem X2i.drawnCutF {P:Program} {T:Ty} {nt n0 id j n:Nat} {ops0:Array Oper} {L L':List (Nat×AV)} {G G':List (Nat×Obj)} {Q:Xp->St->Mu->Prop} {μ:Mu} (hT:X7a P T/\P.follows .mixedOrders=true)
  {d0 dc src x y:Nat} {o0 oc:Oper} {ts:Array TypeId} (hpre0:X7g 0 ops0.toList=true) (h0:ops0[0]?=some o0) (hop:o0.op=.move (.tmp src)) (hg0:o0.guard=none) (hd0:o0.dst=some d0) (hp0:X8e o0=[])
  (hc:ops0[j]?=some oc) (hc0:j≠0) (hoc:oc.op=.call { callee:=.builtin .copy,args:=#[.tmp x,.tmp y],argTypes:=ts }) (hgc:oc.guard=none) (hdc:oc.dst=some dc) (hne:dc≠d0) (hns:dc≠src) (hx0:x≠d0) (hy0:y≠d0)
  (hgs':(ops0.toList.all λo=>o.guard.isNone)=true) (hall':((List.range ops0.size).all λi=>Nat.beq i 0||Nat.beq i j||((X1h ops0.toList).getD j 0).testBit i||((X1h ops0.toList).getD i 0).testBit 0)=true)
  (hpre:X7g 0 (X1c ops0 j).toList=true)
  (hjl:Nat.ble j (X1c ops0 j).size=true) (hbar:Xva j (X1c ops0 j).toList=true) (hgd:Xjf ((X1c ops0 j).toList.take j)=true) (hs:List X4d) {hs':List X4d} {ps':List Prop}
  (h:Xlf hz0 P T nt n ⟨(X1c ops0 j).toList.take j⟩ (X1h ((X1c ops0 j).toList.take j)) ((X1h ((X1c ops0 j).toList.take j)).zip (((X1c ops0 j).toList.take j).map hz0)) 0 ((X1c ops0 j).toList.take j) L G [] hs []=some (L',G',hs',ps')) (hp':X4u ps')
  (k:X2m P nt n0 (X1c ops0 j) ((X1c ops0 j).toList.drop j) (λs μ=>Q .normal s μ) ⟨fr L',hp G',n+j⟩ μ) (hμ:Xi1 μ=true:=by rfl):X2i P nt n0 (.region id ops0 true) Q ⟨fr L,hp G,n⟩ μ:=by
 have hgs:∀ (i:Nat) (o:Oper),ops0[i]?=some o->o.guard=none:=λi o ho=>by
  have:=List.all_eq_true.1 hgs' o (List.mem_of_getElem? (i:=i) (by grind))
  simp_all
 have hall:∀ i,i<ops0.size->i≠0->i≠j->((X1h ops0.toList).getD j 0).testBit i=true\/((X1h ops0.toList).getD i 0).testBit 0=true:=λi hi h1 h2=>by
  have:=List.all_eq_true.1 hall' i (List.mem_range.2 hi)
  simp_all
 have hex:∀ (a:Act) v,execOp (a.put (some d0) v).eval oc=execOp a.eval oc:=λa v=>by
  simp_all [guard,Act.put,Act.eval,Array.getD_eq_getD_getElem?,Array.getElem?_setIfInBounds_ne,Ne.symm,execOp,resolve]
 have hres:∀ (a:Act) w n w',(execOp a.eval oc).run P w=.ok n w'->∃ v,n=.value v:=λa w n w' hr=>by
  obtain⟨dst,op,type,pos,after,guard⟩:=oc;simp only at hoc;subst hoc;simp[execOp,resolve,invoke,builtin] at hr
  cases hq:Sem.run P (Builtin.copy_ ts type #[a.eval (.tmp x),a.eval (.tmp y)]) w with
  |ok v w2=>rw[hq] at hr;simp at hr;grind
  |halt e w2=>simp_all
 intro c0 HH c act g hm R0 hR0;refine Xax hT.2 hR0 (by rintro a w ⟨c,s,ae,μ,_,_,_,h,_⟩;cases ae<;>cases h) ?_;refine Xre (ops:=ops0) (c:=j) X0gk hpre0 h0 hop hg0 hd0 hp0 hc hc0 hgc hdc hne hns hgs hres hex hall ops0.size (Array.replicate ops0.size false) act _ (by simp) (λi o _ hi=>by
  simp only[Array.getD_eq_getD_getElem?,Array.getElem?_replicate] at hi
  grind) ?_
 grind [X08p,X1c]
theorem X9.drawnCutF {P:Program} {T:Ty} {nt n0 id n:Nat} {ops0:Array Oper} {L L':List (Nat×AV)} {G G':List (Nat×Obj)} {K:List Kn} {Q:Xp->St->Mu->Prop} {μ:Mu} (j:Nat) (hT:X7a P T/\P.follows .mixedOrders=true) (hs:List X4d) {hs':List X4d} {ps':List Prop}
  {d0 dc src x y:Nat} {o0 oc:Oper} {ts:Array TypeId} (hpre0:X7g 0 ops0.toList=true) (h0:ops0[0]?=some o0) (hop:o0.op=.move (.tmp src)) (hg0:o0.guard=none) (hd0:o0.dst=some d0) (hp0:X8e o0=[])
  (hc:ops0[j]?=some oc) (hc0:j≠0) (hoc:oc.op=.call { callee:=.builtin .copy,args:=#[.tmp x,.tmp y],argTypes:=ts }) (hgc:oc.guard=none) (hdc:oc.dst=some dc) (hne:dc≠d0) (hns:dc≠src) (hx0:x≠d0) (hy0:y≠d0)
  (hgs':(ops0.toList.all λo=>o.guard.isNone)=true) (hall':((List.range ops0.size).all λi=>Nat.beq i 0||Nat.beq i j||((X1h ops0.toList).getD j 0).testBit i||((X1h ops0.toList).getD i 0).testBit 0)=true)
  (hpre:X7g 0 (X1c ops0 j).toList=true)
  (hjl:Nat.ble j (X1c ops0 j).size=true) (hbar:Xva j (X1c ops0 j).toList=true) (hgd:Xjf ((X1c ops0 j).toList.take j)=true)
  (h:Xlf hz0 P T nt n ⟨(X1c ops0 j).toList.take j⟩ (X1h ((X1c ops0 j).toList.take j)) ((X1h ((X1c ops0 j).toList.take j)).zip (((X1c ops0 j).toList.take j).map hz0)) 0 ((X1c ops0 j).toList.take j) L G [] hs []=some (L',G',hs',ps')) (hp':X4u ps')
  (k:X9 P nt n0 Q (.ops (X1c ops0 j) ((X1c ops0 j).toList.drop j)) K ⟨fr L',hp G',n+j⟩ μ) (hμ:Xi1 μ=true:=by rfl):X9 P nt n0 Q (.code (.region id ops0 true)) K ⟨fr L,hp G,n⟩ μ :=
 X2i.drawnCutF hT hpre0 h0 hop hg0 hd0 hp0 hc hc0 hoc hgc hdc hne hns hx0 hy0 hgs' hall' hpre hjl hbar hgd hs h hp' k hμ
end Go.Av


namespace Go.Av
variable [Gls]
end Go.Av


namespace Go.Av
variable [Gls]
open Go.D
def WkC (a a':AV):Prop:=a'=a\/(∃ l,a=.list true l/\a'=.list false l)\/(a=.nils/\∃ b,a'=.list b [])
theorem WkC.rel {c:Ctx} {a a':AV} {v:Value} (h:WkC a a') (r:X0m c false a v):X0m c false a' v:=by
 rcases h with rfl|⟨l,rfl,rfl⟩|⟨rfl,b,rfl⟩
 ·exact r
 ·cases r with
  |listNil=>exact .listNil
  |list vf hne hS hn hcap hsz hcell h1 h=>exact .list vf hne (hS.elim (λq=>.inl ⟨rfl,q.2⟩) .inr) hn hcap hsz hcell h1 h
 ·obtain⟨p,rfl⟩:=r.nils_inv;exact .listNil
theorem WkC.ok {M:Nat->Prop} {a a':AV} (h:WkC a a') (r:a.Ok M):a'.Ok M:=by
 rcases h with rfl|⟨l,rfl,rfl⟩|⟨rfl,b,rfl⟩
 ·exact r
 ·exact .list
 ·exact .list
end Go.Av


namespace Go.Av
variable [Gls]
def scs:List AV->Bool
 |[]=>true
 |.sc _::r=>scs r
 |_=>false
theorem X0an {M:Nat->Prop}:∀ {es:List AV},scs es=true->∀ e∈es,∀ a∈e.cells,AV.Ok M a
 |[],_=>λe he=>by cases he
 |.sc v::r,h=>λe he a ha=>by
  rcases List.mem_cons.1 he with rfl|he
  ·rw[List.mem_singleton.1 ha];exact .sc
  ·exact X0an (es:=r) h e he a ha
 |.list _ _::_,h=>by cases h
end Go.Av


namespace Go.Av
variable [Gls]
theorem Xyw {H:Xz} {o:Nat} {x:Obj} {v:Value} (hH:H o=some x) (he:x.es[0]?=some (.sc v)):Cv false H (.ptr o 0 0) (.elem false (.sc v) 0):=by
 refine .ptrL rfl hH he rfl λk a b ha hb=>?_;rw[ha] at hb;cases hb
 cases k with
 |zero=>simp[AV.cells] at ha;subst ha;exact .sc
 |succ k=>simp[AV.cells] at ha
theorem Xp4 {H:Xz} {o:Nat} {x:Obj} {e e':AV} (hH:H o=some x) (he:x.es[0]?=some e) (hl:e.cells.length=e'.cells.length) (h:Cv false H e e'):Cv false H (.ptr o 0 0) (.elem false e' 0):=.ptrL rfl hH he hl (X4n h)
theorem X9.trunc {P:Program} {nt n0 n:Nat} {Q:Xp->St->Mu->Prop} {cf:Cf} {K:List Kn} {μ:Mu} {L:List (Nat×AV)} {G:List (Nat×Obj)} {y:Obj} (q:Nat) (es':List AV) (hy:hp G q=some y) (he:∃ m,es'=y.es.take m)
  (h:X9 P nt n0 Q cf K ⟨fr L,hp ((q,{ y with es:=es' })::G),n⟩ μ):X9 P nt n0 Q cf K ⟨fr L,hp G,n⟩ μ:=by
 obtain⟨m,rfl⟩:=he;refine X9.sub (Xmf.trunc hy m) ?_;rw[<-Xfl q { y with es:=y.es.take m } G (show y.gone=false from Xhj hy)];exact h
end Go.Av


namespace Go.Av
variable [Gls]
inductive Tab (V:Type) where
 |leaf
 |node (k:Nat) (v:V) (l r:Tab V)
def Tab.find {V:Type} (t:Tab V):Nat->Option V :=
 Tab.rec (motive:=λ_=>Nat->Option V) (λ_=>none) (λk v _ _ ihl ihr n=>bif Nat.beq n k then some v else bif Nat.blt n k then ihl n else ihr n) t
theorem Tab.find_node {V:Type} (k:Nat) (v:V) (l r:Tab V) (t:Nat):(Tab.node k v l r).find t=bif Nat.beq t k then some v else bif Nat.blt t k then l.find t else r.find t:=rfl
def Tab.All {V:Type} (p:Nat->V->Prop):Tab V->Prop
 |.leaf=>True
 |.node k v l r=>p k v/\l.All p/\r.All p
theorem Tab.find_all {V:Type} {p:Nat->V->Prop}:∀ (t:Tab V),t.All p->∀ k v,t.find k=some v->p k v:=by
 intro t
 induction t with
 |leaf=>intro _ k v h;cases h
 |node k' v' l r ihl ihr =>
  intro h k v hf;obtain⟨h1,h2,h3⟩:=h;rw[Tab.find_node] at hf
  cases hb:Nat.beq k k' with
  |true =>
   rw[hb,cond_true] at hf;cases hf
   have:k=k':=Nat.eq_of_beq_eq_true hb;subst this;exact h1
  |false =>
   rw[hb,cond_false] at hf
   cases hlt:Nat.blt k k' with
   |true=>rw[hlt,cond_true] at hf;exact ihl h2 k v hf
   |false=>rw[hlt,cond_false] at hf;exact ihr h3 k v hf
theorem X00t {P:Program} {t:Tab TI} (h:t.All (Xfq P)):X7a P t.find:=λk v hf=>t.find_all h k v hf
theorem tiOk {P:Program} {t:Nat} {i:TypeInfo} {d:TypeDesc} {z:Value} (hi:P.info? t=some i) (hd:P.underlying t=some d) (hz:i.zero=some z)
  (hw:((X1m z).whole&&Nat.beq (X1m z).cells.length i.size)=true):Xfq P t ⟨X8g d,i.size,i.bytes,z,false⟩:=by
 simp only[Bool.and_eq_true] at hw;exact⟨⟨i,d,hi,hd,hz,rfl,rfl,rfl⟩,⟨hw.1,Nat.eq_of_beq_eq_true hw.2⟩,λh=>by cases h⟩
theorem X0dj {P:Program} {t:Nat} {i:TypeInfo} {d:TypeDesc} {z:Value} (hi:P.info? t=some i) (hd:P.underlying t=some d) (hz:i.zero=some z)
  (hw:((X1m z).whole&&Nat.beq (X1m z).cells.length i.size)=true) (h1:P.stoodInHeld t=false) (h2:P.eqGuardType P.depth t=false)
  (h3 : (match d with | .struct fs => fs.toList.all (λf => !(f.name == "_")) | _ => true) = true) : Xfq P t ⟨X8g d, i.size, i.bytes, z, true⟩ := by
 simp only[Bool.and_eq_true] at hw;refine⟨⟨i,d,hi,hd,hz,rfl,rfl,rfl⟩,⟨hw.1,Nat.eq_of_beq_eq_true hw.2⟩,λ_=>⟨h1,h2,λfs hfs f hf=>?_⟩⟩;rw[hd] at hfs;cases hfs
 have:=List.all_eq_true.1 h3 f (by simpa using hf);simpa using this
def X1g (fn:Func):Code:=fn.body.getD .skip
theorem Xyi {P:Program} {t:Tab (Func×Code)} (h:t.All (λk v=>Xmg P k v.1 v.2)):Xzj P t.find:=λk fn code hf=>t.find_all h k (fn,code) hf
end Go.Av


namespace Go.Av
variable [Gls]
abbrev TyE (P:Program) (t:Nat):={ i:TI // Xfq P t i }
omit [Gls] in
theorem getD_some {α:Type} {a:Option α} {d:α} (h:a.isSome=true):a=some (a.getD d):=by cases a<;>first|rfl|cases h
def tc {P:Program} {t:Nat} {i:TypeInfo} {d:TypeDesc} (hi:P.info? t=some i) (hd:P.underlying t=some d) (hz:i.zero.isSome=true:=by kernel_rfl)
  (hw:((X1m (i.zero.getD .nilFunc)).whole&&Nat.beq (X1m (i.zero.getD .nilFunc)).cells.length i.size)=true:=by kernel_rfl):TyE P t :=
 ⟨⟨X8g d,i.size,i.bytes,i.zero.getD .nilFunc,false⟩,tiOk hi hd (getD_some hz) hw⟩
def te {P:Program} {t:Nat} {i:TypeInfo} {d:TypeDesc} (hi:P.info? t=some i) (hd:P.underlying t=some d) (h1:P.stoodInHeld t=false) (h2:P.eqGuardType P.depth t=false) (hz:i.zero.isSome=true:=by kernel_rfl)
  (hw:((X1m (i.zero.getD .nilFunc)).whole&&Nat.beq (X1m (i.zero.getD .nilFunc)).cells.length i.size)=true:=by kernel_rfl)
  (h3 : (match d with | .struct fs => fs.toList.all (λf => !(f.name == "_")) | _ => true) = true := by kernel_rfl) : TyE P t :=
 ⟨⟨X8g d,i.size,i.bytes,i.zero.getD .nilFunc,true⟩,X0dj hi hd (getD_some hz) hw h1 h2 h3⟩
structure TabE {V:Type} (p:Nat->V->Prop) where
 t:Tab V
 ok:t.All p
def tl {V:Type} {p:Nat->V->Prop}:TabE p:=⟨.leaf,trivial⟩
def tn {V:Type} {p:Nat->V->Prop} (k:Nat) (e:{ v:V // p k v }) (l r:TabE p):TabE p:=⟨.node k e.1 l.t r.t,e.2,l.ok,r.ok⟩
def fe {P : Program} {f : Nat} {fn : Func} (h : P.funcs[f]? = some fn) (h2 : (fn.name == "runtime.NumGoroutine") = false := by kernel_rfl) (h3 : fn.body = some (X1g fn) := by rfl) : { v : Func × Code // Xmg P f v.1 v.2 } := ⟨(fn, X1g fn), h, h2, h3⟩
theorem fk {P : Program} {f : Nat} {fn : Func} (h : P.funcs[f]? = some fn) (h2 : (fn.name == "runtime.NumGoroutine") = false := by kernel_rfl) (h3 : fn.body = some (X1g fn) := by rfl) : Xmg P f fn (X1g fn) := ⟨h, h2, h3⟩
end Go.Av


namespace Go.Av
variable [Gls]
theorem X38.frz {nt n0:Nat} {c0 c:Ctx} {H0:Xz} {A:Nat->AV} {H:Xz} {n o:Nat} {act:Act} {y:Obj} (g:X38 nt c0 H0 n0 c ⟨A,H,n⟩ act) (hy:H o=some y) (hf:∀ e∈y.es,∀ a∈e.cells,∃ v,a=.sc v) :
  ∃ c',c'.w=c.w/\X38 nt c0 H0 n0 c' ⟨A,upd H o none,n⟩ act/\(∀ {v:Value},X0m c false (.ref o 0 y.es.length) v->X0m c' false (.list true y.es) v)/\(∀ M:Nat->Prop,c.Le M c')/\c'.ρ=c.ρ/\c'.Sa=c.Sa/\∀ b,c'.So b->c.So b\/b=(c.ρ o).blk:=by
 let c':Ctx:={ c with So:=λb=>c.So b\/b=(c.ρ o).blk }
 have hle:∀ {M:Nat->Prop},c.Le M c':=⟨λ_ _=>rfl,λ_ h=>h,λ_ h=>.inl h,λ_ _=>rfl,rfl⟩;obtain⟨hoM,hor,hok⟩:=g.inv.obj o y hy;have hblk:(c.ρ o).blk<c.w.heap.size:=by
  obtain⟨⟨cur,hb,_⟩,_⟩:=hor;exact(Array.getElem?_eq_some_iff.1 hb).1
 let Hr:Xz:=λq=>if q=o then some y else none
 have hIr:Inv c Hr (·<n):=by
  refine g.inv.forget (λq x hx=>?_) (λq q' x x' hx hx' hne hb=>?_)
  ·by_cases hq:q=o
   ·have hx2:y=x:=by simpa[Hr,hq] using hx
    exact⟨y,by rw[hq];exact hy,by rw[hx2],by rw[hx2],λh=>by rw[hx2];exact h⟩
   ·simp[Hr,hq] at hx
  ·exfalso;by_cases hq:q=o
   ·by_cases hq':q'=o
    ·exact hne (hq.trans hq'.symm)
    ·simp[Hr,hq'] at hx'
   ·simp[Hr,hq] at hx
 have hcv:Cv true Hr (.ref o 0 y.es.length) (.list true y.es):=by
  refine .ref (x:=y) (by simp[Hr]) om rfl (λi e e' he he'=>?_) (λi e e' k a b he he' ha hb=>?_)
  ·grind
  ·rw[Nat.zero_add] at he;rw[he] at he';cases he';rw[ha] at hb;cases hb;obtain⟨v,rfl⟩:=hf e (List.mem_of_getElem? he) a (List.mem_of_getElem? ha);exact .sc
 have hfrz:∀ {v:Value},X0m c false (.ref o 0 y.es.length) v->X0m c' false (.list true y.es) v:=λ{v} hv =>
  (Xyx hIr (c':=c') rfl (λb hb=>hb.elim (λh=>.inl ⟨rfl,h⟩) (λh=>.inr (.inl h))) (λ_ b hb=>.inl hb) (λq x hx=>by
   by_cases hq:q=o
   ·subst hq;exact .inr (.inr rfl)
   grind) hcv hv).shallow
 have hG:∀ q x,upd H o none q=some x->q≠o/\H q=some x:=λq x hx=>by
  grind [Xk,Xm]
 have hsep:∀ q x,H q=some x->q≠o->(c.ρ q).blk≠(c.ρ o).blk:=λq x hx hne hb=>by
  have:=(g.inv.sep q o x y hx hy hne hb).1;rw[(g.solo q x hx).1] at this;cases this
 have gI:Inv c' (upd H o none) (·<n):=by
  refine⟨λq x hx=>?_,λq q' x1 x2 h1 h2 hne hb=>g.inv.sep q q' x1 x2 (hG q x1 h1).2 (hG q' x2 h2).2 hne hb,λq x hx=>?_,λb hb=>?_,g.inv.base,λb hb=>?_,λq x hx=>g.inv.low q x (hG q x hx).2,GF.mono (M:=(·<n)) g.inv.glob hle⟩
  ·obtain⟨hne,hx⟩:=hG q x hx;obtain⟨i1,⟨⟨cur,hb,hs,hc⟩,i3,i4,i5⟩,i6⟩:=g.inv.obj q x hx;refine⟨i1,⟨⟨cur,hb,hs,λi e he=>?_⟩,i3,i4,i5⟩,i6⟩;obtain⟨k1,k2⟩:=hc i e he;refine⟨k1,λk a ha=>?_⟩;obtain⟨v,v1,v2,v3⟩:=k2 k a ha;exact⟨v,v1,v2.mono (M:=(·<n)) hle (.inr (i6 e (List.mem_of_getElem? he) a (List.mem_of_getElem? ha))),v3⟩
  ·obtain⟨hne,hx⟩:=hG q x hx;have:=g.inv.stab q x hx
   grind
  ·rcases hb with hb|hb|hb
   ·exact g.inv.lt b (.inl hb)
   ·exact g.inv.lt b (.inr hb)
   grind
  ·rcases hb with hb|hb
   ·exact g.inv.own b hb
   ·show c.B<=b;rw[hb];exact g.inv.low o y hy
 have r:=g.reach;refine⟨c',rfl,⟨gI,λq x hx=>g.solo q x (hG q x hx).2,λt=>(g.frame t).mono (M:=(·<n)) hle (.inr (g.ok t)),g.ok,g.size,⟨r.rho,r.os,r.tape,r.output,r.size,r.block,r.stable,r.sa,λb hb=>.inl (r.so1 b hb),λb hb=>?_,r.B,λq x hx=>r.own q x (hG q x hx).2⟩,g.le0⟩,hfrz,λ_=>hle,rfl,rfl,λb hb=>hb⟩;rcases hb with hb|hb
 ·exact r.so2 b hb
 ·rw[hb];exact .inr (r.own o y hy)
theorem OpR.sliceFrz {P:Program} {T:Ty} {nt:Nat} {o:Oper} {s:St} (hT:X7a P T) {t q l h len:Nat} {xo:Operand} {lo:Option Operand} {hi mx:Operand} {ti:TI} {et:Nat} {te:TI} {y:Obj} (ho:o.op=.slice t xo lo (some hi) (some mx)) (hx:evA s.A xo=.ref q 0 len) (hy:s.H q=some y) (hlen:y.es.length=len)
  (hl:Bd (evA s.A) lo 0 l) (hh:Bd (evA s.A) (some hi) 0 h) (hm:Bd (evA s.A) (some mx) 0 len) (hlh:l<=h) (hle:h<=len) (ht:T t=some ti) (hk:ti.kind=.slice et) (hte:T et=some te) (hes:y.esz=te.size) (hf:∀ e∈y.es,∀ a∈e.cells,∃ v,a=.sc v) :
  OpR P nt o s (λa' H' n'=>a'=.list true ((y.es.drop l).take (h - l))/\H'=upd s.H q none/\n'=s.n):=by
 subst hlen;intro c0 H0 n0 c act g K Q hK R;obtain⟨c',hw,g',hfrz,_⟩:=X38.frz (A:=s.A) (H:=s.H) (n:=s.n) g hy hf;obtain⟨_,⟨⟨cur,hb,hs,hc⟩,hfits,hpos,hsame⟩,_⟩:=g.inv.obj q y hy;have hxv:=g.ev xo;rw[hx] at hxv;obtain⟨hp,hle'⟩:=hxv.ref_inv;have hlist:=hfrz hxv;simp only[Nat.zero_mul,Nat.sub_zero,Nat.zero_add] at hp hle';rw[hp] at hlist;have hsz:∀ e∈y.es,e.cells.length=te.size:=λe he=>by
  grind [List.getElem?_of_mem]
 have hsub:=hlist.tight.sub_list (l:=l) (h:=h) hlh hle hsz;have hrun:(execOp act.eval o).run P c.w=.ok (.value (.slice (if y.es.length=l then some ⟨(c.ρ q).blk,0,none⟩ else (some ⟨(c.ρ q).blk,0,none⟩:Option Addr).map (·.add (l*te.size))) (h - l) (y.es.length - l))) c.w:=by
  obtain⟨dst,op,type,pos,after,guard⟩:=o;simp only at ho;subst ho;simp only[execOp,hp,Option.map_some,Sem.run_bind,X25 (hT t ti ht) hk (hT et te hte) (X8p g.ev hl hh hm hlh hle hle' c.w),Result.andThen_ok,Sem.run_pure]
 refine Oper.wpR (λd hd=>by grind) ?_;unfold Oper.wp;rw[hrun];rw[<-hw];exact hK c' _ (upd s.H q none) s.n _ ⟨rfl,rfl,rfl⟩ λdst hd=>g'.next hd (.refl c') rfl (λb hb=>.inl hb) (.refl c' _) (λq x hx=>.inr ⟨q,x,hx,rfl⟩) g'.inv g'.solo (Nat.le_refl _) hsub .list
end Go.Av


namespace Go.Av.X
open Go.Av
inductive D where|d0|d1|d2|d3|d4|d5|d6
structure N (α:Type) where
 mk ::
 a0:α
 a1:α
 a2:α
 a3:α
 a4:α
 a5:α
 a6:α
def dg (m:Nat):D:=bif Nat.beq m 0 then .d0 else bif Nat.beq m 1 then .d1 else bif Nat.beq m 2 then .d2 else bif Nat.beq m 3 then .d3 else bif Nat.beq m 4 then .d4 else bif Nat.beq m 5 then .d5 else .d6
def D.num:D->Nat
 |.d0=>0
 |.d1=>1
 |.d2=>2
 |.d3=>3
 |.d4=>4
 |.d5=>5
 |.d6=>6
theorem X04j:∀ m,m<7->(dg m).num=m:=by decide
theorem X0c7 {m n:Nat} (hm:m<7) (hn:n<7) (h:dg m=dg n):m=n:=by
 have:=congrArg D.num h
 rwa [X04j m hm,X04j n hn] at this
section
variable {α:Type}
def sel (x:N α) (d:D):α:=D.rec (motive:=λ_=>N α->α) N.a0 N.a1 N.a2 N.a3 N.a4 N.a5 N.a6 d x
def u0 (f:α->(α->Prop)->Prop) (k:N α->Prop) (x:N α):Prop:=N.rec (motive:=λ_=>(α->(α->Prop)->Prop)->(N α->Prop)->Prop) (λa0 a1 a2 a3 a4 a5 a6 f k=>f a0 (λy=>k ⟨y,a1,a2,a3,a4,a5,a6⟩)) x f k
def u1 (f:α->(α->Prop)->Prop) (k:N α->Prop) (x:N α):Prop:=N.rec (motive:=λ_=>(α->(α->Prop)->Prop)->(N α->Prop)->Prop) (λa0 a1 a2 a3 a4 a5 a6 f k=>f a1 (λy=>k ⟨a0,y,a2,a3,a4,a5,a6⟩)) x f k
def u2 (f:α->(α->Prop)->Prop) (k:N α->Prop) (x:N α):Prop:=N.rec (motive:=λ_=>(α->(α->Prop)->Prop)->(N α->Prop)->Prop) (λa0 a1 a2 a3 a4 a5 a6 f k=>f a2 (λy=>k ⟨a0,a1,y,a3,a4,a5,a6⟩)) x f k
def u3 (f:α->(α->Prop)->Prop) (k:N α->Prop) (x:N α):Prop:=N.rec (motive:=λ_=>(α->(α->Prop)->Prop)->(N α->Prop)->Prop) (λa0 a1 a2 a3 a4 a5 a6 f k=>f a3 (λy=>k ⟨a0,a1,a2,y,a4,a5,a6⟩)) x f k
def u4 (f:α->(α->Prop)->Prop) (k:N α->Prop) (x:N α):Prop:=N.rec (motive:=λ_=>(α->(α->Prop)->Prop)->(N α->Prop)->Prop) (λa0 a1 a2 a3 a4 a5 a6 f k=>f a4 (λy=>k ⟨a0,a1,a2,a3,y,a5,a6⟩)) x f k
def u5 (f:α->(α->Prop)->Prop) (k:N α->Prop) (x:N α):Prop:=N.rec (motive:=λ_=>(α->(α->Prop)->Prop)->(N α->Prop)->Prop) (λa0 a1 a2 a3 a4 a5 a6 f k=>f a5 (λy=>k ⟨a0,a1,a2,a3,a4,y,a6⟩)) x f k
def u6 (f:α->(α->Prop)->Prop) (k:N α->Prop) (x:N α):Prop:=N.rec (motive:=λ_=>(α->(α->Prop)->Prop)->(N α->Prop)->Prop) (λa0 a1 a2 a3 a4 a5 a6 f k=>f a6 (λy=>k ⟨a0,a1,a2,a3,a4,a5,y⟩)) x f k
def m0 (g:α->α) (x:N α):N α:=⟨g x.a0,x.a1,x.a2,x.a3,x.a4,x.a5,x.a6⟩
def m1 (g:α->α) (x:N α):N α:=⟨x.a0,g x.a1,x.a2,x.a3,x.a4,x.a5,x.a6⟩
def m2 (g:α->α) (x:N α):N α:=⟨x.a0,x.a1,g x.a2,x.a3,x.a4,x.a5,x.a6⟩
def m3 (g:α->α) (x:N α):N α:=⟨x.a0,x.a1,x.a2,g x.a3,x.a4,x.a5,x.a6⟩
def m4 (g:α->α) (x:N α):N α:=⟨x.a0,x.a1,x.a2,x.a3,g x.a4,x.a5,x.a6⟩
def m5 (g:α->α) (x:N α):N α:=⟨x.a0,x.a1,x.a2,x.a3,x.a4,g x.a5,x.a6⟩
def m6 (g:α->α) (x:N α):N α:=⟨x.a0,x.a1,x.a2,x.a3,x.a4,x.a5,g x.a6⟩
def Xuh (g:α->α) (x:N α) (d:D):N α:=D.rec (motive:=λ_=>(α->α)->N α->N α) m0 m1 m2 m3 m4 m5 m6 d g x
def Xzl (f:α->(α->Prop)->Prop) (k:N α->Prop) (x:N α) (d:D):Prop:=D.rec (motive:=λ_=>(α->(α->Prop)->Prop)->(N α->Prop)->N α->Prop) u0 u1 u2 u3 u4 u5 u6 d f k x
theorem Xbx {f:α->(α->Prop)->Prop} {g:α->α} (hf:∀ a k,f a k=k (g a)) (k:N α->Prop) (x:N α) (d:D):Xzl f k x d=k (Xuh g x d):=by
 cases x;cases d<;>exact hf _ _
theorem Xpw (g:α->α) (x:N α) (d:D):sel (Xuh g x d) d=g (sel x d):=by cases d<;>rfl
theorem Xu8 (g:α->α) (x:N α) {d d':D} (h:d≠d'):sel (Xuh g x d) d'=sel x d':=by
 cases d<;>cases d'<;>first|rfl|exact absurd rfl h
theorem Xc0 (g:α->α) (x:N α) (m n:Nat):sel (Xuh g x (dg (Nat.mod m 7))) (dg (Nat.mod n 7))=if m % 7=n % 7 then g (sel x (dg (Nat.mod n 7))) else sel x (dg (Nat.mod n 7)):=by
 by_cases h:m % 7=n % 7
 ·rw[if_pos h,show Nat.mod m 7=Nat.mod n 7 from h,Xpw]
 ·rw[if_neg h];exact Xu8 g x λe=>h (X0c7 (Nat.mod_lt _ om) (Nat.mod_lt _ om) e)
def all (x:α):N α:=⟨x,x,x,x,x,x,x⟩
theorem Xc1 (x:α) (d:D):sel (all x) d=x:=by cases d<;>rfl
end
abbrev OX:=Option Obj
def uA0:=u0 (α:=AV)
def pA0:=N.a0 (α:=AV)
def uA1:=u1 (α:=AV)
def pA1:=N.a1 (α:=AV)
def uA2:=u2 (α:=AV)
def pA2:=N.a2 (α:=AV)
def uA3:=u3 (α:=AV)
def pA3:=N.a3 (α:=AV)
def uA4:=u4 (α:=AV)
def pA4:=N.a4 (α:=AV)
def uA5:=u5 (α:=AV)
def pA5:=N.a5 (α:=AV)
def uA6:=u6 (α:=AV)
def pA6:=N.a6 (α:=AV)
def tA:D->(AV->(AV->Prop)->Prop)->(N (AV)->Prop)->N (AV)->Prop:=D.rec (motive:=λ_=>(AV->(AV->Prop)->Prop)->(N (AV)->Prop)->N (AV)->Prop) uA0 uA1 uA2 uA3 uA4 uA5 uA6
def sA:D->N (AV)->AV:=D.rec (motive:=λ_=>N (AV)->AV) pA0 pA1 pA2 pA3 pA4 pA5 pA6
theorem X0ds (d:D) (f:AV->(AV->Prop)->Prop) (k:N (AV)->Prop) (x:N (AV)):tA d f k x=Xzl f k x d:=by cases d<;>rfl
theorem X05w (d:D) (x:N (AV)):sA d x=sel x d:=by cases d<;>rfl
def uB0:=u0 (α:=N AV)
def pB0:=N.a0 (α:=N AV)
def uB1:=u1 (α:=N AV)
def pB1:=N.a1 (α:=N AV)
def uB2:=u2 (α:=N AV)
def pB2:=N.a2 (α:=N AV)
def uB3:=u3 (α:=N AV)
def pB3:=N.a3 (α:=N AV)
def uB4:=u4 (α:=N AV)
def pB4:=N.a4 (α:=N AV)
def uB5:=u5 (α:=N AV)
def pB5:=N.a5 (α:=N AV)
def uB6:=u6 (α:=N AV)
def pB6:=N.a6 (α:=N AV)
def tB:D->(N AV->(N AV->Prop)->Prop)->(N (N AV)->Prop)->N (N AV)->Prop:=D.rec (motive:=λ_=>(N AV->(N AV->Prop)->Prop)->(N (N AV)->Prop)->N (N AV)->Prop) uB0 uB1 uB2 uB3 uB4 uB5 uB6
def sB:D->N (N AV)->N AV:=D.rec (motive:=λ_=>N (N AV)->N AV) pB0 pB1 pB2 pB3 pB4 pB5 pB6
theorem X0dr (d:D) (f:N AV->(N AV->Prop)->Prop) (k:N (N AV)->Prop) (x:N (N AV)):tB d f k x=Xzl f k x d:=by cases d<;>rfl
theorem X05v (d:D) (x:N (N AV)):sB d x=sel x d:=by cases d<;>rfl
def uC0:=u0 (α:=N (N AV))
def pC0:=N.a0 (α:=N (N AV))
def uC1:=u1 (α:=N (N AV))
def pC1:=N.a1 (α:=N (N AV))
def uC2:=u2 (α:=N (N AV))
def pC2:=N.a2 (α:=N (N AV))
def uC3:=u3 (α:=N (N AV))
def pC3:=N.a3 (α:=N (N AV))
def uC4:=u4 (α:=N (N AV))
def pC4:=N.a4 (α:=N (N AV))
def uC5:=u5 (α:=N (N AV))
def pC5:=N.a5 (α:=N (N AV))
def uC6:=u6 (α:=N (N AV))
def pC6:=N.a6 (α:=N (N AV))
def tC:D->(N (N AV)->(N (N AV)->Prop)->Prop)->(N (N (N AV))->Prop)->N (N (N AV))->Prop:=D.rec (motive:=λ_=>(N (N AV)->(N (N AV)->Prop)->Prop)->(N (N (N AV))->Prop)->N (N (N AV))->Prop) uC0 uC1 uC2 uC3 uC4 uC5 uC6
def sC:D->N (N (N AV))->N (N AV):=D.rec (motive:=λ_=>N (N (N AV))->N (N AV)) pC0 pC1 pC2 pC3 pC4 pC5 pC6
theorem X0dq (d:D) (f:N (N AV)->(N (N AV)->Prop)->Prop) (k:N (N (N AV))->Prop) (x:N (N (N AV))):tC d f k x=Xzl f k x d:=by cases d<;>rfl
theorem X05u (d:D) (x:N (N (N AV))):sC d x=sel x d:=by cases d<;>rfl
def uO0:=u0 (α:=OX)
def pO0:=N.a0 (α:=OX)
def uO1:=u1 (α:=OX)
def pO1:=N.a1 (α:=OX)
def uO2:=u2 (α:=OX)
def pO2:=N.a2 (α:=OX)
def uO3:=u3 (α:=OX)
def pO3:=N.a3 (α:=OX)
def uO4:=u4 (α:=OX)
def pO4:=N.a4 (α:=OX)
def uO5:=u5 (α:=OX)
def pO5:=N.a5 (α:=OX)
def uO6:=u6 (α:=OX)
def pO6:=N.a6 (α:=OX)
def tO:D->(OX->(OX->Prop)->Prop)->(N (OX)->Prop)->N (OX)->Prop:=D.rec (motive:=λ_=>(OX->(OX->Prop)->Prop)->(N (OX)->Prop)->N (OX)->Prop) uO0 uO1 uO2 uO3 uO4 uO5 uO6
def sO:D->N (OX)->OX:=D.rec (motive:=λ_=>N (OX)->OX) pO0 pO1 pO2 pO3 pO4 pO5 pO6
theorem X0dp (d:D) (f:OX->(OX->Prop)->Prop) (k:N (OX)->Prop) (x:N (OX)):tO d f k x=Xzl f k x d:=by cases d<;>rfl
theorem X05t (d:D) (x:N (OX)):sO d x=sel x d:=by cases d<;>rfl
def uP0:=u0 (α:=N OX)
def pP0:=N.a0 (α:=N OX)
def uP1:=u1 (α:=N OX)
def pP1:=N.a1 (α:=N OX)
def uP2:=u2 (α:=N OX)
def pP2:=N.a2 (α:=N OX)
def uP3:=u3 (α:=N OX)
def pP3:=N.a3 (α:=N OX)
def uP4:=u4 (α:=N OX)
def pP4:=N.a4 (α:=N OX)
def uP5:=u5 (α:=N OX)
def pP5:=N.a5 (α:=N OX)
def uP6:=u6 (α:=N OX)
def pP6:=N.a6 (α:=N OX)
def tP:D->(N OX->(N OX->Prop)->Prop)->(N (N OX)->Prop)->N (N OX)->Prop:=D.rec (motive:=λ_=>(N OX->(N OX->Prop)->Prop)->(N (N OX)->Prop)->N (N OX)->Prop) uP0 uP1 uP2 uP3 uP4 uP5 uP6
def sP:D->N (N OX)->N OX:=D.rec (motive:=λ_=>N (N OX)->N OX) pP0 pP1 pP2 pP3 pP4 pP5 pP6
theorem X0do (d:D) (f:N OX->(N OX->Prop)->Prop) (k:N (N OX)->Prop) (x:N (N OX)):tP d f k x=Xzl f k x d:=by cases d<;>rfl
theorem X05s (d:D) (x:N (N OX)):sP d x=sel x d:=by cases d<;>rfl
def uQ0:=u0 (α:=N (N OX))
def pQ0:=N.a0 (α:=N (N OX))
def uQ1:=u1 (α:=N (N OX))
def pQ1:=N.a1 (α:=N (N OX))
def uQ2:=u2 (α:=N (N OX))
def pQ2:=N.a2 (α:=N (N OX))
def uQ3:=u3 (α:=N (N OX))
def pQ3:=N.a3 (α:=N (N OX))
def uQ4:=u4 (α:=N (N OX))
def pQ4:=N.a4 (α:=N (N OX))
def uQ5:=u5 (α:=N (N OX))
def pQ5:=N.a5 (α:=N (N OX))
def uQ6:=u6 (α:=N (N OX))
def pQ6:=N.a6 (α:=N (N OX))
def tQ:D->(N (N OX)->(N (N OX)->Prop)->Prop)->(N (N (N OX))->Prop)->N (N (N OX))->Prop:=D.rec (motive:=λ_=>(N (N OX)->(N (N OX)->Prop)->Prop)->(N (N (N OX))->Prop)->N (N (N OX))->Prop) uQ0 uQ1 uQ2 uQ3 uQ4 uQ5 uQ6
def sQ:D->N (N (N OX))->N (N OX):=D.rec (motive:=λ_=>N (N (N OX))->N (N OX)) pQ0 pQ1 pQ2 pQ3 pQ4 pQ5 pQ6
theorem X0dn (d:D) (f:N (N OX)->(N (N OX)->Prop)->Prop) (k:N (N (N OX))->Prop) (x:N (N (N OX))):tQ d f k x=Xzl f k x d:=by cases d<;>rfl
theorem X05r (d:D) (x:N (N (N OX))):sQ d x=sel x d:=by cases d<;>rfl
def uR0:=u0 (α:=N (N (N OX)))
def pR0:=N.a0 (α:=N (N (N OX)))
def uR1:=u1 (α:=N (N (N OX)))
def pR1:=N.a1 (α:=N (N (N OX)))
def uR2:=u2 (α:=N (N (N OX)))
def pR2:=N.a2 (α:=N (N (N OX)))
def uR3:=u3 (α:=N (N (N OX)))
def pR3:=N.a3 (α:=N (N (N OX)))
def uR4:=u4 (α:=N (N (N OX)))
def pR4:=N.a4 (α:=N (N (N OX)))
def uR5:=u5 (α:=N (N (N OX)))
def pR5:=N.a5 (α:=N (N (N OX)))
def uR6:=u6 (α:=N (N (N OX)))
def pR6:=N.a6 (α:=N (N (N OX)))
def tR:D->(N (N (N OX))->(N (N (N OX))->Prop)->Prop)->(N (N (N (N OX)))->Prop)->N (N (N (N OX)))->Prop:=D.rec (motive:=λ_=>(N (N (N OX))->(N (N (N OX))->Prop)->Prop)->(N (N (N (N OX)))->Prop)->N (N (N (N OX)))->Prop) uR0 uR1 uR2 uR3 uR4 uR5 uR6
def sR:D->N (N (N (N OX)))->N (N (N OX)):=D.rec (motive:=λ_=>N (N (N (N OX)))->N (N (N OX))) pR0 pR1 pR2 pR3 pR4 pR5 pR6
theorem X0dm (d:D) (f:N (N (N OX))->(N (N (N OX))->Prop)->Prop) (k:N (N (N (N OX)))->Prop) (x:N (N (N (N OX)))):tR d f k x=Xzl f k x d:=by cases d<;>rfl
theorem X05q (d:D) (x:N (N (N (N OX)))):sR d x=sel x d:=by cases d<;>rfl
def uS0:=u0 (α:=N (N (N (N OX))))
def pS0:=N.a0 (α:=N (N (N (N OX))))
def uS1:=u1 (α:=N (N (N (N OX))))
def pS1:=N.a1 (α:=N (N (N (N OX))))
def uS2:=u2 (α:=N (N (N (N OX))))
def pS2:=N.a2 (α:=N (N (N (N OX))))
def uS3:=u3 (α:=N (N (N (N OX))))
def pS3:=N.a3 (α:=N (N (N (N OX))))
def uS4:=u4 (α:=N (N (N (N OX))))
def pS4:=N.a4 (α:=N (N (N (N OX))))
def uS5:=u5 (α:=N (N (N (N OX))))
def pS5:=N.a5 (α:=N (N (N (N OX))))
def uS6:=u6 (α:=N (N (N (N OX))))
def pS6:=N.a6 (α:=N (N (N (N OX))))
def tS:D->(N (N (N (N OX)))->(N (N (N (N OX)))->Prop)->Prop)->(N (N (N (N (N OX))))->Prop)->N (N (N (N (N OX))))->Prop:=D.rec (motive:=λ_=>(N (N (N (N OX)))->(N (N (N (N OX)))->Prop)->Prop)->(N (N (N (N (N OX))))->Prop)->N (N (N (N (N OX))))->Prop) uS0 uS1 uS2 uS3 uS4 uS5 uS6
def sS:D->N (N (N (N (N OX))))->N (N (N (N OX))):=D.rec (motive:=λ_=>N (N (N (N (N OX))))->N (N (N (N OX)))) pS0 pS1 pS2 pS3 pS4 pS5 pS6
theorem X0dl (d:D) (f:N (N (N (N OX)))->(N (N (N (N OX)))->Prop)->Prop) (k:N (N (N (N (N OX))))->Prop) (x:N (N (N (N (N OX))))):tS d f k x=Xzl f k x d:=by cases d<;>rfl
theorem X05p (d:D) (x:N (N (N (N (N OX))))):sS d x=sel x d:=by cases d<;>rfl
def uT0:=u0 (α:=N (N (N (N (N OX)))))
def pT0:=N.a0 (α:=N (N (N (N (N OX)))))
def uT1:=u1 (α:=N (N (N (N (N OX)))))
def pT1:=N.a1 (α:=N (N (N (N (N OX)))))
def uT2:=u2 (α:=N (N (N (N (N OX)))))
def pT2:=N.a2 (α:=N (N (N (N (N OX)))))
def uT3:=u3 (α:=N (N (N (N (N OX)))))
def pT3:=N.a3 (α:=N (N (N (N (N OX)))))
def uT4:=u4 (α:=N (N (N (N (N OX)))))
def pT4:=N.a4 (α:=N (N (N (N (N OX)))))
def uT5:=u5 (α:=N (N (N (N (N OX)))))
def pT5:=N.a5 (α:=N (N (N (N (N OX)))))
def uT6:=u6 (α:=N (N (N (N (N OX)))))
def pT6:=N.a6 (α:=N (N (N (N (N OX)))))
def tT:D->(N (N (N (N (N OX))))->(N (N (N (N (N OX))))->Prop)->Prop)->(N (N (N (N (N (N OX)))))->Prop)->N (N (N (N (N (N OX)))))->Prop:=D.rec (motive:=λ_=>(N (N (N (N (N OX))))->(N (N (N (N (N OX))))->Prop)->Prop)->(N (N (N (N (N (N OX)))))->Prop)->N (N (N (N (N (N OX)))))->Prop) uT0 uT1 uT2 uT3 uT4 uT5 uT6
def sT:D->N (N (N (N (N (N OX)))))->N (N (N (N (N OX)))):=D.rec (motive:=λ_=>N (N (N (N (N (N OX)))))->N (N (N (N (N OX))))) pT0 pT1 pT2 pT3 pT4 pT5 pT6
theorem X0dk (d:D) (f:N (N (N (N (N OX))))->(N (N (N (N (N OX))))->Prop)->Prop) (k:N (N (N (N (N (N OX)))))->Prop) (x:N (N (N (N (N (N OX)))))):tT d f k x=Xzl f k x d:=by cases d<;>rfl
theorem X05o (d:D) (x:N (N (N (N (N (N OX)))))):sT d x=sel x d:=by cases d<;>rfl
abbrev FX:=N (N (N AV))
def getX (F:FX) (t:Nat):AV:=sA (dg (Nat.mod (Nat.div t 49) 7)) (sB (dg (Nat.mod (Nat.div t 7) 7)) (sC (dg (Nat.mod t 7)) F))
def st0 (v _:AV) (k:AV->Prop):Prop:=k v
def st1 (t:Nat) (v:AV) (x:N AV) (k:N AV->Prop):Prop:=tA (dg (Nat.mod (Nat.div t 49) 7)) (st0 v) k x
def st2 (t:Nat) (v:AV) (x:N (N AV)) (k:N (N AV)->Prop):Prop:=tB (dg (Nat.mod (Nat.div t 7) 7)) (st1 t v) k x
def Xro (F:FX) (t:Nat) (v:AV) (k:FX->Prop):Prop:=tC (dg (Nat.mod t 7)) (st2 t v) k F
def putX (F:FX) (t:Nat) (v:AV):FX:=Xuh (λx=>Xuh (λx=>Xuh (λ_=>v) x (dg (Nat.mod (Nat.div t 49) 7))) x (dg (Nat.mod (Nat.div t 7) 7))) F (dg (Nat.mod t 7))
theorem Xk8 (F:FX) (t:Nat) (v:AV) (k:FX->Prop):Xro F t v k=k (putX F t v):=by
 unfold Xro putX;rw[X0dq];exact Xbx (f:=st2 t v) (λx k=>(X0dr _ _ _ _).trans (Xbx (f:=st1 t v) (λx k=>(X0ds _ _ _ _).trans (Xbx (f:=st0 v) (g:=λ_=>v) (λ_ _=>rfl) k x _)) k x _)) k F _
theorem X07l (F:FX) {t u:Nat} (ht:t<343) (hu:u<343) (v:AV):getX (putX F t v) u=if u=t then v else getX F u:=by
 unfold getX putX;rw[X05w,X05v,X05u,X05w,X05v,X05u,Xc0];by_cases h2:t % 7=u % 7
 rotate_left
 ·rw[if_neg h2,if_neg (λe=>h2 (by rw[e]))]
 rw[if_pos h2,Xc0];by_cases h1:Nat.div t 7 % 7=Nat.div u 7 % 7
 rotate_left
 ·rw[if_neg h1,if_neg (λe=>h1 (by rw[e]))]
 rw[if_pos h1,Xc0];by_cases h0:Nat.div t 49 % 7=Nat.div u 49 % 7
 rotate_left
 ·rw[if_neg h0,if_neg (λe=>h0 (by rw[e]))]
 rw[if_pos h0,if_pos];change t / 49 % 7=u / 49 % 7 at h0
 change t / 7 % 7=u / 7 % 7 at h1
 omega
def und0 (_:FX) (_:Nat):AV:=.sc undef
def frX (F:FX) (t:Nat):AV:=Bool.rec (motive:=λ_=>FX->Nat->AV) getX und0 (Nat.ble 343 t) F t
theorem Xn4 (F:FX) (t:Nat):frX F t=bif Nat.ble 343 t then .sc undef else getX F t:=by
 unfold frX;cases Nat.ble 343 t<;>rfl
theorem Xhk (F:FX) (t:Nat) (ht:t<343) (v:AV):frX (putX F t v)=upd (frX F) t v:=by
 funext u
 rw[Xn4];by_cases hu:u<343
 ·have e:Nat.ble 343 u=false:=by rw[<-Bool.not_eq_true,Nat.ble_eq];omega
  rw[e,cond_false,X07l F ht hu];by_cases h:u=t
  ·subst h;rw[if_pos rfl,Xk]
  ·rw[if_neg h,Xm _ _ h,Xn4,e,cond_false]
 ·have e:Nat.ble 343 u=true:=by rw[Nat.ble_eq];omega
  rw[e,cond_true,Xm _ _ om,Xn4,e,cond_true]
def Xh1 (F:FX) (d:Option Nat) (v:AV) (k:FX->Prop):Prop:=Option.rec (motive:=λ_=>Prop) (k F) (λd=>Xro F d v k) d
theorem Xg0 {F:FX} {d:Option Nat} {v:AV} {k:FX->Prop} (hd:∀ t,d=some t->t<343) (h:Xh1 F d v k):∃ F',frX F'=X65 (frX F) d v/\k F':=by
 cases d with
 |none=>exact⟨F,rfl,h⟩
 |some t =>
  have h:Xro F t v k:=h;rw[Xk8] at h;exact⟨_,Xhk F t (hd t rfl) v,h⟩
def und:AV:=.sc undef
def f4:FX:=all (all (all und))
theorem X0bp (t:Nat):frX f4 t=.sc undef:=by
 rw[Xn4]
 cases Nat.ble 343 t with
 |true=>rfl
 |false=>rw[cond_false];unfold getX f4;rw[X05w,X05v,X05u,Xc1,Xc1,Xc1];rfl
abbrev HX:=N (N (N (N (N (N OX)))))
def getH (F:HX) (t:Nat):OX:=sO (dg (Nat.mod t 7)) (sP (dg (Nat.mod (Nat.div t 7) 7)) (sQ (dg (Nat.mod (Nat.div t 49) 7)) (sR (dg (Nat.mod (Nat.div t 343) 7)) (sS (dg (Nat.mod (Nat.div t 2401) 7)) (sT (dg (Nat.mod (Nat.div t 16807) 7)) F)))))
def sh0 (v _:OX) (k:OX->Prop):Prop:=k v
def sh1 (t:Nat) (v:OX) (x:N OX) (k:N OX->Prop):Prop:=tO (dg (Nat.mod t 7)) (sh0 v) k x
def sh2 (t:Nat) (v:OX) (x:N (N OX)) (k:N (N OX)->Prop):Prop:=tP (dg (Nat.mod (Nat.div t 7) 7)) (sh1 t v) k x
def sh3 (t:Nat) (v:OX) (x:N (N (N OX))) (k:N (N (N OX))->Prop):Prop:=tQ (dg (Nat.mod (Nat.div t 49) 7)) (sh2 t v) k x
def sh4 (t:Nat) (v:OX) (x:N (N (N (N OX)))) (k:N (N (N (N OX)))->Prop):Prop:=tR (dg (Nat.mod (Nat.div t 343) 7)) (sh3 t v) k x
def sh5 (t:Nat) (v:OX) (x:N (N (N (N (N OX))))) (k:N (N (N (N (N OX))))->Prop):Prop:=tS (dg (Nat.mod (Nat.div t 2401) 7)) (sh4 t v) k x
def setH (F:HX) (t:Nat) (v:OX) (k:HX->Prop):Prop:=tT (dg (Nat.mod (Nat.div t 16807) 7)) (sh5 t v) k F
def putH (F:HX) (t:Nat) (v:OX):HX:=Xuh (λx=>Xuh (λx=>Xuh (λx=>Xuh (λx=>Xuh (λx=>Xuh (λ_=>v) x (dg (Nat.mod t 7))) x (dg (Nat.mod (Nat.div t 7) 7))) x (dg (Nat.mod (Nat.div t 49) 7))) x (dg (Nat.mod (Nat.div t 343) 7))) x (dg (Nat.mod (Nat.div t 2401) 7))) F (dg (Nat.mod (Nat.div t 16807) 7))
theorem X05k (F:HX) (t:Nat) (v:OX) (k:HX->Prop):setH F t v k=k (putH F t v):=by
 unfold setH putH;rw[X0dk];exact Xbx (f:=sh5 t v) (λx k=>(X0dl _ _ _ _).trans (Xbx (f:=sh4 t v) (λx k=>(X0dm _ _ _ _).trans (Xbx (f:=sh3 t v) (λx k=>(X0dn _ _ _ _).trans (Xbx (f:=sh2 t v) (λx k=>(X0do _ _ _ _).trans (Xbx (f:=sh1 t v) (λx k=>(X0dp _ _ _ _).trans (Xbx (f:=sh0 v) (g:=λ_=>v) (λ_ _=>rfl) k x _)) k x _)) k x _)) k x _)) k x _)) k F _
theorem X02l (F:HX) {t u:Nat} (ht:t<117649) (hu:u<117649) (v:OX):getH (putH F t v) u=if u=t then v else getH F u:=by
 unfold getH putH;rw[X05t,X05s,X05r,X05q,X05p,X05o,X05t,X05s,X05r,X05q,X05p,X05o,Xc0];by_cases h5:Nat.div t 16807 % 7=Nat.div u 16807 % 7
 rotate_left
 ·rw[if_neg h5,if_neg (λe=>h5 (by rw[e]))]
 rw[if_pos h5,Xc0];by_cases h4:Nat.div t 2401 % 7=Nat.div u 2401 % 7
 rotate_left
 ·rw[if_neg h4,if_neg (λe=>h4 (by rw[e]))]
 rw[if_pos h4,Xc0];by_cases h3:Nat.div t 343 % 7=Nat.div u 343 % 7
 rotate_left
 ·rw[if_neg h3,if_neg (λe=>h3 (by rw[e]))]
 rw[if_pos h3,Xc0];by_cases h2:Nat.div t 49 % 7=Nat.div u 49 % 7
 rotate_left
 ·rw[if_neg h2,if_neg (λe=>h2 (by rw[e]))]
 rw[if_pos h2,Xc0];by_cases h1:Nat.div t 7 % 7=Nat.div u 7 % 7
 rotate_left
 ·rw[if_neg h1,if_neg (λe=>h1 (by rw[e]))]
 rw[if_pos h1,Xc0];by_cases h0:t % 7=u % 7
 rotate_left
 ·rw[if_neg h0,if_neg (λe=>h0 (by rw[e]))]
 rw[if_pos h0,if_pos];change t / 7 % 7=u / 7 % 7 at h1
 change t / 49 % 7=u / 49 % 7 at h2
 change t / 343 % 7=u / 343 % 7 at h3
 change t / 2401 % 7=u / 2401 % 7 at h4
 change t / 16807 % 7=u / 16807 % 7 at h5
 omega
def non0 (_:HX) (_:Nat):OX:=none
def hpX (H:HX) (o:Nat):OX:=Bool.rec (motive:=λ_=>HX->Nat->OX) getH non0 (Nat.ble 117649 o) H o
theorem Xtc (H:HX) (o:Nat):hpX H o=bif Nat.ble 117649 o then none else getH H o:=by
 unfold hpX;cases Nat.ble 117649 o<;>rfl
theorem X07g (H:HX) {o:Nat} (ho:o<117649) (v:OX):hpX (putH H o v)=upd (hpX H) o v:=by
 funext q
 rw[Xtc];by_cases hq:q<117649
 ·have e:Nat.ble 117649 q=false:=by rw[<-Bool.not_eq_true,Nat.ble_eq];omega
  rw[e,cond_false,X02l H ho hq];by_cases h:q=o
  ·subst h;rw[if_pos rfl,Xk]
  ·rw[if_neg h,Xm _ _ h,Xtc,e,cond_false]
 ·have e:Nat.ble 117649 q=true:=by rw[Nat.ble_eq];omega
  rw[e,cond_true,Xm _ _ om,Xtc,e,cond_true]
def X3a (H:HX) (o:Nat) (v:OX) (k:HX->Prop):Prop:=Bool.rec (motive:=λ_=>HX->Nat->OX->(HX->Prop)->Prop) setH (λ_ _ _ _=>False) (Nat.ble 117649 o) H o v k
theorem X39 {H:HX} {o:Nat} {v:OX} {k:HX->Prop} (h:X3a H o v k):∃ H',hpX H'=upd (hpX H) o v/\k H':=by
 unfold X3a at h
 cases hb:Nat.ble 117649 o with
 |true=>rw[hb] at h;exact h.elim
 |false =>
  rw[hb] at h;have h:setH H o v k:=h;rw[X05k] at h;exact⟨_,X07g H (by rw[<-Bool.not_eq_true,Nat.ble_eq] at hb;omega) v,h⟩
def g8:HX:=all (all (all (all (all (all none)))))
theorem Xl4:hpX g8=λ_=>none:=by
 funext o
 rw[Xtc]
 cases Nat.ble 117649 o with
 |true=>rfl
 |false=>rw[cond_false];unfold getH g8;rw[X05t,X05s,X05r,X05q,X05p,X05o,Xc1,Xc1,Xc1,Xc1,Xc1,Xc1]
end Go.Av.X


namespace Go.Av.X
variable [Gls]
open Go.Av
def kn:IntKind->Nat:=IntKind.rec (motive:=λ_=>Nat) 0 1 2 3 4 5 6 7
theorem Xxh {k k':IntKind} (h:Nat.beq (kn k) (kn k')=true):k=k':=by
 cases k<;>cases k'<;>first|rfl|cases h
def ltZ (a b:Int):Bool :=
 Int.rec (motive:=λ_=>Int->Bool) (λm b=>Int.rec (motive:=λ_=>Nat->Bool) (λn m=>Nat.ble (Nat.succ m) n) (λ_ _=>false) b m) (λm b=>Int.rec (motive:=λ_=>Nat->Bool) (λ_ _=>true) (λn m=>Nat.ble (Nat.succ n) m) b m) a b
theorem X06o (a b:Int):ltZ a b=true↔a<b:=by
 cases a<;>cases b
 ·show Nat.ble _ _=true↔_;grind [Nat.ble_eq,Int.ofNat_eq_natCast]
 ·show false=true↔_;grind
 ·refine⟨λ_=>?_,λ_=>rfl⟩
  grind
 ·show Nat.ble _ _=true↔_;rw[Nat.ble_eq];omega
theorem Xt7 (a b:Int):ltZ a b=decide (a<b):=by
 rw[Bool.eq_iff_iff,X06o,decide_eq_true_iff]
def eqZ (a b:Int):Bool :=
 Int.rec (motive:=λ_=>Int->Bool) (λm b=>Int.rec (motive:=λ_=>Nat->Bool) (λn m=>Nat.beq m n) (λ_ _=>false) b m) (λm b=>Int.rec (motive:=λ_=>Nat->Bool) (λ_ _=>false) (λn m=>Nat.beq m n) b m) a b
theorem Xyf (a b:Int):eqZ a b=true↔a=b:=by
 cases a<;>cases b
 ·show Nat.beq _ _=true↔_;grind [Nat.beq_eq,Int.ofNat_eq_natCast]
 ·show false=true↔_;grind
 ·show false=true↔_;grind
 ·show Nat.beq _ _=true↔_;simp_all
theorem X04c (a b:Int):eqZ a b=(a==b):=by
 rw[Bool.eq_iff_iff,Xyf,beq_iff_eq]
def lim:IntKind->Nat:=IntKind.rec (motive:=λ_=>Nat) 127 32767 2147483647 9223372036854775807 255 65535 4294967295 18446744073709551615
def limN:IntKind->Nat->Bool:=IntKind.rec (motive:=λ_=>Nat->Bool) (λ_=>false) (λ_=>false) (λ_=>false) (λn=>Nat.ble n 9223372036854775807) (λ_=>false) (λ_=>false) (λ_=>false) (λ_=>false)
def wr0 (n:Nat) (k:IntKind):Int:=k.wrap (.ofNat n)
def wr1 (n:Nat) (_:IntKind):Int:=.ofNat n
def wr2 (n:Nat) (k:IntKind):Int:=k.wrap (.negSucc n)
def wr3 (n:Nat) (_:IntKind):Int:=.negSucc n
def wrP (n:Nat) (k:IntKind):Int:=Bool.rec (motive:=λ_=>Nat->IntKind->Int) wr0 wr1 (Nat.ble n (lim k)) n k
def wrN (n:Nat) (k:IntKind):Int:=Bool.rec (motive:=λ_=>Nat->IntKind->Int) wr2 wr3 (limN k n) n k
def wrX (k:IntKind) (z:Int):Int:=Int.rec (motive:=λ_=>IntKind->Int) wrP wrN z k
theorem Xvt (k:IntKind) (z:Int):wrX k z=k.wrap z:=by
 cases z with
 |ofNat n =>
  show wrP n k=_;unfold wrP
  cases hb:Nat.ble n (lim k) with
  |false=>rfl
  |true =>
   show Int.ofNat n=_;rw[Nat.ble_eq] at hb;have hl:∀ k:IntKind,lim k=IntKind.rec (motive:=λ_=>Nat) 127 32767 2147483647 9223372036854775807 255 65535 4294967295 18446744073709551615 k:=λ_=>rfl;rw[hl] at hb;cases k<;>dsimp only at hb<;>simp only[IntKind.wrap,IntKind.bits,IntKind.signed]<;>simp<;>omega
 |negSucc n =>
  show wrN n k=_;unfold wrN
  cases hb:limN k n with
  |false=>rfl
  |true =>
   have h2:k=.i64/\n<=9223372036854775807:=by
    cases k<;>first|(cases hb;done)|(have hb:Nat.ble n 9223372036854775807=true:=hb;rw[Nat.ble_eq] at hb;exact⟨rfl,hb⟩)
   obtain⟨rfl,hb⟩:=h2;show Int.negSucc n=_;have hz:∃ z:Int,z=.negSucc n /\ -9223372036854775808<=z/\z<0:=⟨_,rfl,by omega,by omega⟩
   grind [IntKind.wrap,IntKind.bits,IntKind.signed]
def iX (op:BinOp) (k:IntKind) (a b:Int):Option AV :=
 match op with
 |.add=>some (.sc (.int k (wrX k (Int.add a b))))
 |.sub=>some (.sc (.int k (wrX k (Int.sub a b))))
 |.mul=>some (.sc (.int k (wrX k (Int.mul a b))))
 |.eql=>some (.sc (.bool (eqZ a b)))
 |.neq=>some (.sc (.bool (Bool.not (eqZ a b))))
 |.lss=>some (.sc (.bool (ltZ a b)))
 |.leq=>some (.sc (.bool (Bool.not (ltZ b a))))
 |.gtr=>some (.sc (.bool (ltZ b a)))
 |.geq=>some (.sc (.bool (Bool.not (ltZ a b))))
 |_=>none
theorem X0bg {T:Ty} {ev:Operand->AV} {H:Xz} {op:BinOp} {t yt:Nat} {x y:Operand} {k:IntKind} {a b:Int} {r:AV} (hx:ev x=.sc (.int k a)) (hy:ev y=.sc (.int k b)) (h:iX op k a b=some r):Pu T ev H (.binOp op t x y yt) r:=by
 have n1:∀ a b:Int,(!(decide (b<a)))=decide (a<=b):=by
  grind
 unfold iX at h;split at h
 ·cases h;rw[Xvt];exact .binInt hx hy rfl
 ·cases h;rw[Xvt];exact .binInt hx hy rfl
 ·cases h;rw[Xvt];exact .binInt hx hy rfl
 ·cases h;rw[X04c];exact .binInt hx hy rfl
 ·cases h;rw[X04c];exact .binInt hx hy rfl
 ·cases h;rw[Xt7];exact .binInt hx hy rfl
 ·cases h;rw[Xt7,n1];exact .binInt hx hy rfl
 ·cases h;rw[Xt7];exact .binInt hx hy rfl
 ·cases h;rw[Xt7,n1];exact .binInt hx hy rfl
 ·cases h
def eqY (x:List UInt8):List UInt8->Bool :=
 List.rec (motive:=λ_=>List UInt8->Bool) (λy=>List.rec (motive:=λ_=>Bool) true (λ_ _ _=>false) y) (λa _ ih y=>List.rec (motive:=λ_=>Bool) false (λb y _=>Bool.rec (motive:=λ_=>Bool) false (ih y) (Nat.beq a.toNat b.toNat)) y) x
theorem Xyg:∀ x y:List UInt8,eqY x y=true↔x=y:=by
 intro x
 induction x with
 |nil=>intro y;cases y with
  |nil=>trivial
  |cons b y=>exact⟨λh=>(by cases h),λh=>(by cases h)⟩
 |cons a x ih=>intro y;cases y with
  |nil=>exact⟨λh=>(by cases h),λh=>(by cases h)⟩
  |cons b y =>
   show Bool.rec (motive:=λ_=>Bool) false (eqY x y) (Nat.beq a.toNat b.toNat)=true↔_
   cases hb:Nat.beq a.toNat b.toNat with
   |true =>
    grind [UInt8.toNat_inj,Nat.eq_of_beq_eq_true,eqY]
   |false =>
    grind [Nat.beq_refl]
theorem Xzc (a b:ByteArray):a++b=⟨⟨a.data.toList++b.data.toList⟩⟩:=by
 rfl
def sX (op:BinOp) (a b:ByteArray):Option AV :=
 match op with
 |.eql=>some (.sc (.bool (eqY a.data.toList b.data.toList)))
 |.neq=>some (.sc (.bool (Bool.not (eqY a.data.toList b.data.toList))))
 |.lss=>some (.sc (.bool (Op.bytesLess a.data.toList b.data.toList)))
 |.geq=>some (.sc (.bool (Bool.not (Op.bytesLess a.data.toList b.data.toList))))
 |.add=>bif Nat.blt (a.data.toList.length+b.data.toList.length) 4611686018427387904 then some (.sc (.string ⟨⟨a.data.toList++b.data.toList⟩⟩)) else none
 |_=>none
theorem X0dt {T:Ty} {ev:Operand->AV} {H:Xz} {op:BinOp} {t yt:Nat} {x y:Operand} {a b:ByteArray} {r:AV} (hx:ev x=.sc (.string a)) (hy:ev y=.sc (.string b)) (h:sX op a b=some r):Pu T ev H (.binOp op t x y yt) r:=by
 have e:eqY a.data.toList b.data.toList=(a.toList==b.toList):=by
  rw[Bool.eq_iff_iff,Xyg,beq_iff_eq,ByteArray.toList_eq,ByteArray.toList_eq]
 unfold sX at h;split at h
 ·cases h;rw[e];exact .binStr hx hy rfl
 ·cases h;rw[e];exact .binStr hx hy rfl
 ·cases h;rw[<-ByteArray.toList_eq,<-ByteArray.toList_eq];exact .binStr hx hy rfl
 ·cases h;rw[<-ByteArray.toList_eq,<-ByteArray.toList_eq];exact .binStr hx hy rfl
 ·cases hb:Nat.blt (a.data.toList.length+b.data.toList.length) 4611686018427387904 with
  |false=>grind
  |true =>
   rw[hb,cond_true] at h;cases h;rw[<-Xzc];refine .catStr hx hy ?_
   simp_all
 ·cases h
def slR (T:Ty) (ev:Operand->AV) (H:Xz) (t o off len:Nat) (lo hi:Option Operand):Option AV :=
 match X2n T t with
 |some te=>match bdF ev lo 0,bdF ev hi len with
  |some l,some h=>bif Nat.beq l 0&&Nat.ble h len then some (.ref o (off+l) (h - l)) else
   bif Nat.blt l h then (match H o with
    |some y=>bif Nat.beq y.esz te.size&&(Nat.ble h len||Nat.ble (off+h) y.es.length) then some (.ref o (off+l) (h - l)) else none
    |none=>none)
   else bif Nat.beq l h&&Nat.ble h len then some (.list true []) else none
  |_,_=>none
 |none=>none
theorem X0a1 {T:Ty} {ev:Operand->AV} {H:Xz} {t o off len:Nat} {x:Operand} {lo hi:Option Operand} {r:AV} (hx:ev x=.ref o off len) (h:slR T ev H t o off len lo hi=some r):Pu T ev H (.slice t x lo hi none) r:=by
 unfold slR at h;split at h
 ·rename_i te hs;obtain⟨ti,et,h1,h2,h3⟩:=X16 hs;split at h
  ·rename_i l hh hl hhh;have b1:=X53 hl;have b2:=X53 hhh
   cases c1:(Nat.beq l 0&&Nat.ble hh len) with
   |true =>
    rw[c1,cond_true] at h;cases h;simp only[Bool.and_eq_true,Nat.beq_eq,Nat.ble_eq] at c1;exact .sliceRefZ hx b1 b2 c1.1 c1.2 h1 h2 h3
   |false =>
    rw[c1,cond_false] at h
    cases c2:Nat.blt l hh with
    |true =>
     rw[c2,cond_true] at h;split at h
     ·rename_i y hy
      cases c3:(Nat.beq y.esz te.size&&(Nat.ble hh len||Nat.ble (off+hh) y.es.length)) with
      |true =>
       rw[c3,cond_true] at h;cases h;simp only[Bool.and_eq_true,Bool.or_eq_true,Nat.beq_eq,Nat.ble_eq] at c3;have c2':l<hh:=by simp_all
       exact .sliceRefV hx b1 b2 (Nat.le_of_lt c2') (.inr c2') hy c3.2 h1 h2 h3 c3.1
      |false=>grind
     ·cases h
    |false =>
     rw[c2,cond_false] at h
     cases c3:(Nat.beq l hh&&Nat.ble hh len) with
     |true =>
      rw[c3,cond_true] at h;cases h;simp only[Bool.and_eq_true,Nat.beq_eq,Nat.ble_eq] at c3;obtain⟨rfl,c4⟩:=c3;exact .sliceRef0 hx b1 b2 c4 h1 h2 h3
     |false=>grind
  ·cases h
 ·cases h
theorem Xuy (s:ByteArray) (l h:Nat):s.extract l h=⟨⟨(s.data.toList.drop l).take (h - l)⟩⟩:=by
 apply ByteArray.ext
 grind [ByteArray.data_extract,Array.ext',Array.toList_extract,List.extract_eq_take_drop]
def slS (T:Ty) (ev:Operand->AV) (t:Nat) (s:ByteArray) (lo hi:Option Operand):Option AV :=
 match T t with
 |some ti=>match ti.kind with
  |.string=>match bdF ev lo 0,bdF ev hi s.data.toList.length with
   |some l,some h=>bif Nat.ble l h&&Nat.ble h s.data.toList.length then some (.sc (.string ⟨⟨(s.data.toList.drop l).take (h - l)⟩⟩)) else none
   |_,_=>none
  |_=>none
 |none=>none
theorem X0a0 {T:Ty} {ev:Operand->AV} {H:Xz} {t:Nat} {x:Operand} {s:ByteArray} {lo hi:Option Operand} {r:AV} (hx:ev x=.sc (.string s)) (h:slS T ev t s lo hi=some r):Pu T ev H (.slice t x lo hi none) r:=by
 unfold slS at h;split at h
 ·rename_i ti ht;split at h
  ·rename_i hk;split at h
   ·rename_i l hh hl hhh
    cases c:(Nat.ble l hh&&Nat.ble hh s.data.toList.length) with
    |false=>grind
    |true =>
     rw[c,cond_true] at h;cases h;simp only[Bool.and_eq_true,Nat.ble_eq] at c;have hs:s.data.toList.length=s.size:=by simp
     rw[hs] at hhh c;rw[<-Xuy];exact .sliceStr hx (X53 hl) (X53 hhh) c.1 c.2 ht hk
   ·cases h
  ·cases h
 ·cases h
theorem getY (s:ByteArray) (n:Nat):s[n]?=s.data.toList[n]?:=by
 by_cases h:n<s.size
 ·rw[getElem?_pos s n h,List.getElem?_eq_getElem (by simpa using h)];rfl
 simp_all
def ixS (T:Ty) (t:Nat) (s:ByteArray) (i:Int):Option AV :=
 match T t with
 |some ti=>match ti.kind with
  |.string=>Int.rec (motive:=λ_=>Option AV) (λn=>match s.data.toList[n]? with
   |some b=>some (.sc (.int .u8 (.ofNat b.toNat)))
   |none=>none) (λ_=>none) i
  |_=>none
 |none=>none
theorem Xxu {T:Ty} {ev:Operand->AV} {H:Xz} {t:Nat} {x ix:Operand} {s:ByteArray} {k:IntKind} {i:Int} {r:AV} (hx:ev x=.sc (.string s)) (hi:ev ix=.sc (.int k i)) (h:ixS T t s i=some r):Pu T ev H (.index t x ix) r:=by
 unfold ixS at h;split at h
 ·rename_i ti ht;split at h
  ·rename_i hk
   cases i with
   |ofNat n =>
    have h:(match s.data.toList[n]? with
     |some b=>some (AV.sc (.int .u8 (.ofNat b.toNat)))
     |none=>none)=some r:=h
    split at h
    ·rename_i b hb;cases h
     refine .indexStr hx hi (Int.natCast_nonneg n) ht hk ?_
     grind [getY]
    ·cases h
   |negSucc n=>cases h
  ·cases h
 ·cases h
def nX (T:Ty) (ev:Operand->AV) (H:Xz) (op:BinOp) (t:Nat) (x y:Operand) (yt:Nat) (a b:AV):Option AV :=
 match b with
 |.sc .nilIface=>match a,y with
  |.sc u,.const .nilIface=>match T t with
   |some ti=>match ti.kind,ifB op u with
    |.iface,some r=>some (.sc (.bool r))
    |_,_=>none
   |none=>none
  |_,_=>none
 |.sc (.pointer none)=>match T t,ptrA a with
  |some ti,some nl=>match ti.kind,ptB op nl with
   |.pointer _,some r=>some (.sc (.bool r))
   |_,_=>none
  |_,_=>none
 |_=>qPu T ev H (.binOp op t x y yt)
theorem X0e8 {T:Ty} {ev:Operand->AV} {H:Xz} {op:BinOp} {t yt:Nat} {x y:Operand} {a b r:AV} (hx:ev x=a) (hy:ev y=b) (h:nX T ev H op t x y yt a b=some r):Pu T ev H (.binOp op t x y yt) r:=by
 unfold nX at h;split at h
 ·split at h
  ·split at h
   ·split at h
    ·rename_i ht _ _ _ hk hi;cases h;exact .ifaceNil hx hy ht hk hi
    ·cases h
   ·cases h
  ·cases h
 ·split at h
  ·split at h
   ·rename_i ht hp _ _ _ _ hk hi;cases h;exact .ptrNil (by grind) hy ht hk hi
   ·cases h
  ·cases h
 ·exact Xer h
def slM (T:Ty) (ev:Operand->AV) (t:Nat) (own:Bool) (es:List AV) (lo:Option Operand) (hi mx:Operand):Option AV :=
 match X2n T t with
 |some te=>match bdF ev lo 0,bdF ev (some hi) 0,bdF ev (some mx) 0 with
  |some l,some h,some m=>bif Nat.beq m es.length&&Nat.ble l h&&Nat.ble h es.length&&es.all (λe=>Nat.beq e.cells.length te.size) then some (.list own ((es.drop l).take (h - l))) else none
  |_,_,_=>none
 |none=>none
theorem X0a2 {T:Ty} {ev:Operand->AV} {H:Xz} {t:Nat} {own:Bool} {es:List AV} {x:Operand} {lo:Option Operand} {hi mx:Operand} {r:AV} (hx:ev x=.list own es) (h:slM T ev t own es lo hi mx=some r):Pu T ev H (.slice t x lo (some hi) (some mx)) r:=by
 unfold slM at h;split at h
 ·rename_i te hs;obtain⟨ti,et,h1,h2,h3⟩:=X16 hs;split at h
  ·rename_i l hh m hl hhh hm
   cases hc:(Nat.beq m es.length&&Nat.ble l hh&&Nat.ble hh es.length&&es.all (λe=>Nat.beq e.cells.length te.size)) with
   |false=>grind
   |true =>
    rw[hc,cond_true] at h;cases h;simp only[Bool.and_eq_true,Nat.beq_eq,Nat.ble_eq,List.all_eq_true] at hc;obtain⟨⟨⟨rfl,c2⟩,c3⟩,c4⟩:=hc;exact .sliceListM hx (X53 hl) (X53 hhh) (X53 hm) c2 c3 h1 h2 h3 c4
  ·cases h
 ·cases h
def capX (T:Ty) (t:Nat):Option AV :=
 match T t with
 |some ti=>match ti.kind with
  |.slice _=>some (.sc (.int .i64 0))
  |_=>none
 |none=>none
theorem X08h {T:Ty} {ev:Operand->AV} {H:Xz} {t:Nat} {x:Operand} {r:AV} (hx:ev x=.nils) (h:capX T t=some r):Pu T ev H (.call { callee:=.builtin .cap,args:=#[x],argTypes:=#[t] }) r:=by
 unfold capX at h;split at h
 ·split at h
  ·rename_i hk;cases h;exact .capNils hx (by assumption) hk
  ·cases h
 ·cases h
def pX (T:Ty) (ev:Operand->AV) (H:Xz) (op:Op):Option AV :=
 match op with
 |.binOp op t x y yt=>match ev x,ev y with
  |.sc (.int k a),.sc (.int k' b)=>Bool.rec (motive:=λ_=>Option AV) (qPu T ev H (.binOp op t x y yt)) (Option.rec (motive:=λ_=>Option AV) (qPu T ev H (.binOp op t x y yt)) (λr=>some r) (iX op k a b)) (Nat.beq (kn k) (kn k'))
  |.sc (.string a),.sc (.string b)=>sX op a b
  |a,b=>nX T ev H op t x y yt a b
 |.slice t x lo hi none=>match ev x with
  |.ref o off len=>slR T ev H t o off len lo hi
  |.sc (.string s)=>slS T ev t s lo hi
  |_=>qPu T ev H (.slice t x lo hi none)
 |.slice t x lo (some hi) (some mx)=>match qPu T ev H (.slice t x lo (some hi) (some mx)) with
  |some a=>some a
  |none=>match ev x with
   |.list own es=>slM T ev t own es lo hi mx
   |_=>none
 |.call { callee:=.builtin .cap,args:=⟨[x]⟩,argTypes:=⟨[t]⟩ }=>match ev x with
  |.nils=>capX T t
  |_=>none
 |.index t x ix=>match ev x,ev ix with
  |.sc (.string s),.sc (.int _ i)=>ixS T t s i
  |_,_=>qPu T ev H (.index t x ix)
 |.makeFunc (.func f) ⟨[x]⟩ ⟨[]⟩=>some (.mv f (ev x))
 |op=>qPu T ev H op
theorem X0aj {T:Ty} {ev:Operand->AV} {H:Xz} {op:Op} {a:AV} (h:pX T ev H op=some a):Pu T ev H op a:=by
 unfold pX at h;split at h
 ·rename_i op t x y yt;split at h
  ·rename_i k a' k' b hx hy
   cases hk:Nat.beq (kn k) (kn k') with
   |false=>rw[hk] at h;exact Xer h
   |true =>
    rw[hk] at h;have:=Xxh hk;subst this;have h:Option.rec (motive:=λ_=>Option AV) (qPu T ev H (.binOp op t x y yt)) (λr=>some r) (iX op k a' b)=some a:=h
    cases hi:iX op k a' b with
    |none=>rw[hi] at h;exact Xer h
    |some r=>rw[hi] at h;cases h;exact X0bg hx hy hi
  ·rename_i hx hy;exact X0dt hx hy h
  ·exact X0e8 rfl rfl h
 ·grind [X0a1,X0a0,Xer]
 ·grind [Xer,X0a2]
 ·grind [X08h]
 ·grind [Xxu,Xer]
 ·cases h;exact .makeFuncM
 ·exact Xer h
end Go.Av.X


namespace Go.Av
variable [Gls]
def byL (s:ByteArray):List AV:=s.data.toList.map λu=>.sc (.int .u8 u.toNat)
theorem OpR.bytes {P:Program} {T:Ty} {nt:Nat} {o:Oper} {s:St} {src dst e:Nat} {x:Operand} {b:ByteArray} {ts td te:TI} (hT:X7a P T) (ho:o.op=.convert src dst x) (hx:evA s.A x=.sc (.string b))
  (h1:T src=some ts) (k1:ts.kind=.string) (h2:T dst=some td) (k2:td.kind=.slice e) (h3:T e=some te) (k3:te.kind=.int .u8) :
  OpR P nt o s (λa' H' n'=>a'=.list true (byL b)/\H'=s.H/\n'=s.n):=by
 intro c0 H0 n0 c act g K Q hK R;have hev:=g.ev x;rw[hx] at hev;have hv:act.eval x=.string b:=hev.sc_inv;have u1:P.underlying src=some .string:=by
  obtain⟨_,d,_,hd,_,hk,_⟩:=(hT src ts h1).parts;rw[k1] at hk;cases d<;>first|exact hd|cases hk
 have u2:P.underlying dst=some (.slice e):=by
  obtain⟨_,d,_,hd,_,hk,_⟩:=(hT dst td h2).parts;rw[k2] at hk;cases d<;>first|(cases hk;exact hd)|cases hk
 have u3:P.underlying e=some (.int .u8):=by
  obtain⟨_,d,_,hd,_,hk,_⟩:=(hT e te h3).parts;rw[k3] at hk;cases d<;>first|(cases hk;exact hd)|cases hk
 have hrun:=Lib.run_convert_string_bytes (P:=P) c.w src dst e b u1 u2 u3;refine Oper.wpR (λd hd=>by grind) ?_;unfold Oper.wp;have hrun2:(execOp act.eval o).run P c.w=.ok (.value (.slice (some ⟨c.w.heap.size,0,none⟩) b.size (grownCap c.w b.size 0 e))) (Lib.bytesWorld c.w e b):=by
  grind [execOp,Sem.run_bind,Result.andThen_ok,Sem.run_pure]
 rw[hrun2];let W:=Lib.bytesWorld c.w e b
 have hold:∀ k,k<c.w.heap.size->W.heap[k]?=c.w.heap[k]?:=λk hk=>Lib.bytesWorld_at_old c.w e b k hk;have hsz:W.heap.size=c.w.heap.size+1:=Lib.bytesWorld_size c.w e b;let c':Ctx:=⟨W,c.ρ,c.Sa,λk=>c.So k\/k=c.w.heap.size,c.B⟩
 have hI:=g.inv;have hle:c.Le (·<s.n) c':=⟨λ_ _=>rfl,λk hk=>hk,λk hk=>.inl hk,λk hk=>hold k (hI.lt k hk),rfl⟩;have hblk:∀ o x,s.H o=some x->(c.ρ o).blk<c.w.heap.size:=by
  intro o x hx;obtain⟨_,⟨⟨cur,hcb,_⟩,_⟩,_⟩:=hI.obj o x hx
  grind
 have hI':Inv c' s.H (·<s.n):=by
  refine⟨λo x hx=>?_,hI.sep,λo x hx=>?_,λk hk=>?_,by show c.B<=W.heap.size;have:=hI.base;omega,λk hk=>?_,hI.low,hI.glob.mono hle⟩
  ·obtain⟨h1,⟨⟨cur,hb,hss,hc⟩,h3,h4,h5⟩,h6⟩:=hI.obj o x hx;refine⟨h1,⟨⟨cur,by grind,hss,?_⟩,h3,h4,h5⟩,h6⟩;intro i e he;obtain⟨g1,g2⟩:=hc i e he;exact⟨g1,λk a ha=>by obtain⟨v,hv,hr,h7⟩:=g2 k a ha;exact⟨v,hv,hr.mono hle (.inr (h6 e (List.mem_of_getElem? he) a (List.mem_of_getElem? ha))),h7⟩⟩
  ·have h1:=hI.stab o x hx
   grind
  ·show k<W.heap.size;rcases hk with hk|hk|hk
   ·have:=hI.lt k (.inl hk);omega
   ·have:=hI.lt k (.inr hk);omega
   ·omega
  ·rcases hk with hk|hk
   ·exact hI.own k hk
   ·rw[hk];exact hI.base
 have hfr:Fr c s.H W:=by
  refine⟨rfl,rfl,⟨rfl,?_⟩,by omega,λk hk _=>hold k hk⟩;show dr c.w<=dr (Lib.bytesWorld c.w e b);exact Xho (Nat.le_succ _)
 have hrel:X0m c' false (.list true (byL b)) (.slice (some ⟨c.w.heap.size,0,none⟩) b.size (grownCap c.w b.size 0 e)):=by
  have hlen:(byL b).length=b.size:=by simp_all [byL,List.length_map,Array.length_toList]
  by_cases hne:byL b=[]
  ·rw[hne] at hlen ⊢;have:b.size=0:=by grind
   rw[this];exact .listNil
  ·have hd:∀ (i:Nat) ee,(byL b)[i]?=some ee->i<b.size/\ee=.sc (.int .u8 (b.data.toList.getD i 0).toNat):=by
    grind [byL,Option.some.injEq,List.getElem?_eq_some_iff,Array.length_toList]
   refine .list (esz:=1) (λi _=>.int .u8 (b.data.toList.getD i 0).toNat) hne (.inr (.inr rfl)) hlen.symm ?_ (λi ee he=>?_) (λi ee k a he ha=>?_) (λi ee k a he ha=>rfl) (λi ee k a he ha=>?_)
   ·grind [grownCap_ge]
   ·rw[(hd i ee he).2];rfl
   ·obtain⟨hi,rfl⟩:=hd i ee he
    cases k with
    |zero =>
     grind [Lib.bytesWorld_cell]
    |succ k=>cases ha
   ·obtain⟨hi,rfl⟩:=hd i ee he
    cases k with
    |zero=>cases ha;exact .sc
    |succ k=>cases ha
 exact hK c' _ s.H s.n _ ⟨rfl,rfl,rfl⟩ λdst' hd=>g.next hd hle rfl (λk hk=>hk.elim .inl (λh=>.inr (.inl om))) hfr (λq x hx=>.inr ⟨q,x,hx,rfl⟩) hI' g.solo (Nat.le_refl _) hrel .list
def Ext (P:Program) (f:Nat) (as:List AV) (r:AV):Prop :=
 ∀ (c:Ctx) (vs:Array Value),Xbr c false as vs->∃ v,(callFunc f vs).run P c.w=.ok (.value v) c.w/\X0m c false r v/\r.Ok (λ_=>False)
theorem OpR.ext {P:Program} {nt:Nat} {s:St} {o:Oper} {x:Operand} {args:Array Operand} {ts:Array Nat} {f:Nat} {caps:List AV} {r:AV}
  (ho:o.op=.call { callee:=.value x,args:=args,argTypes:=ts }) (hx:evA s.A x=.fn f caps) (h:Ext P f (args.toList.map (evA s.A)++caps) r):OpR P nt o s (λa' H' n'=>a'=r/\H'=s.H/\n'=s.n):=by
 intro c0 H0 n0 c act g K Q hK R;have hfx:=g.ev x;rw[hx] at hfx;obtain⟨cv,hcv,hcl,hcr⟩:=hfx.fn_inv;let vs:Array Value:=args.map act.eval++cv
 have hrel:Xbr c false (args.toList.map (evA s.A)++caps) vs:=by
  refine⟨by grind,λi a v ha hv=>?_⟩;rw[List.getElem?_append] at ha;simp only[vs,Array.getElem?_append,Array.size_map] at hv;simp only[List.length_map,Array.length_toList] at ha;by_cases hi:i<args.size
  ·rw[if_pos hi] at ha hv;rw[List.getElem?_map] at ha;rw[Array.getElem?_map] at hv
   cases hq:args[i]? with
   |none=>grind
   |some q =>
    have hq':args.toList[i]?=some q:=by grind
    simp only[hq',Option.map_some,Option.some.injEq] at ha;simp only[hq,Option.map_some,Option.some.injEq] at hv;subst ha hv;exact g.ev q
  grind
 obtain⟨v,hr,hv,hok⟩:=h c _ hrel;have hrun:(execOp act.eval o).run P c.w=.ok (.value v) c.w:=by
  grind [execOp,resolve,Deferred.ofValue,Sem.run_bind,Sem.run_pure,Result.andThen_ok,invoke]
 refine Oper.wpR (λd hd=>by grind) ?_;unfold Oper.wp;rw[hrun];exact hK c r s.H s.n v ⟨rfl,rfl,rfl⟩ λdst hd=>g.next hd (.refl c) rfl (λk hk=>.inl hk) ⟨rfl,rfl,⟨rfl,Nat.le_refl _⟩,Nat.le_refl _,λ_ _ _=>rfl⟩ (λq x hx=>.inr ⟨q,x,hx,rfl⟩) g.inv g.solo (Nat.le_refl _) hv (hok.mono λ_ h=>h.elim)
theorem OpR.extM {P:Program} {nt:Nat} {s:St} {o:Oper} {x:Operand} {args:Array Operand} {ts:Array Nat} {f:Nat} {ra r:AV}
  (ho:o.op=.call { callee:=.value x,args:=args,argTypes:=ts }) (hx:evA s.A x=.mv f ra) (h:Ext P f (ra::args.toList.map (evA s.A)) r):OpR P nt o s (λa' H' n'=>a'=r/\H'=s.H/\n'=s.n):=by
 intro c0 H0 n0 c act g K Q hK R;have hfx:=g.ev x;rw[hx] at hfx;have hru:∃ u,act.eval x=.func (.func f) #[u] #[]/\X0m c false ra u:=by
  generalize act.eval x=q at hfx
  cases hfx with|mv h=>grind
 obtain⟨u,hcv,hru⟩:=hru;let vs:Array Value:=#[u]++args.map act.eval
 have hrel:Xbr c false (ra::args.toList.map (evA s.A)) vs:=by
  refine⟨by grind,λi a v ha hv=>?_⟩
  cases i with
  |zero =>
   grind
  |succ i =>
   have hv':(args.map act.eval)[i]?=some v:=by
    grind
   simp only[List.getElem?_cons_succ] at ha;rw[List.getElem?_map] at ha;rw[Array.getElem?_map] at hv'
   cases hq:args[i]? with
   |none=>grind
   |some q =>
    have hq':args.toList[i]?=some q:=by grind
    simp only[hq',Option.map_some,Option.some.injEq] at ha;simp only[hq,Option.map_some,Option.some.injEq] at hv';subst ha hv';exact g.ev q
 obtain⟨v,hr,hv,hok⟩:=h c _ hrel;have hrun:(execOp act.eval o).run P c.w=.ok (.value v) c.w:=by
  grind [execOp,resolve,Deferred.ofValue,Sem.run_bind,Sem.run_pure,Result.andThen_ok,invoke]
 refine Oper.wpR (λd hd=>by grind) ?_;unfold Oper.wp;rw[hrun];exact hK c r s.H s.n v ⟨rfl,rfl,rfl⟩ λdst hd=>g.next hd (.refl c) rfl (λk hk=>.inl hk) ⟨rfl,rfl,⟨rfl,Nat.le_refl _⟩,Nat.le_refl _,λ_ _ _=>rfl⟩ (λq x hx=>.inr ⟨q,x,hx,rfl⟩) g.inv g.solo (Nat.le_refl _) hv (hok.mono λ_ h=>h.elim)
def ixB (c:Nat) (l:List UInt8) (i:Nat):Int :=
 List.rec (motive:=λ_=>Nat->Int) (λ_ => -1) (λb _ ih i=>Bool.rec (motive:=λ_=>Int) (ih (i+1)) (.ofNat i) (Nat.beq b.toNat c)) l i
theorem X0bd (c:UInt8):∀ (l:List UInt8) (i:Nat),ixB c.toNat l i=if Lib.indexByte l c = -1 then -1 else Lib.indexByte l c+i:=by
 intro l
 induction l with
 |nil=>intro i;rfl
 |cons b l ih =>
  intro i;show Bool.rec (motive:=λ_=>Int) (ixB c.toNat l (i+1)) (.ofNat i) (Nat.beq b.toNat c.toNat)=_;unfold Lib.indexByte
  cases hb:Nat.beq b.toNat c.toNat with
  |true =>
   grind [UInt8.toNat_inj,Nat.eq_of_beq_eq_true]
  |false =>
   have:(b==c)=false:=by
    grind [beq_eq_false_iff_ne,Nat.beq_refl]
   show ixB c.toNat l (i+1)=_;rw[this,ih];have:=Lib.indexByte_ge l c
   grind
theorem Xxv (s:ByteArray) (c:UInt8):ixB c.toNat s.data.toList 0=firstIdx s c:=by
 simp_all [X0bd,Lib.firstIdx_eq,Lib.indexByte,if_pos,if_neg]
theorem Xyb {P : Program} {f : Nat} {fn : Func} (hf : P.funcs[f]? = some fn) (hname : (fn.name == "runtime.NumGoroutine") = false) (hb : fn.body.isNone = true) (hn : Extern.findNext fn = none)
  (he:Extern.find fn=some Extern.BytealgIndexByte.indexByte) (s:ByteArray) (c:Nat) (hc:c<256):Ext P f [.sc (.string s),.sc (.int .u8 c)] (.sc (.int .i64 (ixB c s.data.toList 0))):=by
 intro cx vs hv;have hl:=hv.len;have h0:=hv.rel 0 (.sc (.string s)) (vs[0]'(by grind)) rfl (Array.getElem?_eq_getElem _);have h1:=hv.rel 1 (.sc (.int .u8 c)) (vs[1]'(by grind)) rfl (Array.getElem?_eq_getElem _);have e:vs=#[.string s,.int .u8 c]:=by
  apply Array.ext
  ·grind
  ·intro i hi hi2
   match i with
   |0=>exact h0.sc_inv
   |1=>exact h1.sc_inv
   |i+2=>grind
 subst e;refine⟨.int .i64 (ixB c s.data.toList 0),?_,.sc,.sc⟩;rw[run_callFunc_extern hf hname hb hn he,run_indexByte_string];have:((c:Int).toNat.toUInt8)=UInt8.ofNat c:=rfl;rw[this,<-Xxv];have:(UInt8.ofNat c).toNat=c:=by simp;omega
 rw[this];rfl
def ixG:List AV->Option AV
 |[.sc (.string s),.sc (.int .u8 (.ofNat c))]=>bif Nat.blt c 256 then some (.sc (.int .i64 (ixB c s.data.toList 0))) else none
 |_=>none
theorem X0bc {P : Program} {f : Nat} {fn : Func} (hf : P.funcs[f]? = some fn) (hname : (fn.name == "runtime.NumGoroutine") = false) (hb : fn.body.isNone = true) (hn : Extern.findNext fn = none)
  (he:Extern.find fn=some Extern.BytealgIndexByte.indexByte):∀ as r,ixG as=some r->Ext P f as r:=by
 intro as r h;unfold ixG at h;split at h
 ·rename_i s c
  cases hc:Nat.blt c 256 with
  |false=>grind
  |true =>
   rw[hc] at h;cases h
   simp_all [Xyb]
 ·cases h
theorem OpR.notNil {P:Program} {T:Ty} {nt:Nat} {s:St} {o:Oper} {t yt et:Nat} {x:Operand} {ti:TI} {bo:BinOp} {z:Bool} (hT:X7a P T) (ho:o.op=.binOp bo t x (.const (.slice none 0 0)) yt) (ht:T t=some ti) (hk:ti.kind=.slice et)
  (hm:X6y (evA s.A x)=some false) (hb:bo=.eql/\z=false\/bo=.neq/\z=true):OpR P nt o s (λa' H' n'=>a'=.sc (.bool z)/\H'=s.H/\n'=s.n):=by
 intro c0 H0 n0 c act g K Q hK R;have hv:=g.ev x;obtain⟨p,m1,m2,hv',hp'⟩:=Xq2 hv hm;have hp:=hp' rfl;refine Oper.wpR (λd hd=>by grind) ?_;unfold Oper.wp;have hu:=X1i (hT t ti ht) hk;have hr:(execOp act.eval o).run P c.w=.ok (.value (.bool z)) c.w:=by
  obtain⟨dst,op,type,pos,after,guard⟩:=o;simp only at ho;subst ho;have hc:act.eval (.const (.slice none 0 0))=.slice none 0 0:=rfl;simp only[execOp,hv',hc];rcases hb with ⟨rfl,rfl⟩|⟨rfl,rfl⟩
  ·have:=Xhw (P:=P) (t:=t) (x:=x) (p:=p) (n:=m1) (m:=m2) hu c.w (.const (.slice none 0 0));rw[Sem.run_bind,this,hp];rfl
  ·have h1:(eqGuard .neq t x (.const (.slice none 0 0)) (.slice p m1 m2) (.slice none 0 0)).run P c.w=.ok () c.w:=rfl;have h2:(binOp .neq t (.slice p m1 m2) (.slice none 0 0))=(do pure (.bool (!(<-Op.equalIn (9999+1) t (.slice p m1 m2) (.slice none 0 0)))):Sem Value):=rfl
   simp_all [eqGuard,binOp,bool,Sem.run_bind,Result.andThen_ok,Xld,hp]
 rw[hr];exact hK c _ s.H s.n _ ⟨rfl,rfl,rfl⟩ λdst hd=>g.next hd (.refl c) rfl (λk hk=>.inl hk) ⟨rfl,rfl,⟨rfl,Nat.le_refl _⟩,Nat.le_refl _,λ_ _ _=>rfl⟩ (λq x hx=>.inr ⟨q,x,hx,rfl⟩) g.inv g.solo (Nat.le_refl _) .sc .sc
end Go.Av


namespace Go.Av.X
variable [Gls]
open Go.Av
inductive Stk:Nat->Prop
inductive StkO:Nat->Op->Prop
inductive StkA:Nat->AV->Prop
def fN (n:Nat) (k:Nat->Prop):Prop:=Nat.rec (motive:=λ_=>(Nat->Prop)->Prop) (λk=>k 0) (λm _ k=>k (Nat.succ m)) n k
theorem X5l (n:Nat) (k:Nat->Prop):fN n k=k n:=by cases n<;>rfl
def fZ (z:Int) (k:Int->Prop):Prop:=Int.rec (motive:=λ_=>(Int->Prop)->Prop) (λn k=>fN n λn=>k (.ofNat n)) (λn k=>fN n λn=>k (.negSucc n)) z k
theorem X030 (z:Int) (k:Int->Prop):fZ z k=k z:=by
 cases z with
 |ofNat n=>exact X5l n λn=>k (.ofNat n)
 |negSucc n=>exact X5l n λn=>k (.negSucc n)
def fB (b:Bool) (k:Bool->Prop):Prop:=Bool.rec (motive:=λ_=>(Bool->Prop)->Prop) (λk=>k false) (λk=>k true) b k
theorem Xem (b:Bool) (k:Bool->Prop):fB b k=k b:=by cases b<;>rfl
def fK (x:IntKind) (k:IntKind->Prop):Prop:=IntKind.rec (motive:=λ_=>(IntKind->Prop)->Prop) (λk=>k .i8) (λk=>k .i16) (λk=>k .i32) (λk=>k .i64) (λk=>k .u8) (λk=>k .u16) (λk=>k .u32) (λk=>k .u64) x k
theorem X0g0 (x:IntKind) (k:IntKind->Prop):fK x k=k x:=by cases x<;>rfl
def fY (u:UInt8) (k:UInt8->Prop):Prop:=fN u.toNat λn=>k (UInt8.ofNat n)
theorem X0fy (u:UInt8) (k:UInt8->Prop):fY u k=k u:=by unfold fY;rw[X5l,UInt8.ofNat_toNat]
def fYs (l:List UInt8):(List UInt8->Prop)->Prop :=
 List.rec (motive:=λ_=>(List UInt8->Prop)->Prop) (λk=>k []) (λu _ ih k=>fY u λu=>ih λl=>k (u::l)) l
theorem X0bz (l:List UInt8):∀ k:List UInt8->Prop,fYs l k=k l:=by
 induction l with
 |nil=>intro k;rfl
 |cons u l ih=>intro k;show fY u (λu=>fYs l λl=>k (u::l))=_;rw[X0fy,ih]
def fS (s:ByteArray) (k:ByteArray->Prop):Prop:=fYs s.data.toList λl=>k ⟨⟨l⟩⟩
theorem X0fz (s:ByteArray) (k:ByteArray->Prop):fS s k=k s:=by unfold fS;rw[X0bz]
def fV (v:Value) (k:Value->Prop):Prop :=
 Value.rec (motive_1:=λ_=>(Value->Prop)->Prop) (motive_2:=λ_=>Unit) (motive_3:=λ_=>Unit) (λb k=>fB b λb=>k (.bool b)) (λx z k=>fK x λx=>fZ z λz=>k (.int x z)) (λx n k=>k (.float x n)) (λx n m k=>k (.complex x n m)) (λs k=>fS s λs=>k (.string s)) (λa k=>k (.pointer a)) (λa l c k=>k (.slice a l c)) (λr k=>k (.map r)) (λr k=>k (.chan r)) (λf a b _ _ k=>k (.func f a b)) (λk=>k .nilFunc) (λt v _ k=>k (.iface t v)) (λk=>k .nilIface) (λc _ k=>k (.agg c)) (λc _ k=>k (.tuple c)) (λ_ _=>()) () (λ_ _ _ _=>()) v k
theorem X0c0 (v:Value) (k:Value->Prop):fV v k=k v:=by
 cases v with
 |bool b=>exact Xem b λb=>k (.bool b)
 |int x z=>show fK x (λx=>fZ z λz=>k (.int x z))=_;rw[X0g0,X030]
 |string s=>exact X0fz s λs=>k (.string s)
 |_=>rfl
def sh (a:AV) (k:AV->Prop):Prop :=
 AV.rec (motive_1:=λ_=>(AV->Prop)->Prop) (motive_2:=λ_=>Unit) (λk=>k .junk) (λv k=>k (.sc v)) (λk=>k .nils) (λc _ k=>k (.agg c)) (λc _ k=>k (.tup c)) (λo e _ k=>k (.list o e)) (λo f l k=>k (.ref o f l)) (λo i j k=>k (.ptr o i j)) (λo e j _ k=>k (.elem o e j)) (λf c _ k=>k (.fn f c)) (λo m k=>k (.mref o m)) (λb v _ k=>k (.cond b v)) (λf a _ k=>k (.mv f a)) () (λ_ _ _ _=>()) a k
theorem X8z (a:AV) (k:AV->Prop):sh a k=k a:=by cases a<;>rfl
def fsp (g:AV->(AV->Prop)->Prop) (l:List AV):(List AV->Prop)->Prop :=
 List.rec (motive:=λ_=>(List AV->Prop)->Prop) (λk=>k []) (λa _ ih k=>g a λa=>ih λl=>k (a::l)) l
theorem Xy4 {g:AV->(AV->Prop)->Prop} (hg:∀ a k,g a k=k a) (l:List AV):∀ k:List AV->Prop,fsp g l k=k l:=by
 induction l with
 |nil=>intro k;rfl
 |cons a l ih=>simp_all [fsp]
def fL:List AV->(List AV->Prop)->Prop:=fsp sh
theorem Xp2 (l:List AV) (k:List AV->Prop):fL l k=k l:=Xy4 X8z l k
def fA (a:AV) (k:AV->Prop):Prop :=
 AV.rec (motive_1:=λ_=>(AV->Prop)->Prop) (motive_2:=λ_=>Unit) (λk=>k .junk) (λv k=>fV v λv=>k (.sc v)) (λk=>k .nils) (λc _ k=>fL c λc=>k (.agg c)) (λc _ k=>fL c λc=>k (.tup c)) (λo e _ k=>fB o λo=>fL e λe=>k (.list o e)) (λo f l k=>fN o λo=>fN f λf=>fN l λl=>k (.ref o f l)) (λo i j k=>fN o λo=>fN i λi=>fN j λj=>k (.ptr o i j)) (λo e j _ k=>fB o λo=>sh e λe=>fN j λj=>k (.elem o e j)) (λf c _ k=>fN f λf=>fL c λc=>k (.fn f c)) (λo m k=>k (.mref o m)) (λb v _ k=>fB b λb=>sh v λv=>k (.cond b v)) (λf a _ k=>fN f λf=>sh a λa=>k (.mv f a)) () (λ_ _ _ _=>()) a k
theorem Xb2 (a:AV) (k:AV->Prop):fA a k=k a:=by
 cases a with
 |junk=>rfl
 |sc v=>exact X0c0 v λv=>k (.sc v)
 |nils=>rfl
 |agg c=>exact Xp2 c λc=>k (.agg c)
 |tup c=>exact Xp2 c λc=>k (.tup c)
 |list o e=>show fB o (λo=>fL e λe=>k (.list o e))=_;rw[Xem,Xp2]
 |ref o f l=>show fN o (λo=>fN f λf=>fN l λl=>k (.ref o f l))=_;rw[X5l,X5l,X5l]
 |ptr o f l=>show fN o (λo=>fN f λf=>fN l λl=>k (.ptr o f l))=_;rw[X5l,X5l,X5l]
 |elem o e j=>show fB o (λo=>sh e λe=>fN j λj=>k (.elem o e j))=_;rw[Xem,X8z,X5l]
 |fn f c=>show fN f (λf=>fL c λc=>k (.fn f c))=_;rw[X5l,Xp2]
 |mref o m=>rfl
 |cond b v=>show fB b (λb=>sh v λv=>k (.cond b v))=_;rw[Xem,X8z]
 |mv f a=>show fN f (λf=>sh a λa=>k (.mv f a))=_;rw[X5l,X8z]
def fO (g:AV->(AV->Prop)->Prop) (x:Obj) (k:Obj->Prop):Prop :=
 fsp g x.es λes=>fN x.esz λz=>fB x.spent λb=>fB x.solo λc=>fB x.gone λd=>k ⟨es,z,b,c,d⟩
theorem Xel {g:AV->(AV->Prop)->Prop} (hg:∀ a k,g a k=k a) (x:Obj) (k:Obj->Prop):fO g x k=k x:=by
 unfold fO;rw[Xy4 hg,X5l,Xem,Xem,Xem]
def fD (a:AV):(AV->Prop)->Prop :=
 AV.rec (motive_1:=λ_=>(AV->Prop)->Prop) (motive_2:=λ_=>(List AV->Prop)->Prop) (λk=>k .junk) (λv k=>fV v λv=>k (.sc v)) (λk=>k .nils) (λ_ ih k=>ih λc=>k (.agg c)) (λ_ ih k=>ih λc=>k (.tup c))
  (λo _ ih k=>fB o λo=>ih λe=>k (.list o e)) (λo f l k=>fN o λo=>fN f λf=>fN l λl=>k (.ref o f l)) (λo i j k=>fN o λo=>fN i λi=>fN j λj=>k (.ptr o i j)) (λo _ j ih k=>fB o λo=>ih λe=>fN j λj=>k (.elem o e j))
  (λf _ ih k=>fN f λf=>ih λc=>k (.fn f c)) (λo m k=>k (.mref o m)) (λb _ ih k=>fB b λb=>ih λv=>k (.cond b v)) (λf _ ih k=>fN f λf=>ih λa=>k (.mv f a)) (λk=>k []) (λ_ _ ih1 ih2 k=>ih1 λa=>ih2 λl=>k (a::l)) a
def fDs (l:List AV):(List AV->Prop)->Prop :=
 AV.rec_1 (motive_1:=λ_=>(AV->Prop)->Prop) (motive_2:=λ_=>(List AV->Prop)->Prop) (λk=>k .junk) (λv k=>fV v λv=>k (.sc v)) (λk=>k .nils) (λ_ ih k=>ih λc=>k (.agg c)) (λ_ ih k=>ih λc=>k (.tup c))
  (λo _ ih k=>fB o λo=>ih λe=>k (.list o e)) (λo f l k=>fN o λo=>fN f λf=>fN l λl=>k (.ref o f l)) (λo i j k=>fN o λo=>fN i λi=>fN j λj=>k (.ptr o i j)) (λo _ j ih k=>fB o λo=>ih λe=>fN j λj=>k (.elem o e j))
  (λf _ ih k=>fN f λf=>ih λc=>k (.fn f c)) (λo m k=>k (.mref o m)) (λb _ ih k=>fB b λb=>ih λv=>k (.cond b v)) (λf _ ih k=>fN f λf=>ih λa=>k (.mv f a)) (λk=>k []) (λ_ _ ih1 ih2 k=>ih1 λa=>ih2 λl=>k (a::l)) l
theorem Xux (a:AV):∀ k,fD a k=k a:=by
 refine AV.rec (motive_1:=λa=>∀ k,fD a k=k a) (motive_2:=λl=>∀ k:List AV->Prop,fDs l k=k l) ?_ ?_ ?_ ?_ ?_ ?_ ?_ ?_ ?_ ?_ ?_ ?_ ?_ ?_ ?_ a
 ·intro k;rfl
 ·intro v k;exact X0c0 v λv=>k (.sc v)
 ·intro k;rfl
 ·intro c ih k;exact ih λc=>k (.agg c)
 ·intro c ih k;exact ih λc=>k (.tup c)
 ·intro o e ih k;show fB o (λo=>fDs e λe=>k (.list o e))=_;rw[Xem,ih]
 ·intro o f l k;show fN o (λo=>fN f λf=>fN l λl=>k (.ref o f l))=_;rw[X5l,X5l,X5l]
 ·intro o f l k;show fN o (λo=>fN f λf=>fN l λl=>k (.ptr o f l))=_;rw[X5l,X5l,X5l]
 ·intro o e j ih k;show fB o (λo=>fD e λe=>fN j λj=>k (.elem o e j))=_;rw[Xem,ih,X5l]
 ·intro f c ih k;show fN f (λf=>fDs c λc=>k (.fn f c))=_;rw[X5l,ih]
 ·intro o m k;rfl
 ·intro b v ih k;show fB b (λb=>fD v λv=>k (.cond b v))=_;rw[Xem,ih]
 ·intro f a ih k;show fN f (λf=>fD a λa=>k (.mv f a))=_;rw[X5l,ih]
 ·intro k;rfl
 ·intro a l ih1 ih2 k;show fD a (λa=>fDs l λl=>k (a::l))=_;rw[ih1,ih2]
theorem Xn7 (l:List AV):∀ k,fDs l k=k l:=by
 induction l with
 |nil=>intro k;rfl
 |cons a l ih=>intro k;show fD a (λa=>fDs l λl=>k (a::l))=_;rw[Xux,ih]
def stk (n:Nat):Prop:=Stk n
def effX (id:Nat) (H:HX) (e:Eff) (k:HX->Prop):Prop :=
 match e with
 |.none=>k H
 |.new x=>fO fA x λx=>X3a H id (some x) k
 |.app old x=>fO sh x λx=>X3a H old none λH=>X3a H id (some x) k
theorem X080 {id:Nat} {H:HX} {e:Eff} {k:HX->Prop} (h:effX id H e k):∃ H',hpX H'=e.seq id (hpX H)/\k H':=by
 cases e with
 |none=>exact⟨H,rfl,h⟩
 |new x =>
  have h:fO fA x (λx=>X3a H id (some x) k):=h;rw[Xel Xb2] at h;exact X39 h
 |app old x =>
  have h:fO sh x (λx=>X3a H old none λH=>X3a H id (some x) k):=h;rw[Xel X8z] at h;obtain⟨H1,h1,h⟩:=X39 h;obtain⟨H2,h2,h⟩:=X39 h;exact⟨H2,by rw[h2,h1];rfl,h⟩
def X04y (id:Nat) (H:HX) (e:X2h) (k:HX->Prop):Prop :=
 match e with
 |.none=>k H
 |.new x=>fO fA x λx=>X3a H id (some x) k
 |.app old x=>fO sh x λx=>X3a H old none λH=>X3a H id (some x) k
 |.set o x=>fO fA x λx=>X3a H o (some x) k
theorem X00r {id:Nat} {H:HX} {e:X2h} {k:HX->Prop} (h:X04y id H e k):∃ H',hpX H'=e.go id (hpX H)/\k H':=by
 cases e with
 |none=>exact⟨H,rfl,h⟩
 |new x =>
  have h:fO fA x (λx=>X3a H id (some x) k):=h
  grind [Xel,Xb2,X2h.go_new,X39]
 |app old x =>
  have h:fO sh x (λx=>X3a H old none λH=>X3a H id (some x) k):=h
  grind [Xel,X8z,X39,X2h.go_app]
 |set o x =>
  have h:fO fA x (λx=>X3a H o (some x) k):=h
  grind [Xel,Xb2,X2h.go_set,X39]
def setL (l:List AV):Nat->AV->(List AV->Prop)->Prop :=
 List.rec (motive:=λ_=>Nat->AV->(List AV->Prop)->Prop) (λ_ _ k=>k []) (λb l ih i a k=>Nat.rec (motive:=λ_=>AV->List AV->AV->(Nat->AV->(List AV->Prop)->Prop)->(List AV->Prop)->Prop) (λ_ l a _ k=>k (a::l)) (λi _ b _ a ih k=>ih i a λl=>k (b::l)) i b l a ih k) l
theorem Xwc (l:List AV):∀ (i:Nat) (a:AV) (k:List AV->Prop),setL l i a k=k (l.set i a):=by
 induction l with
 |nil=>intro i a k;rfl
 |cons b l ih =>
  intro i a k
  cases i with
  |zero=>rfl
  |succ i=>exact ih i a λl=>k (b::l)
abbrev Xdw:=Nat->List AV->HX->Nat->(AV->HX->Nat->Prop)->Prop
def Xht (P:Program) (rec:Xdw):Prop :=
 ∀ f as H n k,rec f as H n k->∃ r H' n',HC P f as (hpX H) n (λr2 H2 n2=>r2=r/\H2=hpX H'/\n2=n')/\k r H' n'
def Xnc (P:Program) (rec:Xdw):Prop :=
 ∀ f as H n k,rec f as H n k->(∃ r H' n',HC P f as (hpX H) n (λr2 H2 n2=>r2=r/\H2=hpX H'/\n2=n')/\k r H' n')\/(∃ r,Ext P f as r/\k r H n)
theorem Xht.X {P:Program} {rec:Xdw} (h:Xht P rec):Xnc P rec:=λf as H n k hk=>.inl (h f as H n k hk)
def extR (X:Nat->Option (List AV->Option AV)) (rec:Xdw):Xdw:=λf as H n k =>
 match X f with
 |none=>rec f as H n k
 |some g=>match g as with
  |some r=>fA r λr=>k r H n
  |none=>Stk f
def Xvd (P:Program) (X:Nat->Option (List AV->Option AV)):Prop:=∀ f g,X f=some g->∀ as r,g as=some r->Ext P f as r
theorem X07v {P:Program} {X:Nat->Option (List AV->Option AV)} {rec:Xdw} (hX:Xvd P X) (h:Xht P rec):Xnc P (extR X rec):=by
 intro f as H n k hk;unfold extR at hk;split at hk
 ·exact .inl (h _ _ _ _ _ hk)
 ·rename_i g hg;split at hk
  ·rename_i r hr;rw[Xb2] at hk;exact .inr ⟨r,hX _ _ hg _ _ hr,hk⟩
  ·cases hk
def stC (ti:TI) (y:Obj) (e v:AV) (k:Nat):Bool:=y.solo&&v.whole&&Nat.beq v.cells.length ti.size&&Nat.ble (k+ti.size) e.cells.length&&!Nat.beq ti.size 0
def stX (T:Ty) (H:HX) (t:Nat) (p v:AV) (K:Obj->List AV->Nat->HX->Prop):Prop :=
 match T t with
 |some ti=>match p with
  |.ptr o i k=>match hpX H o with
   |some y=>match y.es[i]? with
    |some e=>Bool.rec (motive:=λ_=>Prop) (stk 11) (fA (X5q e k v) λe'=>setL y.es i e' λes=>X3a H o (some { y with es:=es }) (K y es o)) (stC ti y e v k)
    |none=>stk 12
   |none=>stk 13
  |p=>StkA 14 p
 |none=>stk 15
theorem X09w {T:Ty} {ev:Operand->AV} {H:HX} {t:Nat} {p x:Operand} {K:Obj->List AV->Nat->HX->Prop} (h:stX T H t (ev p) (ev x) K) :
  ∃ q z y es H',stF T ev (hpX H) t p x=some (q,z)/\hpX H'=upd (hpX H) q (some z)/\K y es q H':=by
 unfold stX at h;split at h
 ·rename_i ti hT;split at h
  ·rename_i o i k hp;split at h
   ·rename_i y hy;split at h
    ·rename_i e he
     cases hc:stC ti y e (ev x) k with
     |false=>rw[hc] at h;cases h
     |true =>
      rw[hc] at h;have h:fA (X5q e k (ev x)) (λe'=>setL y.es i e' λes=>X3a H o (some { y with es:=es }) (K y es o)):=h;rw[Xb2,Xwc] at h;obtain⟨H',h1,h2⟩:=X39 h;refine⟨o,_,y,_,H',?_,h1,h2⟩;simp only[stC,Bool.and_eq_true,Nat.beq_eq,Nat.ble_eq,Bool.not_eq_true'] at hc
      simp_all [stF,hp,if_pos,Nat.ne_of_beq_eq_false]
    ·cases h
   ·cases h
  ·cases h
 ·cases h
def Xqv (rec:Xdw) (H:HX) (n:Nat) (f:AV) (as:List AV) (k:AV->HX->Nat->Prop):Prop :=
 match f with
 |.fn f caps=>fL (as++caps) λas=>rec f as H n k
 |.mv f a=>fL (a::as) λas=>rec f as H n k
 |f=>StkA 21 f
def strB (a:AV):Bool:=match a with
 |.sc _=>true
 |_=>false
def cp0X (a b:Option Nat) (s:Bool) (H:HX) (n:Nat) (k:AV->HX->Nat->Prop):Prop :=
 match a,b with
 |some a,some b=>if min b a=0/\s=false then k (.sc (goInt 0)) H n else stk 32
 |_,_=>stk 37
theorem X08a {a b:Option Nat} {s:Bool} {H:HX} {n:Nat} {k:AV->HX->Nat->Prop} (h:cp0X a b s H n k):∃ x y,a=some x/\b=some y/\min y x=0/\s=false/\k (.sc (goInt 0)) H n:=by
 unfold cp0X at h;split at h
 ·split at h
  ·grind
  ·cases h
 ·cases h
def cpX (T:Ty) (ev:Operand->AV) (H:HX) (n:Nat) (t:Nat) (d x:Operand) (k:AV->HX->Nat->Prop):Prop :=
 match X2n T t with
 |some te=>match srcF (hpX H) (ev x) with
  |some xs=>match ev d with
   |.ref q off len=>match hpX H q with
    |some y=>if min xs.length len≠0/\off+len<=y.es.length/\y.esz=te.size then
      (if xs.all (λe=>e.cells.length==te.size)=true then
       fN (min xs.length len) λm=>fO sh { y with es:=splice y.es off (xs.take m) } λz=>X3a H q (some z) λH=>k (.sc (goInt (m:Nat))) H n else stk 31)
      else cp0X (Xq3 (ev d)) (Xq3 (ev x)) (strB (ev x)) H n k
    |none=>stk 33
   |_=>stk 34
  |none=>stk 35
 |none=>stk 36
theorem OpR.trunc {P:Program} {nt:Nat} {o:Oper} {A:Nat->AV} {H:Xz} {n q:Nat} {y:Obj} {R:AV->Xz->Nat->Prop} (hy:H q=some y) (m:Nat) (h:OpR P nt o ⟨A,upd H q (some { y with es:=y.es.take m }),n⟩ R):OpR P nt o ⟨A,H,n⟩ R :=
 λc0 H0 n0 c act g=>h c0 H0 n0 c act (g.trunc hy m)
def cutX (ev:Operand->AV) (H:HX) (n:Nat) (op:Op) (k:HX->Prop):Prop :=
 match op with
 |.call { callee:=.builtin .append,args:=⟨[s,_]⟩,argTypes:=_ }=>match ev s with
  |.ref o 0 m=>match hpX H o with
   |some y=>fO sh { y with es:=y.es.take m } λy=>X3a H o (some y) k
   |none=>stk 42
  |a=>fA a (StkA 43)
 |op=>StkO n op
def mkX (T:Ty) (F:FX) (n:Nat) (op:Op) (H:HX) (no:Prop) (k:AV->HX->Nat->Prop):Prop :=
 match mkF T (evA (frX F)) (hpX H) n op with
 |some (a,e)=>fA a λa=>effX n H e λH=>fN (n+1) λn=>k a H n
 |none=>no
def flB (es:List AV):Bool:=es.all λe=>e.cells.all strB
theorem X048 {es:List AV} (h:flB es=true):∀ e∈es,∀ a∈e.cells,∃ v,a=.sc v:=λe he a ha=>by
 have:=List.all_eq_true.1 (List.all_eq_true.1 h e he) a ha;cases a<;>first|exact⟨_,rfl⟩|cases this
def frX3 (T:Ty) (ev:Operand->AV) (H:HX) (n:Nat) (t q len:Nat) (lo:Option Operand) (hi mx:Operand) (no:Prop) (k:AV->HX->Nat->Prop):Prop :=
 match X2n T t with
 |some te=>match hpX H q with
  |some y=>match bdF ev lo 0,bdF ev (some hi) 0,bdF ev (some mx) 0 with
   |some l,some h,some m=>bif Nat.beq m len&&Nat.beq y.es.length len&&Nat.ble l h&&Nat.ble h len&&Nat.beq y.esz te.size&&flB y.es then fA (.list true ((y.es.drop l).take (h - l))) λa=>X3a H q none λH=>k a H n else no
   |_,_,_=>no
  |none=>no
 |none=>no
theorem X07m {P:Program} {T:Ty} {nt:Nat} {H:HX} {n:Nat} {o:Oper} {no:Prop} {k:AV->HX->Nat->Prop} {A:Nat->AV} {t q len:Nat} {x:Operand} {lo:Option Operand} {hi mx:Operand} (hT:X7a P T) (ho:o.op=.slice t x lo (some hi) (some mx)) (hx:evA A x=.ref q 0 len) (h:frX3 T (evA A) H n t q len lo hi mx no k) :
  (∃ a H' n',OpR P nt o ⟨A,hpX H,n⟩ (λa' H2 n2=>a'=a/\H2=hpX H'/\n2=n')/\k a H' n')\/no:=by
 unfold frX3 at h;split at h
 ·rename_i te hs;obtain⟨ti,et,h1,h2,h3⟩:=X16 hs;split at h
  ·rename_i y hy;split at h
   ·rename_i l hh m hl hhh hm
    cases hc:(Nat.beq m len&&Nat.beq y.es.length len&&Nat.ble l hh&&Nat.ble hh len&&Nat.beq y.esz te.size&&flB y.es) with
    |false=>grind
    |true =>
     rw[hc,cond_true,Xb2] at h;simp only[Bool.and_eq_true,Nat.beq_eq,Nat.ble_eq] at hc;obtain⟨⟨⟨⟨⟨rfl,c1⟩,c2⟩,c3⟩,c4⟩,c5⟩:=hc;obtain⟨H',e1,h⟩:=X39 h;refine .inl ⟨_,H',n,?_,h⟩;have:=OpR.sliceFrz (s:=⟨A,hpX H,n⟩) (nt:=nt) hT ho hx hy c1 (X53 hl) (X53 hhh) (X53 hm) c2 c3 h1 h2 h3 c4 (X048 c5)
     grind
   grind
  grind
 grind
def exX (T:Ty) (F:FX) (H:HX) (n:Nat) (op:Op) (no:Prop) (k:AV->HX->Nat->Prop):Prop :=
 match op with
 |.convert s d x=>match T s,T d with
  |some ts,some td=>match ts.kind,td.kind with
   |.string,.slice e=>match T e with
    |some te=>match te.kind with
     |.int .u8=>match evA (frX F) x with
      |.sc (.string b)=>fD (.list true (byL b)) λa=>k a H n
      |_=>no
     |_=>no
    |none=>no
   |_,_=>no
  |_,_=>no
 |.slice t x lo (some hi) (some mx)=>match evA (frX F) x with
  |.ref q 0 len=>frX3 T (evA (frX F)) H n t q len lo hi mx no k
  |_=>no
 |.binOp bo t x (.const (.slice none 0 0)) _=>match T t with
  |some ti=>match ti.kind with
   |.slice _=>match X6y (evA (frX F) x) with
    |some false=>match bo with
     |.eql=>k (.sc (.bool false)) H n
     |.neq=>k (.sc (.bool true)) H n
     |_=>no
    |_=>no
   |_=>no
  |none=>no
 |_=>no
def opG (T:Ty) (rec:Xdw) (F:FX) (H:HX) (n:Nat) (o:Oper) (k:AV->HX->Nat->Prop):Prop :=
 match o.op with
 |.move x=>sh (evA (frX F) x) λa=>k a H n
 |.assign x=>sh (evA (frX F) x) λa=>k a H n
 |.store t p x=>stX T H t (evA (frX F) p) (evA (frX F) x) λ_ _ _ H=>k (.sc undef) H n
 |.call { callee:=.value x,args:=args,argTypes:=_ }=>Xqv rec H n (evA (frX F) x) (args.toList.map (evA (frX F))) k
 |.call { callee:=.builtin .copy,args:=⟨[d,x]⟩,argTypes:=⟨[t,_]⟩ }=>cpX T (evA (frX F)) H n t d x k
 |op=>match pX T (evG (frX F)) (hpX H) op with
  |some a=>fA a λa=>k a H n
  |none=>mkX T F n op H (exX T F H n op (cutX (evA (frX F)) H n op λH=>mkX T F n op H (StkO n op) k) k) k
theorem X0c3 {A B:Nat->AV} (h:evA A=evA B):evG A=evG B:=by
 funext x
 cases x with
 |global g=>rfl
 |tmp t=>exact congrFun h (.tmp t)
 |const v=>rfl
 |func f=>rfl
theorem Xxb {P:Program} {T:Ty} {nt:Nat} {F:FX} {H:HX} {n:Nat} {o:Oper} {no:Prop} {k:AV->HX->Nat->Prop} {A:Nat->AV} (hA:evA A=evA (frX F)) (hT:X7a P T) (h:mkX T F n o.op H no k) :
  no\/∃ a H' n',OpR P nt o ⟨A,hpX H,n⟩ (λa' H2 n2=>a'=a/\H2=hpX H'/\n2=n')/\k a H' n':=by
 unfold mkX at h;rw[<-hA] at h;split at h
 ·rename_i hm;rw[Xb2] at h;obtain⟨H',e1,h⟩:=X080 h;rw[X5l] at h;obtain⟨h1,h2⟩:=Xt4 hm;refine .inr ⟨_,_,_,?_,h⟩;rw[e1];exact OpR.mk hT (s:=⟨A,hpX H,n⟩) h1 h2
 grind
theorem X087 {ev:Operand->AV} {H:HX} {n:Nat} {op:Op} {k:HX->Prop} (h:cutX ev H n op k):∃ q y m H',hpX H q=some y/\hpX H'=upd (hpX H) q (some { y with es:=y.es.take m })/\k H':=by
 unfold cutX at h;split at h
 ·split at h
  ·split at h
   ·grind [Xel,X8z,X39]
   ·cases h
  ·rw[Xb2] at h;cases h
 ·cases h
theorem X0c2 {P:Program} {T:Ty} {nt:Nat} {F:FX} {H:HX} {n:Nat} {o:Oper} {no:Prop} {k:AV->HX->Nat->Prop} {A:Nat->AV} (hA:evA A=evA (frX F)) (hT:X7a P T) (h:exX T F H n o.op no k) :
  (∃ a H' n',OpR P nt o ⟨A,hpX H,n⟩ (λa' H2 n2=>a'=a/\H2=hpX H'/\n2=n')/\k a H' n')\/no:=by
 unfold exX at h;split at h
 ·rename_i s d x ho;split at h
  ·rename_i ts td h1 h2;split at h
   ·rename_i e k1 k2;split at h
    ·rename_i te h3;split at h
     ·rename_i k3;split at h
      ·rename_i b hx;rw[Xux] at h;exact .inl ⟨_,_,_,OpR.bytes (s:=⟨A,hpX H,n⟩) hT ho (by simp_all) h1 k1 h2 k2 h3 k3,h⟩
      grind
     grind
    grind
   grind
  grind
 ·rename_i t x lo hi mx ho;rw[<-hA] at h;split at h
  ·rename_i hx;exact X07m hT ho hx h
  grind
 ·rename_i bo t x yt ho;split at h
  ·rename_i ti ht;split at h
   ·rename_i et hk;split at h
    ·rename_i hm;rw[<-hA] at hm;split at h
     ·exact .inl ⟨_,_,_,OpR.notNil (s:=⟨A,hpX H,n⟩) hT ho ht hk hm (.inl ⟨rfl,rfl⟩),h⟩
     ·exact .inl ⟨_,_,_,OpR.notNil (s:=⟨A,hpX H,n⟩) hT ho ht hk hm (.inr ⟨rfl,rfl⟩),h⟩
     grind
    grind
   grind
  grind
 grind
theorem X0am {P:Program} {T:Ty} {rec:Xdw} {nt:Nat} {F:FX} {H:HX} {n:Nat} {o:Oper} {k:AV->HX->Nat->Prop} {A:Nat->AV} (hA:evA A=evA (frX F)) (hT:X7a P T) (hr:Xnc P rec) (h:opG T rec F H n o k) :
  ∃ a H' n',OpR P nt o ⟨A,hpX H,n⟩ (λa' H2 n2=>a'=a/\H2=hpX H'/\n2=n')/\k a H' n':=by
 unfold opG at h;simp only[<-hA,<-X0c3 hA] at h;split at h
 ·rename_i x ho;rw[X8z] at h;exact⟨_,_,_,OpR.pu hT (s:=⟨A,hpX H,n⟩) (by rw[ho];exact .move),h⟩
 ·rename_i x ho;rw[X8z] at h;exact⟨_,_,_,OpR.pu hT (s:=⟨A,hpX H,n⟩) (by rw[ho];exact .assign),h⟩
 ·rename_i t p x ho;obtain⟨q,z,y,es,H',h1,h2,h3⟩:=X09w h;obtain⟨i,k',y,e,ti,g1,g2,g3,g4,g5,g6,g7,g8,g9,rfl⟩:=X03n h1;refine⟨_,_,_,?_,h3⟩;rw[h2];refine OpR.st hT (s:=⟨A,hpX H,n⟩) ?_;rw[ho];exact .store g1 g2 g3 g4 g5 g6 g7 g8 g9
 ·rename_i x args ts ho;unfold Xqv at h;split at h
  ·rename_i f caps hx;rw[Xp2] at h;rcases hr _ _ _ _ _ h with ⟨r,H',n',h1,h2⟩|⟨r,h1,h2⟩
   ·grind [OpR.call,hpX]
   ·exact⟨r,H,n,OpR.ext (s:=⟨A,hpX H,n⟩) ho hx h1,h2⟩
  ·rename_i f ra hx;rw[Xp2] at h;rcases hr _ _ _ _ _ h with ⟨r,H',n',h1,h2⟩|⟨r,h1,h2⟩
   ·grind [OpR.callM,hpX]
   ·exact⟨r,H,n,OpR.extM (s:=⟨A,hpX H,n⟩) ho hx h1,h2⟩
  ·cases h
 ·rename_i d x t t' ho;unfold cpX at h;split at h
  ·rename_i hs;obtain⟨ti,et,h1,h2,h3⟩:=X16 hs;split at h
   ·rename_i hx;split at h
    ·rename_i hd;split at h
     ·rename_i hH;split at h
      ·rename_i hh;obtain⟨g1,g2,g3⟩:=hh;split at h
       ·rename_i hall;rw[X5l,Xel X8z] at h;obtain⟨H',e1,e2⟩:=X39 h;refine⟨_,_,_,?_,e2⟩;rw[e1];have:=OpR.copy (nt:=nt) hT (s:=⟨A,hpX H,n⟩) ho hd hH g2 (Xgz hx) g1 h1 h2 h3 (λe he=>by grind) g3
        grind
       ·cases h
      ·obtain⟨a,b,g1,g2,g3,g4,h⟩:=X08a h;exact⟨_,_,_,OpR.copy0 (nt:=nt) (s:=⟨A,hpX H,n⟩) hT ho g1 (λu hu=>by grind) g2 (λu hu=>by rw[hu] at g4;cases g4) g3 h1 h2 h3,h⟩
     ·cases h
    ·cases h
   ·cases h
  ·cases h
 ·split at h
  ·rename_i hp;rw[Xb2] at h;exact⟨_,_,_,OpR.puG hT (s:=⟨A,hpX H,n⟩) (X0aj hp),h⟩
  ·rename_i ho _;rcases Xxb (nt:=nt) hA hT h with h|h
   ·rcases X0c2 (nt:=nt) hA hT h with h|h
    ·exact h
    obtain⟨q,y,m,H1,hy,hH,h⟩:=X087 h;rcases Xxb (nt:=nt) hA hT h with h|⟨a,H',n',h1,h2⟩
    ·cases h
    grind [OpR.trunc]
   ·exact h
abbrev KA:=AV->HX->Nat->Prop
abbrev OPX:=Ty->Xdw->FX->HX->Nat->Oper->KA->Prop
def shC (b:Bool) (v:AV) (k:AV->Prop):Prop:=Bool.rec (motive:=λ_=>AV->(AV->Prop)->Prop) (λ_ k=>k .junk) sh b v k
def shS (a:AV) (k:AV->Prop):Prop :=
 AV.rec (motive_1:=λ_=>(AV->Prop)->Prop) (motive_2:=λ_=>Unit) (λk=>k .junk) (λv k=>k (.sc v)) (λk=>k .nils) (λc _ k=>k (.agg c)) (λc _ k=>k (.tup c)) (λo e _ k=>k (.list o e)) (λo f l k=>k (.ref o f l)) (λo i j k=>k (.ptr o i j)) (λo e j _ k=>k (.elem o e j)) (λf c _ k=>k (.fn f c)) (λo m k=>k (.mref o m)) (λb v _ k=>shC b v k) (λf a _ k=>k (.mv f a)) () (λ_ _ _ _=>()) a k
theorem X0a3 (a:AV) (k:AV->Prop):shS a k=k (X52 a):=by
 cases a with
 |cond b v=>cases b with
  |true=>exact X8z v k
  |false=>rfl
 |_=>rfl
def evKT (t:Nat) (F:FX) (k:AV->Prop):Prop:=shS (frX F t) k
def evKC (v:Value) (_:FX) (k:AV->Prop):Prop:=sh (X1m v) k
def evKG (g:Nat) (_:FX) (k:AV->Prop):Prop:=k (.sc (.pointer (some ⟨g,0,none⟩)))
def evKF (f:Nat) (_:FX) (k:AV->Prop):Prop:=k (.fn f [])
def evK (F:FX) (x:Operand) (k:AV->Prop):Prop:=Operand.rec (motive:=λ_=>FX->(AV->Prop)->Prop) evKT evKC evKG evKF x F k
theorem Xdr (F:FX) (x:Operand) (k:AV->Prop):evK F x k=k (evA (frX F) x):=by
 cases x with
 |tmp t=>exact X0a3 _ k
 |const v=>exact X8z _ k
 |_=>rfl
def X0be (v:Value) (k:IntKind->Int->Prop) (no:Prop):Prop :=
 Value.rec (motive_1:=λ_=>(IntKind->Int->Prop)->Prop->Prop) (motive_2:=λ_=>Unit) (motive_3:=λ_=>Unit) (λ_ _ no=>no) (λx z k no=>k x z) (λ_ _ _ no=>no) (λ_ _ _ _ no=>no) (λ_ _ no=>no) (λ_ _ no=>no) (λ_ _ _ _ no=>no) (λ_ _ no=>no) (λ_ _ no=>no) (λ_ _ _ _ _ _ no=>no) (λ_ no=>no) (λ_ _ _ _ no=>no) (λ_ no=>no) (λ_ _ _ no=>no) (λ_ _ _ no=>no) (λ_ _=>()) () (λ_ _ _ _=>()) v k no
def X029 (a:AV) (k:IntKind->Int->Prop) (no:Prop):Prop :=
 AV.rec (motive_1:=λ_=>(IntKind->Int->Prop)->Prop->Prop) (motive_2:=λ_=>Unit) (λ_ no=>no) (λv k no=>X0be v k no) (λ_ no=>no) (λ_ _ _ no=>no) (λ_ _ _ no=>no) (λ_ _ _ _ no=>no) (λ_ _ _ _ no=>no) (λ_ _ _ _ no=>no) (λ_ _ _ _ _ no=>no) (λ_ _ _ _ no=>no) (λ_ _ _ no=>no) (λ_ _ _ _ no=>no) (λ_ _ _ _ no=>no) () (λ_ _ _ _=>()) a k no
theorem Xta {a:AV} {k:IntKind->Int->Prop} {no:Prop} (h:X029 a k no):no\/∃ x z,a=.sc (.int x z)/\k x z:=by
 cases a with
 |sc v=>cases v with
  |int x z=>exact .inr ⟨x,z,rfl,h⟩
  |_=>exact .inl h
 |_=>exact .inl h
def X07e (v:Value) (k:Bool->Prop) (no:Prop):Prop :=
 Value.rec (motive_1:=λ_=>(Bool->Prop)->Prop->Prop) (motive_2:=λ_=>Unit) (motive_3:=λ_=>Unit) (λb k no=>k b) (λ_ _ _ no=>no) (λ_ _ _ no=>no) (λ_ _ _ _ no=>no) (λ_ _ no=>no) (λ_ _ no=>no) (λ_ _ _ _ no=>no) (λ_ _ no=>no) (λ_ _ no=>no) (λ_ _ _ _ _ _ no=>no) (λ_ no=>no) (λ_ _ _ _ no=>no) (λ_ no=>no) (λ_ _ _ no=>no) (λ_ _ _ no=>no) (λ_ _=>()) () (λ_ _ _ _=>()) v k no
def X043 (a:AV) (k:Bool->Prop) (no:Prop):Prop :=
 AV.rec (motive_1:=λ_=>(Bool->Prop)->Prop->Prop) (motive_2:=λ_=>Unit) (λ_ no=>no) (λv k no=>X07e v k no) (λ_ no=>no) (λ_ _ _ no=>no) (λ_ _ _ no=>no) (λ_ _ _ _ no=>no) (λ_ _ _ _ no=>no) (λ_ _ _ _ no=>no) (λ_ _ _ _ _ no=>no) (λ_ _ _ _ no=>no) (λ_ _ _ no=>no) (λ_ _ _ _ no=>no) (λ_ _ _ _ no=>no) () (λ_ _ _ _=>()) a k no
theorem Xxw {a:AV} {k:Bool->Prop} {no:Prop} (h:X043 a k no):no\/∃ b,a=.sc (.bool b)/\k b:=by
 cases a with
 |sc v=>cases v with
  |bool b=>exact .inr ⟨b,rfl,h⟩
  |_=>exact .inl h
 |_=>exact .inl h
def Xqb (a:AV) (k:Nat->Nat->Nat->Prop) (el:Bool->AV->Nat->Prop) (no:Prop):Prop :=
 AV.rec (motive_1:=λ_=>(Nat->Nat->Nat->Prop)->(Bool->AV->Nat->Prop)->Prop->Prop) (motive_2:=λ_=>Unit) (λ_ _ no=>no) (λ_ _ _ no=>no) (λ_ _ no=>no) (λ_ _ _ _ no=>no) (λ_ _ _ _ no=>no) (λ_ _ _ _ _ no=>no) (λ_ _ _ _ _ no=>no) (λo i j k el no=>k o i j) (λo e j _ k el no=>el o e j) (λ_ _ _ _ _ no=>no) (λ_ _ _ _ no=>no) (λ_ _ _ _ _ no=>no) (λ_ _ _ _ _ no=>no) () (λ_ _ _ _=>()) a k el no
theorem Xjd {a:AV} {k:Nat->Nat->Nat->Prop} {el:Bool->AV->Nat->Prop} {no:Prop} (h:Xqb a k el no):no\/(∃ o i j,a=.ptr o i j/\k o i j)\/(∃ o e j,a=.elem o e j/\el o e j):=by
 cases a with
 |ptr o i j=>exact .inr (.inl ⟨o,i,j,rfl,h⟩)
 |elem o e j=>exact .inr (.inr ⟨o,e,j,rfl,h⟩)
 |_=>exact .inl h
def nthL {α:Type} (l:List α):Nat->(α->Prop)->Prop->Prop :=
 List.rec (motive:=λ_=>Nat->(α->Prop)->Prop->Prop) (λ_ _ no=>no) (λa _ ih i k no=>Nat.rec (motive:=λ_=>α->(Nat->(α->Prop)->Prop->Prop)->(α->Prop)->Prop->Prop) (λa _ k _=>k a) (λi _ _ ih k no=>ih i k no) i a ih k no) l
theorem Xo1 {α:Type} (l:List α):∀ (i:Nat) (k:α->Prop) (no:Prop),nthL l i k no->no\/∃ a,l[i]?=some a/\k a:=by
 induction l with
 |nil=>intro i k no h;exact .inl h
 |cons a l ih =>
  intro i k no h
  cases i with
  |zero=>exact .inr ⟨a,rfl,h⟩
  |succ i =>
   rcases ih i k no h with h|⟨b,h1,h2⟩
   ·exact .inl h
   ·exact .inr ⟨b,by rw[List.getElem?_cons_succ];exact h1,h2⟩
def Xz4 (e:AV) (k:List AV->Prop):Prop :=
 AV.rec (motive_1:=λ_=>(List AV->Prop)->Prop) (motive_2:=λ_=>Unit) (λk=>k [.junk]) (λv k=>k [.sc v]) (λk=>k [.nils]) (λc _ k=>k c) (λc _ k=>k [.tup c]) (λo e _ k=>k [.list o e]) (λo f l k=>k [.ref o f l]) (λo i j k=>k [.ptr o i j]) (λo e j _ k=>k [.elem o e j]) (λf c _ k=>k [.fn f c]) (λo m k=>k [.mref o m]) (λb v _ k=>k [.cond b v]) (λf a _ k=>k [.mv f a]) () (λ_ _ _ _=>()) e k
theorem Xz3 (e:AV) (k:List AV->Prop):Xz4 e k=k e.cells:=by cases e<;>rfl
def rawT (t:Nat) (F:FX):AV:=frX F t
def rawC (v:Value) (_:FX):AV:=X1m v
def rawG (g:Nat) (_:FX):AV:=.sc (.pointer (some ⟨g,0,none⟩))
def rawF (f:Nat) (_:FX):AV:=.fn f []
def rawX (F:FX) (x:Operand):AV:=Operand.rec (motive:=λ_=>FX->AV) rawT rawC rawG rawF x F
theorem Xss {F:FX} {x:Operand} {v:AV} (h:rawX F x=v) (hv:∀ b w,v≠.cond b w):evA (frX F) x=v:=by
 cases x with
 |tmp t =>
  show X52 (frX F t)=_;rw[show frX F t=v from h];cases v<;>first|rfl|exact absurd rfl (hv _ _)
 |_=>exact h
theorem X0aa {F:FX} {x:Operand} {v:Value} (h:rawX F x=.sc v):evA (frX F) x=.sc v:=by
 cases x with
 |tmp t=>show X52 (frX F t)=_;rw[show frX F t=.sc v from h];rfl
 |_=>exact h
def kHn (k:KA) (H:HX) (n:Nat) (a:AV):Prop:=k a H n
def X0b5 (x:Operand):OPX:=λ_ _ F H n _ k=>evK F x λa=>k a H n
def X06t (c a b:Operand):OPX:=λT rec F H n o k=>evK F c λv=>X043 v (λt=>Bool.rec (motive:=λ_=>Prop) (evK F b λa=>k a H n) (evK F a λa=>k a H n) t) (opG T rec F H n o k)
def kMk1 (_:Nat):OPX:=λT rec F H n o k=>mkX T F n o.op H (opG T rec F H n o k) k
def isAg (a:AV) (k:List AV->Prop) (lf:Prop):Prop :=
 AV.rec (motive_1:=λ_=>(List AV->Prop)->Prop->Prop) (motive_2:=λ_=>Unit) (λ_ lf=>lf) (λ_ _ lf=>lf) (λ_ lf=>lf) (λc _ k _=>k c) (λ_ _ _ lf=>lf) (λ_ _ _ _ lf=>lf) (λ_ _ _ _ lf=>lf) (λ_ _ _ _ lf=>lf) (λ_ _ _ _ _ lf=>lf) (λ_ _ _ _ lf=>lf) (λ_ _ _ lf=>lf) (λ_ _ _ _ lf=>lf) (λ_ _ _ _ lf=>lf) () (λ_ _ _ _=>()) a k lf
theorem Xoi {a:AV} {k:List AV->Prop} {lf:Prop} (h:isAg a k lf):(∃ c,a=.agg c/\k c)\/((∀ c,a≠.agg c)/\lf):=by
 cases a with
 |agg c=>exact .inl ⟨c,rfl,h⟩
 |_=>exact .inr ⟨(λ_ h=>by cases h),h⟩
def shTo (k:AV->Prop) (a:AV):Prop:=sh a k
def ld3 (j:Nat) (k:AV->Prop) (no:Prop) (c:List AV):Prop:=nthL c j (shTo k) no
def fATo (k:AV->Prop) (a:AV):Prop:=fA a k
def ld4 (ti:TI) (e:AV) (j:Nat) (k:AV->Prop) (no:Prop) (c:List AV):Prop :=
 Bool.rec (motive:=λ_=>Prop) (Option.rec (motive:=λ_=>Prop) no (fATo k) (Xgf ti e j)) (k e) (Nat.beq j 0&&Nat.beq c.length ti.size)
def ld2 (ti:TI) (j:Nat) (k:AV->Prop) (no:Prop) (e:AV):Prop :=
 Bool.rec (motive:=λ_=>Prop) (Xz4 e (ld3 j k no)) (isAg e (ld4 ti e j k no) no) ti.kind.isAgg
def ldY (ti:TI) (i j:Nat) (k:AV->Prop) (no:Prop) (y:Obj):Prop:=nthL y.es i (ld2 ti j k no) no
def ldP (H:HX) (ti:TI) (k:AV->Prop) (no:Prop) (o i j:Nat):Prop:=Option.rec (motive:=λ_=>Prop) no (ldY ti i j k no) (hpX H o)
def ldE (ti:TI) (k:AV->Prop) (no:Prop) (_:Bool) (e:AV) (j:Nat):Prop:=ld2 ti j k no e
def kLd1 (x:Operand) (T:Ty) (rec:Xdw) (F:FX) (H:HX) (n:Nat) (o:Oper) (k:KA) (ti:TI):Prop :=
 Xqb (rawX F x) (ldP H ti (kHn k H n) (opG T rec F H n o k)) (ldE ti (kHn k H n) (opG T rec F H n o k)) (opG T rec F H n o k)
def X0ea (t:Nat) (x:Operand):OPX:=λT rec F H n o k=>Option.rec (motive:=λ_=>Prop) (opG T rec F H n o k) (kLd1 x T rec F H n o k) (T t)
def lfV:Value->Bool :=
 Value.rec (motive_1:=λ_=>Bool) (motive_2:=λ_=>Unit) (motive_3:=λ_=>Unit) (λ_=>true) (λ_ _=>true) (λ_ _=>true) (λ_ _ _=>true) (λ_=>true) (λ_=>true) (λ_ _ _=>true) (λ_=>true) (λ_=>true) (λ_ _ _ _ _=>true) (true) (λ_ _ _=>true) (true) (λ_ _=>false) (λ_ _=>false) (λ_ _=>()) () (λ_ _ _ _=>())
def lfA:AV->Bool :=
 AV.rec (motive_1:=λ_=>Bool) (motive_2:=λ_=>Unit) (false) (λv=>lfV v) (true) (λ_ _=>false) (λ_ _=>false) (λ_ _ _=>true) (λ_ _ _=>true) (λ_ _ _=>true) (λ_ _ _ _=>true) (λ_ _ _=>true) (λ_ _=>false) (λ_ _ _=>false) (λ_ _ _=>true) () (λ_ _ _ _=>())
theorem X0b0 (v:Value):lfV v=v.oneCell':=by cases v<;>rfl
theorem X0b1 {a:AV} (h:lfA a=true):a.whole=true/\a.cells=[a]/\∀ xs,a≠.agg xs:=by
 cases a<;>first|(cases h;done)|(refine⟨?_,rfl,λ_ h=>by cases h⟩;first|rfl|(show Value.oneCell' _=true;rw[<-X0b0];exact h))
def putL (l:List AV):Nat->AV->(List AV->Prop)->Prop->Prop :=
 List.rec (motive:=λ_=>Nat->AV->(List AV->Prop)->Prop->Prop) (λ_ _ _ no=>no) (λb l ih i a k no=>Nat.rec (motive:=λ_=>AV->List AV->AV->(Nat->AV->(List AV->Prop)->Prop->Prop)->(List AV->Prop)->Prop->Prop) (λ_ l a _ k _=>k (a::l)) (λi _ b _ a ih k no=>ih i a (λl=>k (b::l)) no) i b l a ih k no) l
theorem X06a (l:List AV):∀ (i:Nat) (a:AV) (k:List AV->Prop) (no:Prop),putL l i a k no->no\/(i<l.length/\k (l.set i a)):=by
 induction l with
 |nil=>intro i a k no h;exact .inl h
 |cons b l ih =>
  intro i a k no h
  cases i with
  |zero=>exact .inr ⟨by simp,h⟩
  |succ i =>
   rcases ih i a (λl=>k (b::l)) no h with h|⟨h1,h2⟩
   ·exact .inl h
   ·exact .inr ⟨by simpa using h1,h2⟩
theorem Xu7 (l:List AV) (j:Nat) (v:AV) (h:j<l.length):splice l j [v]=l.set j v:=by
 apply List.ext_getElem?;intro i;rw[getElem?_splice (by simp;omega),List.getElem?_set]
 grind
def stE (ti:TI) (e:AV) (j:Nat) (v:AV) (k:AV->Prop) (no:Prop):Prop :=
 isAg v (λxs=>isAg e (λcs=>Bool.rec (motive:=λ_=>Prop) no (k v) (Nat.beq j 0&&(Nat.beq xs.length ti.size&&(Nat.beq cs.length ti.size&&!Nat.beq ti.size 0)))) no)
  (Bool.rec (motive:=λ_=>Prop) no (isAg e (λcs=>putL cs j v (λcs=>k (.agg cs)) no) (Bool.rec (motive:=λ_=>Prop) no (k v) (Nat.beq j 0))) (lfA v&&Nat.beq ti.size 1))
theorem Xz2 (a:AV) (h:∀ c,a≠.agg c):a.cells=[a]:=by cases a<;>first|rfl|exact absurd rfl (h _)
theorem X09y {ti:TI} {e:AV} {j:Nat} {v:AV} {k:AV->Prop} {no:Prop} (h:stE ti e j v k no):no\/(v.whole=true/\v.cells.length=ti.size/\j+ti.size<=e.cells.length/\ti.size≠0/\k (X5q e j v)):=by
 unfold stE at h;have h':=Xoi h;clear h;rcases h' with ⟨xs,rfl,h⟩|⟨hv,h⟩
 ·have h':=Xoi h;clear h;rcases h' with ⟨cs,rfl,h⟩|⟨_,h⟩
  ·have h0:Bool.rec (motive:=λ_=>Prop) no (k (.agg xs)) (Nat.beq j 0&&(Nat.beq xs.length ti.size&&(Nat.beq cs.length ti.size&&!Nat.beq ti.size 0))):=h;clear h;have h:=h0;clear h0
   cases hc:(Nat.beq j 0&&(Nat.beq xs.length ti.size&&(Nat.beq cs.length ti.size&&!Nat.beq ti.size 0))) with
   |false=>simp_all
   |true =>
    rw[hc] at h;simp only[Bool.and_eq_true,Nat.beq_eq,Bool.not_eq_true'] at hc;obtain⟨rfl,h1,h2,h3⟩:=hc;refine .inr ⟨rfl,h1,by show 0+ti.size<=cs.length;omega,Nat.ne_of_beq_eq_false h3,?_⟩
    simp_all [X5q,splice,if_pos]
  grind
 ·cases hl:(lfA v&&Nat.beq ti.size 1) with
  |false=>simp_all
  |true =>
   rw[hl] at h;simp only[Bool.and_eq_true,Nat.beq_eq] at hl;obtain⟨l1,l2,l3⟩:=X0b1 hl.1;have h:isAg e (λcs=>putL cs j v (λcs=>k (.agg cs)) no) (Bool.rec (motive:=λ_=>Prop) no (k v) (Nat.beq j 0)):=h;have h':=Xoi h;clear h;rcases h' with ⟨cs,rfl,g⟩|⟨he,g⟩
   ·rcases X06a _ _ _ _ _ g with g|⟨h1,h2⟩
    ·exact .inl g
    ·refine .inr ⟨l1,by grind,by show j+ti.size<=cs.length;omega,by omega,?_⟩;have:X5q (.agg cs) j v=.agg (splice cs j [v]):=by
      cases v<;>first|rfl|exact absurd rfl (hv _)
     grind [Xu7]
   ·cases hj:Nat.beq j 0 with
    |false=>simp_all
    |true =>
     rw[hj] at g;have:=Nat.eq_of_beq_eq_true hj;subst this;refine .inr ⟨l1,by grind,by rw[Xz2 e he,hl.2];simp,by omega,?_⟩;have:X5q e 0 v=v:=by
      have:X5q e 0 v=v.cells.headD e:=by cases e<;>first|rfl|exact absurd rfl (he _)
      grind
     grind
def stP (H:HX) (o i:Nat) (y:Obj) (K:HX->Prop) (e':AV):Prop:=setL y.es i e' λes=>X3a H o (some { y with es:=es }) K
def stY (ti:TI) (H:HX) (o i j:Nat) (v:AV) (K:HX->Prop) (no:Prop) (y:Obj):Prop :=
 Bool.rec (motive:=λ_=>Prop) no (nthL y.es i (λe=>stE ti e j v (stP H o i y K) no) no) y.solo
def stK2 (ti:TI) (H:HX) (o i j:Nat) (v:AV) (K:HX->Prop) (no:Prop):Prop :=
 Option.rec (motive:=λ_=>Prop) no (stY ti H o i j v K no) (hpX H o)
def X0b3 (t:Nat) (p x:Operand):OPX:=λT rec F H n o k =>
 Option.rec (motive:=λ_=>Prop) (opG T rec F H n o k) (λti=>evK F p λp=>evK F x λv=>Xqb p (λq i j=>stK2 ti H q i j v (λH=>k (.sc undef) H n) (opG T rec F H n o k)) (λ_ _ _=>opG T rec F H n o k) (opG T rec F H n o k)) (T t)
def kNil (x:Operand):OPX:=λT rec F H n o k=>evK F x λa=>Xqb a (λq i j=>k (.ptr q i j) H n) (λw e j=>k (.elem w e j) H n) (opG T rec F H n o k)
abbrev IK:=IntKind->Int->Int->(AV->Prop)->Prop->Prop
def kI (x:IntKind) (K:AV->Prop) (z:Int):Prop:=K (.sc (.int x z))
def kB (K:AV->Prop) (z:Bool):Prop:=K (.sc (.bool z))
def X0ey:IK:=λx a b K _=>fZ (wrX x (Int.add a b)) (kI x K)
def X0eq:IK:=λx a b K _=>fZ (wrX x (Int.sub a b)) (kI x K)
def X0es:IK:=λx a b K _=>fZ (wrX x (Int.mul a b)) (kI x K)
def X0ex:IK:=λ_ a b K _=>fB (eqZ a b) (kB K)
def X0er:IK:=λ_ a b K _=>fB (Bool.not (eqZ a b)) (kB K)
def X0et:IK:=λ_ a b K _=>fB (ltZ a b) (kB K)
def X0eu:IK:=λ_ a b K _=>fB (Bool.not (ltZ b a)) (kB K)
def X0ev:IK:=λ_ a b K _=>fB (ltZ b a) (kB K)
def X0ew:IK:=λ_ a b K _=>fB (Bool.not (ltZ a b)) (kB K)
def Xi3:IK:=λ_ _ _ _ no=>no
def iK:BinOp->IK:=BinOp.rec (motive:=λ_=>IK) X0ey X0eq X0es Xi3 Xi3 Xi3 Xi3 Xi3 Xi3 Xi3 Xi3 X0ex X0er X0et X0eu X0ev X0ew
theorem X0ez {op:BinOp} {x:IntKind} {a b:Int} {K:AV->Prop} {no:Prop} (h:iK op x a b K no):no\/∃ r,iX op x a b=some r/\K r:=by
 cases op with
 |add=>have h:fZ (wrX x (Int.add a b)) (kI x K):=h;rw[X030] at h;exact .inr ⟨_,rfl,h⟩
 |sub=>have h:fZ (wrX x (Int.sub a b)) (kI x K):=h;rw[X030] at h;exact .inr ⟨_,rfl,h⟩
 |mul=>have h:fZ (wrX x (Int.mul a b)) (kI x K):=h;rw[X030] at h;exact .inr ⟨_,rfl,h⟩
 |eql=>have h:fB (eqZ a b) (kB K):=h;rw[Xem] at h;exact .inr ⟨_,rfl,h⟩
 |neq=>have h:fB (Bool.not (eqZ a b)) (kB K):=h;rw[Xem] at h;exact .inr ⟨_,rfl,h⟩
 |lss=>have h:fB (ltZ a b) (kB K):=h;rw[Xem] at h;exact .inr ⟨_,rfl,h⟩
 |leq=>have h:fB (Bool.not (ltZ b a)) (kB K):=h;rw[Xem] at h;exact .inr ⟨_,rfl,h⟩
 |gtr=>have h:fB (ltZ b a) (kB K):=h;rw[Xem] at h;exact .inr ⟨_,rfl,h⟩
 |geq=>have h:fB (Bool.not (ltZ a b)) (kB K):=h;rw[Xem] at h;exact .inr ⟨_,rfl,h⟩
 |_=>exact .inl h
def bin2 (op:BinOp) (T:Ty) (rec:Xdw) (F:FX) (H:HX) (n:Nat) (o:Oper) (k:KA) (ka:IntKind) (za:Int) (kb:IntKind) (zb:Int):Prop :=
 Bool.rec (motive:=λ_=>Prop) (opG T rec F H n o k) (iK op ka za zb (kHn k H n) (opG T rec F H n o k)) (Nat.beq (kn ka) (kn kb))
def bin1 (op:BinOp) (y:Operand) (T:Ty) (rec:Xdw) (F:FX) (H:HX) (n:Nat) (o:Oper) (k:KA) (ka:IntKind) (za:Int):Prop :=
 X029 (rawX F y) (bin2 op T rec F H n o k ka za) (opG T rec F H n o k)
def kBin (op:BinOp) (t:Nat) (x y:Operand) (yt:Nat):OPX:=λT rec F H n o k=>X029 (rawX F x) (bin1 op y T rec F H n o k) (opG T rec F H n o k)
def kUn (op:UnOp) (t:Nat) (x:Operand):OPX:=λT rec F H n o k =>
 evK F x λa=>Option.rec (motive:=λ_=>Prop) (opG T rec F H n o k) (λr=>fA r λr=>k r H n) (unF op a)
def fa3 (k:KA) (H:HX) (n q i j:Nat):Prop:=k (.ptr q i j) H n
def fa2 (off:Nat) (k:KA) (H:HX) (n q i j:Nat):Prop:=fN (j+off) (fa3 k H n q i)
def fe3 (k:KA) (H:HX) (n:Nat) (w:Bool) (e:AV) (j:Nat):Prop:=k (.elem w e j) H n
def fe2 (off:Nat) (k:KA) (H:HX) (n:Nat) (w:Bool) (e:AV) (j:Nat):Prop:=fN (j+off) (fe3 k H n w e)
def fa1 (x:Operand) (T:Ty) (rec:Xdw) (F:FX) (H:HX) (n:Nat) (o:Oper) (k:KA) (off:Nat) (tf:TI):Prop :=
 Bool.rec (motive:=λ_=>Prop) (Xqb (rawX F x) (fa2 off k H n) (fe2 off k H n) (opG T rec F H n o k)) (opG T rec F H n o k) (Nat.beq tf.size 0)
def kFA (s:Nat) (x:Operand) (f:Nat):OPX:=λT rec F H n o k =>
 Option.rec (motive:=λ_=>Prop) (opG T rec F H n o k) (Prod.rec (motive:=λ_=>Prop) (fa1 x T rec F H n o k)) (Xev T s f)
def kFld (s:Nat) (x:Operand) (f:Nat):OPX:=λT rec F H n o k =>
 Option.rec (motive:=λ_=>Prop) (opG T rec F H n o k) (λr=>fA r λr=>k r H n) (Xwp T (evA (frX F)) s x f)
def X07d (a:AV) (k:List AV->Prop) (no:Prop):Prop :=
 AV.rec (motive_1:=λ_=>(List AV->Prop)->Prop->Prop) (motive_2:=λ_=>Unit) (λ_ no=>no) (λ_ _ no=>no) (λ_ no=>no) (λ_ _ _ no=>no) (λc _ k no=>k c) (λ_ _ _ _ no=>no) (λ_ _ _ _ no=>no) (λ_ _ _ _ no=>no) (λ_ _ _ _ _ no=>no) (λ_ _ _ _ no=>no) (λ_ _ _ no=>no) (λ_ _ _ _ no=>no) (λ_ _ _ _ no=>no) () (λ_ _ _ _=>()) a k no
theorem X028 {a:AV} {k:List AV->Prop} {no:Prop} (h:X07d a k no):no\/∃ c,a=.tup c/\k c:=by
 cases a with
 |tup c=>exact .inr ⟨c,rfl,h⟩
 |_=>exact .inl h
def kExt (x:Operand) (i:Nat):OPX:=λT rec F H n o k=>evK F x λa=>X07d a (λc=>nthL c i (λa=>sh a λa=>k a H n) (opG T rec F H n o k)) (opG T rec F H n o k)
def kIx (t:Nat) (x ix:Operand):OPX:=λT rec F H n o k =>
 Option.rec (motive:=λ_=>Prop) (opG T rec F H n o k) (λr=>fA r λr=>k r H n) (Xhb T (evA (frX F)) (hpX H) t x ix)
def kCV (f:Operand) (args:Array Operand):OPX:=λ_ rec F H n _ k=>evK F f λf=>Xqv rec H n f (args.toList.map (evA (frX F))) k
def X0ec (c:Call):OPX:=λT rec F H n o k =>
 Call.rec (motive:=λ_=>Prop) (λca args _=>Callee.rec (motive:=λ_=>Prop) (λf=>kCV f args T rec F H n o k) (λ_ _=>opG T rec F H n o k) (λ_=>opG T rec F H n o k) ca) c
def opX (T:Ty) (rec:Xdw) (F:FX) (H:HX) (n:Nat) (o:Oper) (k:KA):Prop :=
 Op.rec (motive:=λ_=>OPX) X0b5 X0b5 X06t kMk1 (λ_ _=>opG) (λ_ _=>opG) (λ_ _ _=>opG) (λ_ _ _ _=>opG) X0ea X0b3 (λ_=>opG) (λ_=>opG) kNil kBin kUn (λ_ _ _=>opG) (λ_ _=>opG) (λ_ _=>opG) (λ_ _ _=>opG) (λ_ _=>opG) (λ_ _=>opG) (λ_ _ _=>opG) (λ_ _ _ _ _=>opG) kFA kFld kIx (λ_ _ _=>opG) (λ_ _ _ _=>opG) (λ_ _ _ _=>opG) (λ_ _ _=>opG) (λ_ _ _ _=>opG) (λ_ _=>opG) (λ_ _=>opG) (λ_=>opG) (λ_ _ _ _=>opG) kExt X0ec (λ_=>opG) (λ_=>opG) (λ_=>opG) (λ_ _=>opG) (λ_ _ _=>opG) (λ_ _=>opG) o.op T rec F H n o k
theorem X0al {P:Program} {T:Ty} {rec:Xdw} {nt:Nat} {F:FX} {H:HX} {n:Nat} {o:Oper} {k:KA} {A:Nat->AV} (hA:evA A=evA (frX F)) (hT:X7a P T) (hr:Xnc P rec) (h:opX T rec F H n o k) :
  ∃ a H' n',OpR P nt o ⟨A,hpX H,n⟩ (λa' H2 n2=>a'=a/\H2=hpX H'/\n2=n')/\k a H' n':=by
 have gen:=λh=>X0am (P:=P) (T:=T) (rec:=rec) (nt:=nt) (F:=F) (H:=H) (n:=n) (o:=o) (k:=k) (A:=A) hA hT hr h;have pu:∀ a,Pu T (evA (frX F)) (hpX H) o.op a->k a H n->∃ a H' n',OpR P nt o ⟨A,hpX H,n⟩ (λa' H2 n2=>a'=a/\H2=hpX H'/\n2=n')/\k a H' n':=by
  intro a hp hk;rw[<-hA] at hp;exact⟨_,_,_,OpR.pu hT (s:=⟨A,hpX H,n⟩) hp,hk⟩
 have ld2_ok:∀ (ti:TI) (e:AV) (j:Nat) (kk:AV->Prop) (no:Prop),ld2 ti j kk no e->no\/∃ a,Xgf ti e j=some a/\kk a:=by
  intro ti e j kk no h;unfold ld2 at h
  cases hg:ti.kind.isAgg with
  |true =>
   rw[hg] at h;have h':=Xoi h;clear h;rcases h' with ⟨c,rfl,h⟩|⟨_,h⟩
   ·unfold ld4 at h
    cases hc:(Nat.beq j 0&&Nat.beq c.length ti.size) with
    |true =>
     rw[hc] at h;simp only[Bool.and_eq_true,Nat.beq_eq] at hc;obtain⟨rfl,hc⟩:=hc;refine .inr ⟨_,?_,h⟩;unfold Xgf;rw[if_pos hg,if_pos (by show 0+ti.size<=c.length;omega)];show some (AV.agg ((c.drop 0).take ti.size))=_
     grind
    |false =>
     rw[hc] at h
     cases hl:Xgf ti (.agg c) j with
     |none=>simp_all
     |some a =>
      rw[hl] at h;have h:fA a kk:=h;rw[Xb2] at h;grind
   grind
  |false =>
   rw[hg] at h;have h:Xz4 e (ld3 j kk no):=h;rw[Xz3] at h;rcases Xo1 _ _ _ _ h with h|⟨a,h1,h2⟩
   ·exact .inl h
   ·have h2:sh a kk:=h2
    simp_all [X8z,Xgf,if_neg]
 unfold opX at h
 cases ho:o.op with
 |move x =>
  rw[ho] at h;have h:evK F x (λa=>k a H n):=h;rw[Xdr] at h;exact pu _ (by rw[ho];exact .move) h
 |assign x =>
  rw[ho] at h;have h:evK F x (λa=>k a H n):=h;rw[Xdr] at h;exact pu _ (by rw[ho];exact .assign) h
 |pick c a b =>
  rw[ho] at h;have h:X06t c a b T rec F H n o k:=h;unfold X06t at h;rw[Xdr] at h;rcases Xxw h with h|⟨t,hc,h⟩
  ·exact gen h
  ·cases t with
   |true =>
    have h:evK F a (λa=>k a H n):=h;rw[Xdr] at h;exact pu _ (by rw[ho];exact .pick hc (λ_=>rfl) (λh=>by cases h)) h
   |false =>
    have h:evK F b (λa=>k a H n):=h;rw[Xdr] at h;exact pu _ (by rw[ho];exact .pick hc (λh=>by cases h) (λ_=>rfl)) h
 |alloc t =>
  rw[ho] at h;have h:mkX T F n o.op H (opG T rec F H n o k) k:=by rw[ho];rw[<-ho] at h;have h2:kMk1 t T rec F H n o k:=by { rw[ho] at h;exact h };unfold kMk1 at h2;rw[ho] at h2;exact h2
  rcases Xxb (nt:=nt) hA hT h with h|h
  ·exact gen h
  ·exact h
 |load t x =>
  rw[ho] at h;have h:Option.rec (motive:=λ_=>Prop) (opG T rec F H n o k) (kLd1 x T rec F H n o k) (T t):=h
  cases ht:T t with
  |none=>simp_all
  |some ti =>
   rw[ht] at h;have h:kLd1 x T rec F H n o k ti:=h;unfold kLd1 at h;rcases Xjd h with h|⟨q,i,j,hx,h⟩|⟨w,e,j,hx,h⟩
   ·exact gen h
   ·unfold ldP at h
    cases hq:hpX H q with
    |none=>simp_all
    |some y =>
     rw[hq] at h;rcases Xo1 _ _ _ _ h with h|⟨e,he,h⟩
     ·exact gen h
     ·rcases ld2_ok _ _ _ _ _ h with h|⟨a,hl,h⟩
      ·exact gen h
      ·exact pu _ (by rw[ho];exact .load ht (by rw[Xss hx (by simp)];exact .ptr hq he) hl) h
   ·rcases ld2_ok _ _ _ _ _ h with h|⟨a,hl,h⟩
    ·exact gen h
    ·exact pu _ (by rw[ho];exact .load ht (by rw[Xss hx (by simp)];exact .elem) hl) h
 |store t p x =>
  rw[ho] at h;have h:Option.rec (motive:=λ_=>Prop) (opG T rec F H n o k) (λti=>evK F p λp=>evK F x λv=>Xqb p (λq i j=>stK2 ti H q i j v (λH=>k (.sc undef) H n) (opG T rec F H n o k)) (λ_ _ _=>opG T rec F H n o k) (opG T rec F H n o k)) (T t):=h
  cases ht:T t with
  |none=>simp_all
  |some ti =>
   rw[ht] at h;have h:evK F p (λp=>evK F x λv=>Xqb p (λq i j=>stK2 ti H q i j v (λH=>k (.sc undef) H n) (opG T rec F H n o k)) (λ_ _ _=>opG T rec F H n o k) (opG T rec F H n o k)):=h;rw[Xdr,Xdr] at h;rcases Xjd h with h|⟨q,i,j,hx,h⟩|⟨w,e,j,hx,h⟩
   ·exact gen h
   ·unfold stK2 at h
    cases hq:hpX H q with
    |none=>simp_all
    |some y =>
     rw[hq] at h;have h:stY ti H q i j (evA (frX F) x) (λH=>k (.sc undef) H n) (opG T rec F H n o k) y:=h;unfold stY at h
     cases hs:y.solo with
     |false=>simp_all
     |true =>
     rw[hs] at h;rcases Xo1 _ _ _ _ h with h|⟨e,he,h⟩
     ·exact gen h
     ·rcases X09y h with h|⟨g2,g3,g4,g5,h⟩
      ·exact gen h
      ·unfold stP at h;rw[Xwc] at h;obtain⟨H',h1,h2⟩:=X39 h;refine⟨_,_,_,?_,h2⟩;rw[h1];refine OpR.st hT (s:=⟨A,hpX H,n⟩) ?_;rw[ho];show StR T (evA A) (hpX H) _ _;rw[hA];have st:=StR.store (T:=T) (ev:=evA (frX F)) (H:=hpX H) (t:=t) (p:=p) (x:=x) hx hq hs he ht g2 g3 g4 g5;exact st
   grind
 |nilCheck x =>
  rw[ho] at h;have h:evK F x (λa=>Xqb a (λq i j=>k (.ptr q i j) H n) (λw e j=>k (.elem w e j) H n) (opG T rec F H n o k)):=h;rw[Xdr] at h;rcases Xjd h with h|⟨q,i,j,hx,h⟩|⟨w,e,j,hx,h⟩
  ·exact gen h
  ·rw[<-hx] at h;exact pu _ (by rw[ho];exact .nilCheckPtr hx) h
  ·rw[<-hx] at h;exact pu _ (by rw[ho];exact .nilCheckElem hx) h
 |binOp op t x y yt =>
  rw[ho] at h;have h:X029 (rawX F x) (bin1 op y T rec F H n o k) (opG T rec F H n o k):=h;rcases Xta h with h|⟨ka,za,hx,h⟩
  ·exact gen h
  ·unfold bin1 at h;rcases Xta h with h|⟨kb,zb,hy,h⟩
   ·exact gen h
   ·unfold bin2 at h
    cases hk:Nat.beq (kn ka) (kn kb) with
    |false=>simp_all
    |true =>
     rw[hk] at h;have:=Xxh hk;subst this;rcases X0ez h with h|⟨r,hi,h⟩
     ·exact gen h
     ·exact pu _ (by grind [X0bg,X0aa]) h
 |unOp op t x =>
  rw[ho] at h;have h:kUn op t x T rec F H n o k:=h;unfold kUn at h;rw[Xdr] at h
  cases hu:unF op (evA (frX F) x) with
  |none=>simp_all
  |some r =>
   rw[hu] at h;have h:fA r (λr=>k r H n):=h;rw[Xb2] at h;exact pu _ (by rw[ho];exact Xer (T:=T) (ev:=evA (frX F)) (H:=hpX H) (op:=.unOp op t x) hu) h
 |fieldAddr s x f =>
  rw[ho] at h;have h:kFA s x f T rec F H n o k:=h;unfold kFA at h
  cases hf:Xev T s f with
  |none=>simp_all
  |some p =>
   obtain⟨off,tf⟩:=p;rw[hf] at h;have h:fa1 x T rec F H n o k off tf:=h;unfold fa1 at h
   cases hz:Nat.beq tf.size 0 with
   |true=>simp_all
   |false =>
    rw[hz] at h;obtain⟨ti,fs,ft,t1,t2,t3,t4⟩:=Xdp hf;rcases Xjd h with h|⟨q,i,j,hx,h⟩|⟨w,e,j,hx,h⟩
    ·exact gen h
    ·unfold fa2 at h;rw[X5l] at h;exact pu _ (by rw[ho];exact .fieldAddrPtr (Xss hx (by simp)) t1 t2 t3 t4 (Nat.ne_of_beq_eq_false hz)) h
    ·unfold fe2 at h;rw[X5l] at h;exact pu _ (by rw[ho];exact .fieldAddrElem (Xss hx (by simp)) t1 t2 t3 t4 (Nat.ne_of_beq_eq_false hz)) h
 |field s x f =>
  rw[ho] at h;have h:kFld s x f T rec F H n o k:=h;unfold kFld at h
  cases hu:Xwp T (evA (frX F)) s x f with
  |none=>simp_all
  |some r =>
   rw[hu] at h;have h:fA r (λr=>k r H n):=h;rw[Xb2] at h;exact pu _ (by rw[ho];exact Xer (T:=T) (ev:=evA (frX F)) (H:=hpX H) (op:=.field s x f) hu) h
 |extract x i =>
  rw[ho] at h;have h:evK F x (λa=>X07d a (λc=>nthL c i (λa=>sh a λa=>k a H n) (opG T rec F H n o k)) (opG T rec F H n o k)):=h;rw[Xdr] at h;rcases X028 h with h|⟨c,hx,h⟩
  ·exact gen h
  ·rcases Xo1 _ _ _ _ h with h|⟨a,ha,h⟩
   ·exact gen h
   ·rw[X8z] at h;exact pu _ (by rw[ho];exact .extract hx ha) h
 |indexAddr t x ix =>
  rw[ho] at h;have h:kIx t x ix T rec F H n o k:=h;unfold kIx at h
  cases hu:Xhb T (evA (frX F)) (hpX H) t x ix with
  |none=>simp_all
  |some r =>
   rw[hu] at h;have h:fA r (λr=>k r H n):=h;rw[Xb2] at h;exact pu _ (by rw[ho];exact Xer (T:=T) (ev:=evA (frX F)) (H:=hpX H) (op:=.indexAddr t x ix) hu) h
 |call c =>
  rw[ho] at h;obtain⟨ca,args,ts⟩:=c
  cases ca with
  |value x =>
   have h:evK F x (λf=>Xqv rec H n f (args.toList.map (evA (frX F))) k):=h;rw[Xdr] at h;unfold Xqv at h;split at h
   ·rename_i f caps hx;rw[Xp2] at h;rcases hr _ _ _ _ _ h with ⟨r,H',n',h1,h2⟩|⟨r,h1,h2⟩
    ·rw[<-hA] at hx h1
     grind [OpR.call,hpX]
    ·rw[<-hA] at hx h1;exact⟨r,H,n,OpR.ext (s:=⟨A,hpX H,n⟩) ho hx h1,h2⟩
   ·rename_i f ra hx;rw[Xp2] at h;rcases hr _ _ _ _ _ h with ⟨r,H',n',h1,h2⟩|⟨r,h1,h2⟩
    ·rw[<-hA] at hx h1
     grind [OpR.callM,hpX]
    ·rw[<-hA] at hx h1;exact⟨r,H,n,OpR.extM (s:=⟨A,hpX H,n⟩) ho hx h1,h2⟩
   ·cases h
  |_=>exact gen h
 |_=>simp_all
end Go.Av.X


namespace Go.Av
variable [Gls]
end Go.Av


namespace Go.Av
variable [Gls]
theorem Xyj {nt:Nat} {bad:List Nat} {d:Option Nat} (h:X8h nt bad d=true):Xen nt d=true:=by
 cases d with
 |none=>rfl
 |some d=>simp only[X8h,Bool.and_eq_true] at h;exact h.1
end Go.Av


namespace Go.Av
variable [Gls]
end Go.Av


namespace Go.Av.X
variable [Gls]
open Go.Av
def eqV:Value->Value->Bool
 |.bool a,.bool b=>Bool.rec (motive:=λ_=>Bool) (Bool.not b) b a
 |.int j a,.int k b=>Nat.beq (kn j) (kn k)&&eqZ a b
 |.string a,.string b=>eqY a.data.toList b.data.toList
 |.nilIface,.nilIface=>true
 |_,_=>false
theorem X0c4 {v w:Value} (h:eqV v w=true):v=w:=by
 unfold eqV at h;split at h
 ·rename_i a b;cases a<;>cases b<;>first|rfl|cases h
 ·rw[Bool.and_eq_true] at h;rw[Xxh h.1,(Xyf _ _).1 h.2]
 ·rename_i a b;have:=(Xyg _ _).1 h;congr 1
  exact ByteArray.ext (Array.toList_inj.1 this)
 ·rfl
 ·cases h
def eqL (f:AV->AV->Bool) (l:List AV):List AV->Bool :=
 List.rec (motive:=λ_=>List AV->Bool) (λm=>List.rec (motive:=λ_=>Bool) true (λ_ _ _=>false) m) (λa _ ih m=>List.rec (motive:=λ_=>Bool) false (λb m _=>Bool.rec (motive:=λ_=>Bool) false (ih m) (f a b)) m) l
theorem Xtm {f:AV->AV->Bool} (hf:∀ a b,f a b=true->a=b):∀ l m:List AV,eqL f l m=true->l=m:=by
 intro l
 induction l with
 |nil=>intro m h;cases m with
  |nil=>rfl
  |cons b m=>cases h
 |cons a l ih =>
  intro m h
  cases m with
  |nil=>cases h
  |cons b m =>
   have h:Bool.rec (motive:=λ_=>Bool) false (eqL f l m) (f a b)=true:=h
   cases hb:f a b with
   |false=>rw[hb] at h;cases h
   |true=>rw[hb] at h;rw[hf a b hb,ih m h]
def eqA1 (f:AV->AV->Bool):AV->AV->Bool
 |.sc v,.sc w=>eqV v w
 |.nils,.nils=>true
 |.agg l,.agg m=>eqL f l m
 |.tup l,.tup m=>eqL f l m
 |.list o l,.list p m=>Bool.rec (motive:=λ_=>Bool) (Bool.not p) p o&&eqL f l m
 |.ref o a b,.ref p c d=>Nat.beq o p&&(Nat.beq a c&&Nat.beq b d)
 |.ptr o a b,.ptr p c d=>Nat.beq o p&&(Nat.beq a c&&Nat.beq b d)
 |_,_=>false
def eqA (n:Nat):AV->AV->Bool:=Nat.rec (motive:=λ_=>AV->AV->Bool) (λ_ _=>false) (λ_ ih=>eqA1 ih) n
theorem Xyh:∀ (n:Nat) (a b:AV),eqA n a b=true->a=b:=by
 intro n
 induction n with
 |zero=>intro a b h;cases h
 |succ n ih =>
  intro a b h;have h:eqA1 (eqA n) a b=true:=h;unfold eqA1 at h;split at h
  ·rw[X0c4 h]
  ·rfl
  ·rw[Xtm ih _ _ h]
  ·rw[Xtm ih _ _ h]
  ·rename_i o l p m _;rw[Bool.and_eq_true] at h;rw[Xtm ih _ _ h.2];have:o=p:=by
    have h1:=h.1;cases o<;>cases p<;>first|rfl|cases h1
   rw[this]
  ·simp only[Bool.and_eq_true,Nat.beq_eq] at h;rw[h.1,h.2.1,h.2.2]
  ·simp only[Bool.and_eq_true,Nat.beq_eq] at h;rw[h.1,h.2.1,h.2.2]
  ·cases h
end Go.Av.X


namespace Go.Av.X
variable [Gls]
open Go.Av
def gd1 (nt:Nat) (ops:Array Oper) (A:Nat->AV) (run skip:Prop) (p:Nat×Bool):Prop :=
 match (ops[p.1]?).bind (·.dst) with
  |some t=>Bool.rec (motive:=λ_=>Prop) (stk 51) (match X52 (A t) with
   |.sc v=>Bool.rec (motive:=λ_=>Prop) skip run (Xex p.2 v)
   |_=>stk 52) (Nat.blt t nt)
  |none=>stk 53
def gdX (nt:Nat) (ops:Array Oper) (A:Nat->AV) (o:Oper) (run skip:Prop):Prop :=
 Option.rec (motive:=λ_=>Prop) run (gd1 nt ops A run skip) o.guard
theorem X0bm {nt:Nat} {ops:Array Oper} {A:Nat->AV} {o:Oper} {run skip:Prop} (h:gdX nt ops A o run skip) :
  (run/\(o.guard=none\/∃ j want t,o.guard=some (j,want)/\(ops[j]?).bind (·.dst)=some t/\Nat.blt t nt=true/\X52 (A t)=.sc (.bool want))) \/
  (skip/\∃ j want t v,o.guard=some (j,want)/\(ops[j]?).bind (·.dst)=some t/\Nat.blt t nt=true/\X52 (A t)=.sc v/\Xex want v=false):=by
 unfold gdX at h
 cases hg:o.guard with
 |none=>simp_all
 |some p =>
  obtain⟨j,want⟩:=p;rw[hg] at h;have h:gd1 nt ops A run skip (j,want):=h;unfold gd1 at h;split at h
  ·rename_i t hj
   cases ht:Nat.blt t nt with
   |false=>rw[ht] at h;cases h
   |true =>
    rw[ht] at h;have h:(match X52 (A t) with
     |.sc v=>Bool.rec (motive:=λ_=>Prop) skip run (Xex want v)
     |_=>stk 52):=h
    split at h
    ·rename_i v hv
     cases hb:Xex want v with
     |false=>rw[hb] at h;grind
     |true =>
      rw[hb] at h;have:v=.bool want:=by
       cases v<;>simp[Xex] at hb
       rw[hb]
      grind
    ·cases h
  ·cases h
theorem X04l {m:Bool} {H:Xz} {a b:AV} (h:Cv m H a b) (M:Nat->Prop):b.Ok M:=by
 induction h with
 |sc=>exact .sc
 |nils=>exact .list
 |nils0=>exact .nils
 |agg hl h ih =>
  refine .agg λb hb=>?_
  grind [List.getElem?_of_mem,List.getElem?_eq_some_iff,List.getElem?_eq_getElem]
 |tup hl h ih =>
  refine .tup λb hb=>?_
  grind [List.getElem?_of_mem,List.getElem?_eq_some_iff,List.getElem?_eq_getElem]
 |listS=>exact .list
 |listD=>exact .list
 |fn0=>exact .fn λa ha=>by cases ha
 |weak=>exact .list
 |ref=>exact .list
 |ptrL=>exact .elem
 |elemD=>exact .elem
def cvZ (H:Xz):Nat->AV->Option AV
 |0,_=>none
 |n+1,a=>match a with
  |.nils=>some .nils
  |.agg cs=>match Xrt (cvZ H n) cs with
   |some r=>some (.agg r)
   |none=>none
  |.tup cs=>match Xrt (cvZ H n) cs with
   |some r=>some (.tup r)
   |none=>none
  |a=>cvF true H (n+1) a
theorem Xyz {H:Xz}:∀ (n:Nat) (a b:AV),cvZ H n a=some b->Cv true H a b:=by
 intro n
 induction n with
 |zero=>intro a b h;cases h
 |succ n ih =>
  intro a b h;unfold cvZ at h;split at h
  ·cases h;exact .nils0
  ·split at h
   ·rename_i hm;cases h
    obtain⟨h1,h2⟩:=X8r hm;exact .agg h1 λi a b ha hb=>ih a b (h2 i a b ha hb)
   ·cases h
  ·split at h
   ·rename_i hm;cases h
    obtain⟨h1,h2⟩:=X8r hm;exact .tup h1 λi a b ha hb=>ih a b (h2 i a b ha hb)
   ·cases h
  ·exact Xgq _ _ _ h
def noH:Xz:=λ_=>none
def X06q (a:AV):Bool:=match a with
 |.sc _=>true
 |.nils=>true
 |.list _ _=>true
 |_=>false
theorem X01x {a:AV} (h:X06q a=true) (M:Nat->Prop):a.Ok M:=by
 cases a<;>first|exact .sc|exact .nils|exact .list|cases h
def newR (r:AV) (H:Xz):Option (Nat×Nat×Obj):=match r with
 |.ref q 0 len=>match H q with
  |some y=>bif y.solo&&(!y.spent&&y.es.all λe=>e.cells.all X06q) then some (q,len,y) else none
  |none=>none
 |_=>none
theorem X06j {r:AV} {H:Xz} {q len:Nat} {y:Obj} (h:newR r H=some (q,len,y)):r=.ref q 0 len/\H q=some y/\y.solo=true/\y.spent=false/\∀ e∈y.es,∀ a∈e.cells,∀ M,a.Ok M:=by
 unfold newR at h;split at h
 ·split at h
  ·rename_i y' hy
   cases hc:(y'.solo&&(!y'.spent&&y'.es.all λe=>e.cells.all X06q)) with
   |false=>grind
   |true =>
    rw[hc,cond_true] at h;cases h;simp only[Bool.and_eq_true,Bool.not_eq_true',List.all_eq_true] at hc;exact⟨rfl,hy,hc.1,hc.2.1,λe he a ha M=>X01x (hc.2.2 e he a ha) M⟩
  ·cases h
 ·cases h
def X0dv:AV->List Nat
 |.ref q _ _=>[q]
 |.ptr q _ _=>[q]
 |_=>[]
def X013 (a:AV):List Nat:=a.cells.flatMap X0dv
def okA (H:Xz):AV->Bool
 |.sc _=>true
 |.nils=>true
 |.list _ _=>true
 |.ref q _ _=>(H q).isSome
 |.ptr q _ _=>(H q).isSome
 |_=>false
theorem X0ao {H:Xz} {a:AV} (h:okA H a=true):a.Ok (λq=>∃ z,H q=some z):=by
 cases a<;>first|exact .sc|exact .nils|exact .list|(exact .ref (Option.isSome_iff_exists.1 h))|(exact .ptr (Option.isSome_iff_exists.1 h))|cases h
def okC (H:Xz) (a:AV):Bool:=a.cells.all (okA H)
theorem Xsy {H:Xz} {a:AV} (h:okC H a=true):(∀ b∈a.cells,b.Ok (λq=>∃ z,H q=some z))/\a.Ok (λq=>∃ z,H q=some z):=by
 have h1:∀ b∈a.cells,b.Ok (λq=>∃ z,H q=some z):=λb hb=>X0ao (List.all_eq_true.1 h b hb);refine⟨h1,?_⟩
 cases a with
 |agg cs=>exact .agg h1
 |_=>exact h1 _ (by simp[AV.cells])
def colX (V:Xz) (id:Nat) (f:Nat):List Nat->HX->List Nat->(HX->List Nat->Prop)->Prop :=
 Nat.rec (motive:=λ_=>List Nat->HX->List Nat->(HX->List Nat->Prop)->Prop) (λ_ _ _ _=>stk 77) (λ_ ih ws Hs L k=>match ws with
  |[]=>k Hs L
  |w::ws=>match hpX Hs w with
   |some _=>ih ws Hs L k
   |none=>match V w with
    |some y=>Bool.rec (motive:=λ_=>Prop) (stk 78) (fO sh y λy=>X3a Hs w (some y) λHs=>ih (y.es.flatMap X013++ws) Hs (w::L) k) (Nat.blt w id)
    |none=>stk 79) f
theorem X08e {V:Xz} {id:Nat}:∀ (f:Nat) (ws:List Nat) (Hs:HX) (L:List Nat) (k:HX->List Nat->Prop),(∀ o x,hpX Hs o=some x->o∈L/\V o=some x/\o<id)->colX V id f ws Hs L k ->
  ∃ Hs' L',k Hs' L'/\∀ o x,hpX Hs' o=some x->o∈L'/\V o=some x/\o<id:=by
 intro f
 induction f with
 |zero=>intro ws Hs L k _ h;cases h
 |succ f ih =>
  intro ws Hs L k hI h
  cases ws with
  |nil=>exact⟨Hs,L,h,hI⟩
  |cons w ws =>
   have h:(match hpX Hs w with
    |some _=>colX V id f ws Hs L k
    |none=>match V w with
     |some y=>Bool.rec (motive:=λ_=>Prop) (stk 78) (fO sh y λy=>X3a Hs w (some y) λHs=>colX V id f (y.es.flatMap X013++ws) Hs (w::L) k) (Nat.blt w id)
     |none=>stk 79):=h
   split at h
   ·exact ih _ _ _ _ hI h
   ·split at h
    ·rename_i y hy
     cases hb:Nat.blt w id with
     |false=>rw[hb] at h;cases h
     |true =>
      rw[hb] at h;have h:fO sh y (λy=>X3a Hs w (some y) λHs=>colX V id f (y.es.flatMap X013++ws) Hs (w::L) k):=h;rw[Xel X8z] at h;obtain⟨H1,e1,h⟩:=X39 h;refine ih _ _ _ _ (λo x hx=>?_) h;rw[e1] at hx;by_cases ho:o=w
      ·subst ho;rw[Xk] at hx;cases hx;exact⟨List.mem_cons_self,hy,by simpa using hb⟩
      ·rw[Xm _ _ ho] at hx;obtain⟨g1,g2,g3⟩:=hI o x hx;exact⟨List.mem_cons_of_mem _ g1,g2,g3⟩
    ·cases h
def eqB (a b:Bool):Bool:=bif a then b else !b
theorem X0c5 {a b:Bool} (h:eqB a b=true):a=b:=by cases a<;>cases b<;>first|rfl|cases h
def eqOb (eq:AV->AV->Bool):Option Obj->Option Obj->Bool
 |some a,some b=>Nat.beq a.esz b.esz&&(eqB a.solo b.solo&&(eqB a.spent b.spent&&(eqB a.gone b.gone&&all2e eq a.es b.es)))
 |none,none=>true
 |_,_=>false
where all2e (eq:AV->AV->Bool):List AV->List AV->Bool
 |[],[]=>true
 |a::l,b::m=>eq a b&&all2e eq l m
 |_,_=>false
theorem X03d {eq:AV->AV->Bool} (he:∀ a b,eq a b=true->a=b):∀ (l m:List AV),eqOb.all2e eq l m=true->l=m:=by
 intro l
 induction l with
 |nil=>intro m h;cases m with
  |nil=>rfl
  |cons b m=>cases h
 |cons a l ih=>intro m h;cases m with
  |nil=>cases h
  |cons b m =>
   simp only[eqOb.all2e,Bool.and_eq_true] at h
   grind
theorem X07y {eq:AV->AV->Bool} (he:∀ a b,eq a b=true->a=b) {a b:Option Obj} (h:eqOb eq a b=true):a=b:=by
 cases a with
 |none=>cases b with
  |none=>rfl
  |some b=>cases h
 |some a=>cases b with
  |none=>cases h
  |some b =>
   obtain⟨e1,z1,s1,p1,g1⟩:=a;obtain⟨e2,z2,s2,p2,g2⟩:=b;simp only[eqOb,Bool.and_eq_true,Nat.beq_eq] at h
   grind [X03d,X0c5]
def X01q (r:AV) (H:Xz):Option (Nat×Nat×Obj):=match r with
 |.ref q 0 len=>match H q with
  |some y=>bif y.solo&&!y.spent then some (q,len,y) else none
  |none=>none
 |_=>none
theorem X01p {r:AV} {H:Xz} {q len:Nat} {y:Obj} (h:X01q r H=some (q,len,y)):r=.ref q 0 len/\H q=some y/\y.solo=true/\y.spent=false:=by
 unfold X01q at h
 grind
def newV (rec:Xdw) (V:Xz) (id f:Nat) (as:List AV) (k:AV->X2h->Prop):Prop :=
 colX V id 300 (as.flatMap X013) g8 [] λHs L =>
  Bool.rec (motive:=λ_=>Prop) (stk 80) (fDs as λas=>rec f as Hs id λr H' _=>match X01q r (hpX H') with
   |some (q,len,y)=>Bool.rec (motive:=λ_=>Prop) (stk 83) (fN len λlen=>fO sh y λy=>k (.ref id 0 len) (.new y)) (Nat.ble id q&&(y.es.all (okC (hpX Hs))&&L.all λw=>eqOb (eqA 60) (hpX H' w) (hpX Hs w)))
   |none=>stk 84) (as.all (okC (hpX Hs))&&L.all λw=>match hpX Hs w with
    |some y=>y.es.all (okC (hpX Hs))
    |none=>true)
theorem Xo2 {P : Program} {rec : Xdw} {T : Ty} {A : Nat -> AV} {V : Xz} {id f : Nat} {o : Oper} {x : Operand} {args : Array Operand} {ts : Array Nat} {caps : List AV} {k : AV -> X2h -> Prop} (hr : Xht P rec)
    (ho:o.op=.call { callee:=.value x,args:=args,argTypes:=ts }) (hx:evA A x=.fn f caps) (h:newV rec V id f (args.toList.map (evA A)++caps) k):∃ a e,DOp P T A V id o a e/\k a e:=by
  unfold newV at h;obtain⟨Hs,L,h,hI⟩:=X08e _ _ _ _ _ (λo x hx=>by rw[Xl4] at hx;cases hx) h;generalize hc:((args.toList.map (evA A)++caps).all (okC (hpX Hs))&&L.all λw=>match hpX Hs w with
        |some y=>y.es.all (okC (hpX Hs))
        |none=>true)=cc at h
  cases cc with
  |false=>cases h
  |true =>
    have h:fDs (args.toList.map (evA A)++caps) (λas=>rec f as Hs id λr H' _=>match X01q r (hpX H') with
      |some (q,len,y)=>Bool.rec (motive:=λ_=>Prop) (stk 83) (fN len λlen=>fO sh y λy=>k (.ref id 0 len) (.new y)) (Nat.ble id q&&(y.es.all (okC (hpX Hs))&&L.all λw=>eqOb (eqA 60) (hpX H' w) (hpX Hs w)))
      |none=>stk 84):=h
    rw[Xn7] at h;obtain⟨r,H',n',hcall,h⟩:=hr _ _ _ _ _ h;split at h
    · rename_i q len y hnew
      obtain⟨e1,e2,e3,e4⟩:=X01p hnew;generalize hc2:(Nat.ble id q&&(y.es.all (okC (hpX Hs))&&L.all λw=>eqOb (eqA 60) (hpX H' w) (hpX Hs w)))=c2 at h
      cases c2 with
      |false=>cases h
      |true =>
        have h:fN len (λlen=>fO sh y λy=>k (.ref id 0 len) (.new y)):=h;rw[X5l,Xel X8z] at h;simp only[Bool.and_eq_true,Nat.ble_eq,List.all_eq_true] at hc hc2;obtain⟨hc1,hc3⟩:=hc;obtain⟨g1,g2,g3⟩:=hc2;refine⟨_,_,.callNewV (V':=hpX Hs) (n:=id) ho hx (λo z hz=>⟨(hI o z hz).2.1,(hI o z hz).2.2,λe he a ha=>?_⟩) (λa ha=>(Xsy (hc1 a ha)).2) (hcall.mono λr2 H2 n2 hq=>⟨hq.1.trans e1,by simp_all,g1,λo z hz=>?_⟩) (λe he a ha=>(Xsy (g2 e he)).1 a ha) e3 e4,h⟩
        · have:=hc3 o (hI o z hz).1
          rw[hz] at this;exact(Xsy (List.all_eq_true.1 this e he)).1 a ha
        · rw[hq.2.1,X07y (Xyh 60) (g3 o (hI o z hz).1)];exact hz
    · cases h
def setR (r:AV) (H:Xz):Option (Value×Obj):=match r with
 |.sc v=>match H 0 with
  |some y=>bif (y.solo&&!y.spent)&&y.es.all (okC noH) then some (v,y) else none
  |none=>none
 |_=>none
theorem X05j {r:AV} {H:Xz} {v:Value} {y:Obj} (h:setR r H=some (v,y)):r=.sc v/\H 0=some y/\y.solo=true/\y.spent=false/\y.es.all (okC noH)=true:=by
 unfold setR at h
 grind
def Xlu (rec:Xdw) (V:Xz) (f:Nat) (as:List AV) (no:Prop) (k:AV->X2h->Prop):Prop :=
 match as with
 |.ptr q i j::bs=>match V q with
  |some y=>Bool.rec (motive:=λ_=>Prop) no (fDs (.ptr 0 i j::bs) λas=>fO sh y λy=>X3a g8 0 (some y) λH0=>rec f as H0 1 λr H' _=>match setR r (hpX H') with
   |some (v,y')=>fN q λq=>fO sh y' λy'=>k (.sc v) (.set q y')
   |none=>stk 85) (bs.all (okC noH)&&y.es.all (okC noH))
  |none=>no
 |_=>no
theorem Xrs {a:AV} (h:okC noH a=true):(∀ b∈a.cells,∀ M,b.Ok M)/\∀ M,a.Ok M:=by
 obtain⟨h1,h2⟩:=Xsy h;exact⟨λb hb M=>(h1 b hb).mono (λq h=>by obtain⟨z,hz⟩:=h;cases hz),λM=>h2.mono (λq h=>by obtain⟨z,hz⟩:=h;cases hz)⟩
theorem X05h {P:Program} {rec:Xdw} {T:Ty} {A:Nat->AV} {V:Xz} {id f:Nat} {o:Oper} {x:Operand} {args:Array Operand} {ts:Array Nat} {caps:List AV} {no:Prop} {k:AV->X2h->Prop} (hr:Xht P rec)
  (ho:o.op=.call { callee:=.value x,args:=args,argTypes:=ts }) (hx:evA A x=.fn f caps) (h:Xlu rec V f (args.toList.map (evA A)++caps) no k):no\/∃ a e,DOp P T A V id o a e/\k a e:=by
 generalize hL:args.toList.map (evA A)++caps=L at h;unfold Xlu at h;split at h
 ·rename_i q i j bs;split at h
  ·rename_i y hy;generalize hc:(bs.all (okC noH)&&y.es.all (okC noH))=cc at h
   cases cc with
   |false=>exact .inl h
   |true =>
    have h:fDs (.ptr 0 i j::bs) (λas=>fO sh y λy=>X3a g8 0 (some y) λH0=>rec f as H0 1 λr H' _=>match setR r (hpX H') with
     |some (v,y')=>fN q λq=>fO sh y' λy'=>k (.sc v) (.set q y')
     |none=>stk 85):=h
    rw[Xn7,Xel X8z] at h;obtain⟨H0,e0,h⟩:=X39 h;obtain⟨r,H',n',hcall,h⟩:=hr _ _ _ _ _ h;split at h
    ·rename_i v y' hs;rw[X5l,Xel X8z] at h;obtain⟨e1,e2,e3,e4,e5⟩:=X05j hs;simp only[Bool.and_eq_true,List.all_eq_true] at hc e5;rw[e0,Xl4] at hcall;have hH:upd noH 0 (some y)=λp=>bif Nat.beq p 0 then some y else none:=by
      rfl
     refine .inr ⟨_,_,.callSet ho hx hy .ptr hL (λa ha=>(Xrs (hc.1 a ha)).2) (λe he a ha=>(Xrs (hc.2 e he)).1 a ha) (λe he a ha=>(Xrs (e5 e he)).1 a ha) (hH▸hcall.mono λr2 H2 n2 hq=>⟨hq.1.trans e1,by simp_all⟩) e3 e4,h⟩
    ·cases h
  grind
 grind
def dopX (T:Ty) (rec:Xdw) (A:Nat->AV) (V:Xz) (id:Nat) (o:Oper) (k:AV->X2h->Prop):Prop :=
 match o.op with
 |.move x=>sh (evA A x) λa=>k a .none
 |.assign x=>sh (evA A x) λa=>k a .none
 |.store t p x=>match o.dst with
  |none=>match stF T (evA A) V t p x with
   |some (q,z)=>fN q λq=>fO fA z λz=>k (.sc undef) (.set q z)
   |none=>fD (evA A p) λa=>fD (evA A x) λb=>StkA 71 (.agg [a,b])
  |some _=>stk 72
 |.call { callee:=.value x,args:=args,argTypes:=_ }=>match evA A x with
  |.fn f caps=>match Xrt (cvF false noH 100) (args.toList.map (evA A)++caps) with
   |some bs=>fDs bs λbs=>rec f bs g8 0 λr H' _=>match newR r (hpX H') with
    |some (_,len,y)=>fN len λlen=>fO sh y λy=>k (.ref id 0 len) (.new y)
    |none=>match cvZ (hpX H') 100 r with
     |some r'=>fD r' λr'=>k r' .none
     |none=>stk 74
   |none=>Xlu rec V f (args.toList.map (evA A)++caps) (match Xrt (cvF false V 100) (args.toList.map (evA A)++caps) with
    |some bs=>fDs bs λbs=>rec f bs g8 0 λr H' _=>match newR r (hpX H') with
     |some _=>newV rec V id f (args.toList.map (evA A)++caps) k
     |none=>match cvZ (hpX H') 100 r with
      |some r'=>fD r' λr'=>Bool.rec (motive:=λ_=>Prop) (newV rec V id f (args.toList.map (evA A)++caps) k) (k r' .none) (ownF 100 r')
      |none=>newV rec V id f (args.toList.map (evA A)++caps) k
    |none=>newV rec V id f (args.toList.map (evA A)++caps) k) k
  |a=>StkA 76 a
 |op=>match pX T (evA A) V op with
  |some a=>fA a λa=>k a .none
  |none=>match mkF T (evA A) V id op with
   |some (a,.none)=>fA a λa=>k a .none
   |some (a,.new x)=>fA a λa=>fO fA x λx=>k a (.new x)
   |some (a,.app old x)=>fA a λa=>fN old λold=>fO sh x λx=>k a (.app old x)
   |none=>StkO id op
theorem X084 {P:Program} {T:Ty} {rec:Xdw} {A:Nat->AV} {V:Xz} {id:Nat} {o:Oper} {k:AV->X2h->Prop} (hr:Xht P rec) (h:dopX T rec A V id o k):∃ a e,DOp P T A V id o a e/\k a e:=by
 unfold dopX at h;split at h
 ·rename_i x ho;rw[X8z] at h;exact⟨_,_,.pu (by rw[ho];exact .move),h⟩
 ·rename_i x ho;rw[X8z] at h;exact⟨_,_,.pu (by rw[ho];exact .assign),h⟩
 ·rename_i t p x ho;split at h
  ·rename_i hd;split at h
   ·rename_i hs;rw[X5l,Xel Xb2] at h;obtain⟨i,k,y,e,ti,g1,g2,g3,g4,g5,g6,g7,g8,g9,rfl⟩:=X03n hs;exact⟨_,_,.store ho hd g1 g2 g4 g5 g6 g7 g8 g9,h⟩
   ·rw[Xux,Xux] at h;cases h
  ·cases h
 ·rename_i x args ts ho;split at h
  ·rename_i f caps hx;split at h
   ·rename_i bs hm;rw[Xn7] at h;obtain⟨r,H',n',hc,h⟩:=hr _ _ _ _ _ h;split at h
    ·rename_i q len y hnew;rw[X5l,Xel X8z] at h;obtain⟨e1,e2,e3,e4,e5⟩:=X06j hnew;obtain⟨m1,m2⟩:=X8r hm;rw[Xl4] at hc;refine⟨_,_,.callNew (y:=y) ho hx ⟨m1,λi a b ha hb=>Xgq _ _ _ (m2 i a b ha hb)⟩ (λb hb M=>?_) (hc.mono λr2 H2 n2 hq=>⟨hq.1.trans e1,by simp_all⟩) e5 e3 e4,h⟩;obtain⟨i,hi⟩:=List.getElem?_of_mem hb;have hlt:i<(args.toList.map (evA A)++caps).length:=by grind
     exact X04l (Xgq _ _ _ (m2 i _ b (List.getElem?_eq_getElem hlt) hi)) M
    split at h
    ·rename_i r' hcv;rw[Xux] at h;obtain⟨m1,m2⟩:=X8r hm;rw[Xl4] at hc;exact⟨_,_,.pure ho hx ⟨m1,λi a b ha hb=>Xgq _ _ _ (m2 i a b ha hb)⟩ (X8t.of_hc hc (Xyz _ _ _ hcv)) (λ_ _ h=>by cases h) (.inr ⟨λ_=>rfl,X04l (Xyz _ _ _ hcv)⟩),h⟩
    ·cases h
   rcases X05h (id:=id) hr ho hx h with h|h
   case inr=>exact h
   split at h
   ·rename_i bs hm;rw[Xn7] at h;obtain⟨r,H',n',hc,h⟩:=hr _ _ _ _ _ h;split at h
    ·exact Xo2 hr ho hx h
    split at h
    ·rename_i r' hcv;rw[Xux] at h
     cases hown:ownF 100 r' with
     |false=>rw[hown] at h;exact Xo2 hr ho hx h
     |true =>
      rw[hown] at h;obtain⟨m1,m2⟩:=X8r hm;rw[Xl4] at hc;exact⟨_,_,.pure ho hx ⟨m1,λi a b ha hb=>Xgq _ _ _ (m2 i a b ha hb)⟩ (X8t.of_hc hc (Xyz _ _ _ hcv)) (λ_ _ h=>h) (.inl (Xwu _ _ hown)),h⟩
    ·exact Xo2 hr ho hx h
   ·exact Xo2 hr ho hx h
  ·cases h
 ·split at h
  ·rename_i hp;rw[Xb2] at h;exact⟨_,_,.pu (X0aj hp),h⟩
  ·split at h
   ·rename_i hm;rw[Xb2] at h;exact⟨_,_,.zero (Xt4 hm).1,h⟩
   ·rename_i hm;rw[Xb2,Xel Xb2] at h;obtain⟨h1,h2⟩:=Xt4 hm;have:=h2 0 _ (.inr rfl);exact⟨_,_,.new h1 this.1 this.2,h⟩
   ·rename_i hm;rw[Xb2,X5l,Xel X8z] at h;obtain⟨h1,h2⟩:=Xt4 hm;have:=h2 _ _ (.inl rfl);exact⟨_,_,.app h1 this.1 this.2,h⟩
   ·cases h
def seeX (d:Nat):List (Nat×Nat)->Option Nat
 |[]=>none
 |(k,q)::r=>bif Nat.beq d k then some q else seeX d r
def X0f1:Op->Bool
 |.build _ _=>true
 |.call { callee:=.builtin .len,args:=_,argTypes:=_ }=>true
 |o=>Xje o
def hzX (l:List (Nat×Nat)) (o:Oper) (q:Nat):Bool :=
 X0f1 o.op||(match o.dst with
  |some d=>match seeX d l with
   |some p=>!Nat.beq p q
   |none=>false
  |none=>false)
def Xua (ops:List Oper):Nat->Operand->Option Nat
 |0,_=>none
 |f+1,.tmp t=>match ops.find? (λo=>match o.dst with|some d=>Nat.beq d t|none=>false) with
  |none=>some t
  |some o=>match o.op with
   |.move y=>Xua ops f y
   |.assign y=>Xua ops f y
   |.fieldAddr _ y _=>Xua ops f y
   |.indexAddr _ y _=>Xua ops f y
   |_=>none
 |_,_=>none
def X0a5 (ops:List Oper):List (Nat×Nat):=ops.filterMap λo=>match o.op,o.dst with
 |.load _ p,some d=>(Xua ops 8 p).map λs=>(d,s)
 |.slice _ p _ _ _,some d=>(Xua ops 8 p).map λs=>(d,s)
 |_,_=>none
def X04w:Op->Bool
 |.store _ _ _=>true
 |.call { callee:=.builtin .append,args:=_,argTypes:=_ }=>true
 |_=>false
def X06k:List Oper->List Nat->Nat->List Nat->Bool
 |o::l,m::ms,i,ls=>(X04w o.op&&ls.any λj=>!Nat.testBit m j)||X06k l ms (i+1) (bif Xje o.op then ls else i::ls)
 |_,_,_,_=>false
def seeK (F:FX) (l:List (Nat×Nat)):List (Nat×Nat)->((Oper->Nat->Bool)->Prop)->Prop :=
 List.rec (motive:=λ_=>List (Nat×Nat)->((Oper->Nat->Bool)->Prop)->Prop) (λacc k=>k (hzX acc)) (λp _ ih acc k=>match frX F p.2 with
  |.ptr q _ _=>fN q λq=>ih ((p.1,q)::acc) k
  |.ref q _ _=>fN q λq=>ih ((p.1,q)::acc) k
  |.list _ _=>ih ((p.1,1000000007)::acc) k
  |.elem _ _ _=>ih ((p.1,1000000007)::acc) k
  |_=>ih acc k) l
theorem X05l {F:FX}:∀ (l acc:List (Nat×Nat)) (k:(Oper->Nat->Bool)->Prop),seeK F l acc k->∃ hz,k hz:=by
 intro l
 induction l with
 |nil=>intro acc k h;exact⟨_,h⟩
 |cons p l ih =>
  intro acc k h;have h:(match frX F p.2 with
   |.ptr q _ _=>fN q λq=>seeK F l ((p.1,q)::acc) k
   |.ref q _ _=>fN q λq=>seeK F l ((p.1,q)::acc) k
   |.list _ _=>seeK F l ((p.1,1000000007)::acc) k
   |.elem _ _ _=>seeK F l ((p.1,1000000007)::acc) k
   |_=>seeK F l acc k):=h
  grind [X5l]
def hzK (ops:List Oper) (F:FX) (k:(Oper->Nat->Bool)->Prop):Prop :=
 Bool.rec (motive:=λ_=>Prop) (k hz0) (seeK F (X0a5 ops) [] k) (X06k ops (X1h ops) 0 [])
theorem X044 {ops:List Oper} {F:FX} {k:(Oper->Nat->Bool)->Prop} (h:hzK ops F k):∃ hz,k hz:=by
 unfold hzK at h
 cases hb:X06k ops (X1h ops) 0 [] with
 |false=>rw[hb] at h;grind
 |true=>rw[hb] at h;exact X05l _ _ _ h
def wkQ (base mk:Nat) (os:List Nat) (hs:List (Nat×(Nat->Bool))) (es:List X2h):Bool :=
 List.rec (motive:=λ_=>Bool) true (λ_ _ _=>X51 base mk os 0 hs [] es) os
theorem X09n {base mk:Nat} {os:List Nat} {hs:List (Nat×(Nat->Bool))} {es:List X2h}:wkQ base mk os hs es=X51 base mk os 0 hs [] es:=by
 cases os with
 |nil=>exact(Xk2 (i:=0) es 0 hs []).symm
 |cons a l=>rfl
def drX (T:Ty) (rec:Xdw) (hz:Oper->Nat->Bool) (nt base:Nat) (ops:Array Oper) (ms:List Nat) (hs:List (Nat×(Nat->Bool))) (l:List Oper):Nat->FX->HX->List X2h->(FX->HX->Prop)->Prop :=
 List.rec (motive:=λ_=>Nat->FX->HX->List X2h->(FX->HX->Prop)->Prop) (λ_ F H _ k=>k F H) (λo _ ih i F H es k =>
  Bool.rec (motive:=λ_=>Prop) (stk 81) (gdX nt ops (frD (X5b i (ms.getD i 0) 0 ops.toList ms) (frX F)) o
   (dopX T rec (frD (X5b i (ms.getD i 0) 0 ops.toList ms) (frX F)) (hpD base (ms.getD i 0) (hz o) es (hpX H)) (base+i) o λa e=>X04y (base+i) H e λH' =>
    Bool.rec (motive:=λ_=>Prop) (StkO (base+i) o.op) (Xh1 F o.dst a λF=>ih (i+1) F H' (es++[e]) k) (wkQ base (ms.getD i 0) (e.objs (base+i)) (hs.take i) es))
   (Xh1 F o.dst (.sc undef) λF=>ih (i+1) F H (es++[.none]) k)) (X8h nt (X5b i (ms.getD i 0) 0 ops.toList ms) o.dst)) l
theorem X04i {P:Program} {T:Ty} {rec:Xdw} {hz:Oper->Nat->Bool} {nt base:Nat} {ops:Array Oper} {ms:List Nat} (hnt:nt<=343) (hr:Xht P rec):∀ (l:List Oper) (i:Nat) (F:FX) (H:HX) (es:List X2h) (k:FX->HX->Prop),
  drX T rec hz nt base ops ms (ms.zip (ops.toList.map hz)) l i F H es k->∃ F' H',k F' H'/\Xve hz P T nt base ops ms i l (frX F) (hpX H) es (frX F') (hpX H'):=by
 intro l
 induction l with
 |nil=>intro i F H es k h;exact⟨F,H,h,.nil⟩
 |cons o l ih =>
  intro i F H es k h;have h:Bool.rec (motive:=λ_=>Prop) (stk 81) (gdX nt ops (frD (X5b i (ms.getD i 0) 0 ops.toList ms) (frX F)) o
   (dopX T rec (frD (X5b i (ms.getD i 0) 0 ops.toList ms) (frX F)) (hpD base (ms.getD i 0) (hz o) es (hpX H)) (base+i) o λa e=>X04y (base+i) H e λH' =>
    Bool.rec (motive:=λ_=>Prop) (StkO (base+i) o.op) (Xh1 F o.dst a λF=>drX T rec hz nt base ops ms (ms.zip (ops.toList.map hz)) l (i+1) F H' (es++[e]) k) (wkQ base (ms.getD i 0) (e.objs (base+i)) ((ms.zip (ops.toList.map hz)).take i) es))
   (Xh1 F o.dst (.sc undef) λF=>drX T rec hz nt base ops ms (ms.zip (ops.toList.map hz)) l (i+1) F H (es++[.none]) k)) (X8h nt (X5b i (ms.getD i 0) 0 ops.toList ms) o.dst):=h
  cases hd:X8h nt (X5b i (ms.getD i 0) 0 ops.toList ms) o.dst with
  |false=>rw[hd] at h;cases h
  |true =>
   rw[hd] at h;have hd2:∀ t,o.dst=some t->t<343:=λt ht=>Nat.lt_of_lt_of_le (X5n (Xyj hd) t ht) hnt;rcases X0bm h with ⟨h,hg⟩|⟨h,j,want,t,v,hg,hj,ht,hv,hb⟩
   ·obtain⟨a,e,hop,h⟩:=X084 hr h;obtain⟨H1,hH,h⟩:=X00r h;rw[X09n] at h
    cases hw:X51 base (ms.getD i 0) (e.objs (base+i)) 0 ((ms.zip (ops.toList.map hz)).take i) [] es with
    |false=>rw[hw] at h;cases h
    |true =>
     rw[hw] at h;obtain⟨F1,hF,h⟩:=Xg0 hd2 h;obtain⟨F',H',hk,hrun⟩:=ih _ _ _ _ _ h;refine⟨F',H',hk,?_⟩;rw[hF,hH] at hrun;rcases hg with hgn|⟨j,want,t,hg,hj,ht,hv⟩
     ·exact .op hgn hd hop hw hrun
     ·exact .run hg hd hj ht hv hop hw hrun
   ·obtain⟨F1,hF,h⟩:=Xg0 hd2 h;obtain⟨F',H',hk,hrun⟩:=ih _ _ _ _ _ h;rw[hF] at hrun;exact⟨F',H',hk,.skip hg hd hj ht hv hb hrun⟩
def X08d (a:AV) (t e:Prop):Prop :=
 AV.casesOn (motive_1:=λ_=>Prop) a (stk 93) (λv=>Value.casesOn (motive_1:=λ_=>Prop) v (λb=>Bool.rec (motive:=λ_=>Prop) e t b) (λ_ _=>stk 92) (λ_ _=>stk 92) (λ_ _ _=>stk 92) (λ_=>stk 92)
  (λ_=>stk 92) (λ_ _ _=>stk 92) (λ_=>stk 92) (λ_=>stk 92) (λ_ _ _=>stk 92) (stk 92) (λ_ _=>stk 92) (stk 92) (λ_=>stk 92) (λ_=>stk 92))
  (stk 93) (λ_=>stk 93) (λ_=>stk 93) (λ_ _=>stk 93) (λ_ _ _=>stk 93) (λ_ _ _=>stk 93) (λ_ _ _=>stk 93) (λ_ _=>stk 93) (λ_ _=>stk 93) (λ_ _=>stk 93) (λ_ _=>stk 93)
theorem X038 {a:AV} {t e:Prop} (h:X08d a t e):(a=.sc (.bool true)/\t)\/(a=.sc (.bool false)/\e):=by
 cases a with
 |sc v =>
  cases v with
  |bool b=>cases b with
   |true=>exact .inl ⟨rfl,h⟩
   |false=>exact .inr ⟨rfl,h⟩
  |_=>cases h
 |_=>cases h
end Go.Av.X


namespace Go.Av.X
variable [Gls]
open Go.Av
def argX (as:List AV):Nat->FX->(FX->Prop)->Prop :=
 List.rec (motive:=λ_=>Nat->FX->(FX->Prop)->Prop) (λ_ F k=>k F) (λa _ ih i F k=>Xro F i a λF=>ih (i+1) F k) as
theorem X08o:∀ (as:List AV) (i:Nat) (F:FX) (k:FX->Prop),i+as.length<=343->argX as i F k->∃ F',k F'/\∀ t,frX F' t=if i<=t/\t<i+as.length then (as[t - i]?).getD (.sc undef) else frX F t:=by
 intro as
 induction as with
 |nil=>intro i F k _ h;exact⟨F,h,λt=>by rw[if_neg (by simp)]⟩
 |cons a as ih =>
  intro i F k hl h;simp only[List.length_cons] at hl;have h:Xro F i a (λF=>argX as (i+1) F k):=h;rw[Xk8] at h;obtain⟨F',hk,hF⟩:=ih _ _ _ om h;refine⟨F',hk,λt=>?_⟩;rw[hF,Xhk F i om];by_cases ht:t=i
  ·subst ht;rw[if_neg om,Xk,if_pos (by simp)];simp
  ·by_cases h2:i+1<=t/\t<i+1+as.length
   ·rw[if_pos h2,if_pos ⟨by omega,by simp only[List.length_cons];omega⟩,show t - i=(t - (i+1))+1 by omega,List.getElem?_cons_succ]
   ·rw[if_neg h2,Xm _ _ ht,if_neg];simp only[List.length_cons];omega
theorem Xza {as:List AV} {k:FX->Prop} (hl:as.length<=343) (h:argX as 0 f4 k):∃ F',k F'/\frX F'=Xjl as:=by
 obtain⟨F',hk,hF⟩:=X08o as 0 f4 k om h;refine⟨F',hk,?_⟩;funext t
 rw[hF,X0bp];unfold Xjl;by_cases ht:t<as.length
 ·rw[if_pos ⟨Nat.zero_le _,by omega⟩,Nat.sub_zero]
 ·rw[if_neg om,List.getElem?_eq_none om];rfl
def resG (T:Ty) (A:Nat->AV) (H:Xz):List ResultVar->Option (List AV)
 |[]=>some []
 |.tmp t::l=>match resG T A H l with
  |some r=>some (X52 (A t)::r)
  |none=>none
 |.cell p t::l=>match T t with
  |some ti=>match Xqp H (X52 (A p)) with
   |some (e,k)=>match Xgf ti e k with
    |some a=>match resG T A H l with
     |some r=>some (a::r)
     |none=>none
    |none=>none
   |none=>none
  |none=>none
theorem X066 {T:Ty} {s:St}:∀ (l:List ResultVar) (r:List AV),resG T s.A s.H l=some r->Xfo T s l r:=by
 intro l
 induction l with
 |nil=>intro r h;simp[resG] at h;subst h;exact .nil
 |cons v l ih =>
  intro r h
  cases v with
  |tmp t =>
   simp only[resG] at h;split at h
   ·rename_i hr;cases h;exact .cons .tmp (ih _ hr)
   ·cases h
  |cell p t =>
   simp only[resG] at h;split at h
   ·split at h
    ·split at h
     ·split at h
      ·rename_i ht _ _ _ hd _ _ hl _ _ hr;cases h
       exact .cons (.cell ht (Xqo hd) hl) (ih _ hr)
      ·cases h
     ·cases h
    ·cases h
   ·cases h
def retX (T:Ty) (l:List ResultVar) (F:FX) (H:HX) (n:Nat) (k:AV->HX->Nat->Prop):Prop :=
 match resG T (frX F) (hpX H) l with
 |some rs=>fsp fA rs λrs=>sh (Xei rs) λa=>k a H n
 |none=>stk 101
end Go.Av.X
end
