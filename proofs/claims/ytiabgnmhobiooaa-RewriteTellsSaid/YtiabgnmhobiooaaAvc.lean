/- Parts of the proof, laid together. -/
import Derived.Test.YtiabgnmhobiooaaAvb
set_option linter.all false

namespace Go.D
end Go.D
namespace Go.Av
open Go.D
class Xdx {α:Type} (f:α->AV):Prop where
 flat:∀ x,Xad (f x)
 whole:∀ x,(f x).whole=true
 still:∀ x,X84 (f x)
instance Xyt {k:IntKind}:Xdx (aI k):=⟨λ_=>Xc1,λ_=>rfl,λ_=>Xa2⟩
instance Xwl:Xdx aB:=⟨λ_=>Xc1,λ_=>rfl,λ_=>Xa2⟩
class Xuy {α:Type} (g:Bool->α->AV):Prop where
 cva:∀ {H:X07} {o:Bool} {x:α},Cv false H (g o x) (g false x)
 cvt:∀ {H:X07} {o:Bool} {x:α},Cv true H (g o x) (g o x)
 len:∀ (o o':Bool) (x:α),(g o x).cells.length=(g o' x).cells.length
 free:∀ (o:Bool) (x:α),Xb1 (g o x)
 still:∀ (o:Bool) (x:α),X84 (g o x)
theorem Xw8 {α:Type} {f:α->AV} [i:Xdx f] {H:X07} {o:Bool} {l:List α}:Cv false H (.list o (l.map f)) (.list false (l.map f)):=X1m (X0c i.flat l)
theorem Xw7 {α:Type} {f:α->AV} [i:Xdx f] (p:Bool) {H:X07} {o n:Nat} {x:Obj} {l:List (List α)} (hH:H o=some x) (he:x.es=l.map (X5z p f)) (hn:n=l.length):Cv false H (.ref o 0 n) (.list false (l.map (X5z false f))) :=
 Xnf (f:=X5z p f) (g:=X5z false f) hH he hn (λ_=>rfl) (λx=>X7g (show Cv false H (.list p (x.map f)) (.list false (x.map f)) from Xw8))
theorem cvR {α:Type} {f:α->AV} [i:Xdx f] {m:Bool} {H:X07} {o n:Nat} {x:Obj} {l:List α} (hH:H o=some x) (he:x.es=l.map f) (hn:n=(l.map f).length):Cv m H (.ref o 0 n) (.list m (l.map f)) :=
 Xus hH he hn (X0c i.flat l)
theorem Xvr {α:Type} {f:α->AV} {m:Bool} {H:X07} {l:List α} (h:l=[]):Cv m H .nils (.list m (l.map f)):=Xt8 (by rw[h];rfl)
theorem Xwi {α:Type} {f:α->AV} [i:Xdx f] {l:List α}:Xdy (.list true (l.map f)):=X5x (X0c i.flat l)
def CvE (m:Bool) (H:X07) (e e':AV):Prop:=e.cells.length=e'.cells.length/\∀ (k:Nat) a b,e.cells[k]?=some a->e'.cells[k]?=some b->Cv m H a b
def CvL (m:Bool) (H:X07) (l l':List AV):Prop:=l.length=l'.length/\∀ (i:Nat) e e',l[i]?=some e->l'[i]?=some e'->CvE m H e e'
theorem CvL.nil {m:Bool} {H:X07}:CvL m H [] []:=⟨rfl,λi e e' h=>by simp at h⟩
theorem CvL.cons {m:Bool} {H:X07} {e e':AV} {l l':List AV} (h:CvE m H e e') (t:CvL m H l l'):CvL m H (e::l) (e'::l'):=by
 refine⟨by simp[t.1],λi a b ha hb=>?_⟩
 cases i with
 |zero=>simp at ha hb;subst ha;subst hb;exact h
 |succ i=>simp at ha hb;exact t.2 i a b ha hb
theorem cvM {P:Prop} (h:P:=by
 repeat' first
  |exact Cvs.nil
  |refine Cvs.cons ?_ ?_
  |exact Cv.sc
  |exact Cv.fn0
  |exact Cv.listS rfl
  |exact Xw8
  |exact cvW
  |exact cvGt
  |exact cvG
  |exact cvLg
  |exact cvLe
  |refine Xur ?_
  |exact Cv.nils
  |exact Xvr (by first|rfl|assumption|(simp;done)|(simp[*];done)|fail)
  |exact cvR rfl (by first|rfl|(simp;done)|(simp;rfl)|(simp[*];done)|(simp[*];rfl)|fail) (by first|rfl|(simp;done)|(simp;omega)|(simp[*];done)|(simp[*];omega)|fail)
  |exact cvRt rfl (by first|rfl|(simp;done)|(simp;rfl)|(simp[*];done)|fail) (by first|rfl|(simp;done)|(simp;omega)|(simp[*];done)|fail)
  |exact cvRg true rfl (by first|rfl|(simp;done)|(simp;rfl)|(simp[*];done)|fail) (by first|rfl|(simp;done)|(simp;omega)|(simp[*];done)|fail)
  |exact cvRg false rfl (by first|rfl|(simp;done)|(simp;rfl)|(simp[*];done)|fail) (by first|rfl|(simp;done)|(simp;omega)|(simp[*];done)|fail)
  |exact Xw7 true rfl (by first|rfl|(simp;done)|(simp;rfl)|(simp[*];done)|fail) (by first|rfl|(simp;done)|(simp;omega)|(simp[*];done)|fail)
  |exact Xw7 false rfl (by first|rfl|(simp;done)|(simp;rfl)|(simp[*];done)|fail) (by first|rfl|(simp;done)|(simp;omega)|(simp[*];done)|fail)
  |exact cvRf rfl (by first|rfl|(simp;done)|(simp;rfl)|(simp[*];done)|fail) (by first|rfl|(simp;done)|(simp;omega)|(simp[*];done)|fail)
  |exact cvLq (by first|rfl|(simp;done)|(simp[*];done)|fail)
  |exact cv_leqS (by first|rfl|(simp;done)|(simp[*];done)|fail)
  |exact Xjr (by first|rfl|(simp;done)|(simp[*];done)|fail)
  |refine Xjs ?_
  |exact Cv.nils0
  |refine cv_refs rfl ?_ rfl
  |exact CvL.nil
  |refine CvL.cons ?_ ?_
  |refine cvE_agg ?_
  |refine cvE_one ?_ rfl rfl
  |refine Cv.ptrL rfl rfl rfl rfl (X7g ?_)
  |refine Cv.elemD rfl rfl (X7g ?_)
  |refine Cv.weak ?_
 first|done|fail):P:=h
theorem Xwh {P:Prop} (h:P:=by
 repeat' first
  |exact .sc
  |exact Xwi
  |exact ownW
  |refine Xqy ?_
  |refine X0q ?_ ?_
  |exact X61
  |refine Xdy.agg ?_
 first|done|fail):P:=h
class PCs (P:Program) (f:Nat) (S:outParam Prop):Prop where
 ok:S
theorem pcN {P:Program} {f:Nat} {H:X07} {as bs:List AV} {r:AV} {S:Prop} [i:PCs P f S] (k:S->X0f P f bs r) (hc:Cvs false (λ_=>none) as bs):X2j P f H as bs r:=.none (k i.ok) hc
theorem pcL {P:Program} {f:Nat} {H:X07} {as bs:List AV} {r:AV} {S:Prop} [i:PCs P f S] (k:S->X0f P f bs r) (hc:Cvs false H as bs) (ho:Xdy r):X2j P f H as bs r:=.lent (k i.ok) hc ho
theorem pcM {P:Prop} (h:P:=by
 first
  |exact pcN (by intro K;apply K;assumption) cvM
  |exact pcL (by intro K;apply K;assumption) cvM Xwh):P:=h
theorem fq {p:Prop} (h:p) {P:Prop} (k:p->P:=by first|exact id|exact Xte|exact Xwa|exact Xwb):P:=k h
theorem Xy {P:Prop} (h:P:=by
 repeat' first
  |refine And.intro ?_ ?_
  |exact trivial
  |exact pcM
  |exact Xvg
 first|done|fail):P:=h
class TmD (P:Program) (T:outParam Ty):Prop where
 ok:X9r P T/\P.follows .mixedOrders=true
abbrev nbS {α:Type} {l:List α} (h:l=[]:=by first|rfl|simp[*]):Nb l:=nbT h
theorem okF {α:Type} {f:α->AV} [i:Xdx f] {x:α} {M:Nat->Prop}:(f x).Ok M:=(X81 (i.flat x) (i.whole x) M).1
theorem okG {α:Type} {g:Bool->α->AV} [i:Xuy g] {o:Bool} {x:α} {M:Nat->Prop}:(g o x).Ok M:=(i.free o x M).1
theorem okM {P:Prop} (h:P:=by
 repeat' first
  |exact X61
  |refine X0q ?_ ?_
  |exact .sc
  |exact .list
  |exact Xln
  |exact .elem
  |exact okF
  |exact okG
 first|done|fail):P:=h
theorem bI {α β:Type} {x:Option α} {f:α->Option β} {r:β} {G:Prop} (k:∀ v,x=some v->f v=some r->G):x.bind f=some r->G:=λh=>Xuu h k
theorem brI {α:Type} {c:Bool} {a b:Option α} {r:α} {G:Prop} (h1:c=true->a=some r->G) (h2:c=false->b=some r->G):(bif c then a else b)=some r->G:=λh=>brE h h1 h2
theorem oj {α:Type} {a b:α} (h:some a=some b):a=b:=Option.some.inj h
theorem X29 {P:Program} {T:Ty} {nt n0:Nat} {μ:Mu} {Q:Xr->St->Mu->Prop} {cf cf':Cf} {K K':List Kn} {L L':List (Nat×AV)} {G G':List (Nat×Obj)} {n n':Nat} {hs':List X3t} {ps':List Prop} [hT:TmD P T] (hs:List X3t)
  (k:X4 P nt n0 Q cf' K' ⟨fr L',hp G',n'⟩ μ) (h:X7s P T nt 4000 cf K L G n hs []=some (cf',K',L',G',n',hs',ps'):=by exact rfl) (o:X3s ps':=by exact Xy):X4 P nt n0 Q cf K ⟨fr L,hp G,n⟩ μ:=Xiu hT.ok 4000 hs h o k
theorem rnI {A:Prop} {P:Program} {T:Ty} {nt n0:Nat} {μ:Mu} {Q:Xr->St->Mu->Prop} {cf cf':Cf} {K K':List Kn} {L L':List (Nat×AV)} {G G':List (Nat×Obj)} {n n':Nat} {hs':List X3t} {ps':List Prop} [hT:TmD P T] (hs:List X3t)
  (k:A->X4 P nt n0 Q cf' K' ⟨fr L',hp G',n'⟩ μ) (h:X7s P T nt 4000 cf K L G n hs []=some (cf',K',L',G',n',hs',ps'):=by exact rfl) (o:X3s ps':=by exact Xy):A->X4 P nt n0 Q cf K ⟨fr L,hp G,n⟩ μ:=λa=>Xiu hT.ok 4000 hs h o (k a)
theorem Xa {P:Program} {T:Ty} {nt n0:Nat} {μ:Mu} {Q:Xr->St->Mu->Prop} {cf cf':Cf} {K K':List Kn} {L L':List (Nat×AV)} {G G':List (Nat×Obj)} {n n':Nat} {hs':List X3t} {ps':List Prop} [hT:TmD P T] (hs:List X3t)
  (h:X7s P T nt 4000 cf K L G n hs []=some (cf',K',L',G',n',hs',ps'):=by exact rfl) (o:X3s ps':=by exact Xy) (k:X4 P nt n0 Q cf' K' ⟨fr L',hp G',n'⟩ μ):X4 P nt n0 Q cf K ⟨fr L,hp G,n⟩ μ:=Xiu hT.ok 4000 hs h o k
theorem fi {P:Program} {T:Ty} {nt n0:Nat} {fn:Func} {r:AV} {L:List (Nat×AV)} {G:List (Nat×Obj)} {n:Nat} {μ:Mu} {rs:List AV} (hr:Xnt T L G fn.results.toList=some rs:=by exact rfl) (hc:Cv true (hp G) (Xbg rs) r:=by exact cvM):X4 P nt n0 (Xpc T fn r) (.exit .ret) [] ⟨fr L,hp G,n⟩ μ:=Xn3 hr hc
end Go.Av


namespace Go.Av
end Go.Av


namespace Go.Av
open Go
section
variable {P:Program} {ops:Array Oper} {Q:Exit->Act->World->Prop}
end
end Go.Av


namespace Go.Av
end Go.Av


namespace Go.Av
open Go.D
def WkC (a a':AV):Prop:=a'=a\/(∃ l,a=.list true l/\a'=.list false l)\/(a=.nils/\∃ b,a'=.list b [])
theorem WkC.rel {c:Ctx} {a a':AV} {v:Value} (h:WkC a a') (r:X0l c false a v):X0l c false a' v:=by
 rcases h with rfl|⟨l,rfl,rfl⟩|⟨rfl,b,rfl⟩
 ·exact r
 ·cases r with
  |listNil=>exact .listNil
  |list vf hne hS hn hcap hsz hcell h1 h=>exact .list vf hne (hS.elim (λq=>.inl ⟨rfl,q.2⟩) .inr) hn hcap hsz hcell h1 h
 ·obtain⟨p,rfl⟩:=r.nils_inv;exact .listNil
theorem WkC.ok {M:Nat->Prop} {a a':AV} (h:WkC a a') (r:a.Ok M):a'.Ok M:=by
 rcases h with rfl|⟨l,rfl,rfl⟩|⟨rfl,b,rfl⟩
 ·exact r
 ·exact .list
 ·exact .list
end Go.Av


namespace Go.Av
def scs:List AV->Bool
 |[]=>true
 |.sc _::r=>scs r
 |_=>false
theorem Xu7 {M:Nat->Prop}:∀ {es:List AV},scs es=true->∀ e∈es,∀ a∈e.cells,AV.Ok M a
 |[],_=>λe he=>by cases he
 |.sc v::r,h=>λe he a ha=>by
  rcases List.mem_cons.1 he with rfl|he
  ·rw[List.mem_singleton.1 ha];exact .sc
  ·exact Xu7 (es:=r) h e he a ha
 |.list _ _::_,h=>by cases h
end Go.Av


namespace Go.Av
theorem Xbs {H:X07} {o:Nat} {x:Obj} {v:Value} (hH:H o=some x) (he:x.es[0]?=some (.sc v)):Cv false H (.ptr o 0 0) (.elem false (.sc v) 0):=by
 refine .ptrL rfl hH he rfl λk a b ha hb=>?_;rw[ha] at hb;cases hb
 cases k with
 |zero=>simp[AV.cells] at ha;subst ha;exact .sc
 |succ k=>simp[AV.cells] at ha
theorem X4.trunc {P:Program} {nt n0 n:Nat} {Q:Xr->St->Mu->Prop} {cf:Cf} {K:List Kn} {μ:Mu} {L:List (Nat×AV)} {G:List (Nat×Obj)} {y:Obj} (q:Nat) (es':List AV) (hy:hp G q=some y) (he:∃ m,es'=y.es.take m)
  (h:X4 P nt n0 Q cf K ⟨fr L,hp ((q,{ y with es:=es' })::G),n⟩ μ):X4 P nt n0 Q cf K ⟨fr L,hp G,n⟩ μ:=by
 obtain⟨m,rfl⟩:=he;refine X4.sub (Xel.trunc hy m) ?_;rw[<-Xbj q { y with es:=y.es.take m } G (show y.gone=false from Xbi hy)];exact h
end Go.Av


namespace Go.Av
inductive Tab (V:Type) where
 |leaf
 |node (k:Nat) (v:V) (l r:Tab V)
noncomputable def Tab.find {V:Type} (t:Tab V):Nat->Option V :=
 Tab.rec (motive:=λ_=>Nat->Option V) (λ_=>none) (λk v _ _ ihl ihr n=>bif Nat.beq n k then some v else bif Nat.blt n k then ihl n else ihr n) t
theorem Tab.find_node {V:Type} (k:Nat) (v:V) (l r:Tab V) (t:Nat):(Tab.node k v l r).find t=bif Nat.beq t k then some v else bif Nat.blt t k then l.find t else r.find t:=rfl
def Tab.All {V:Type} (p:Nat->V->Prop):Tab V->Prop
 |.leaf=>True
 |.node k v l r=>p k v/\l.All p/\r.All p
theorem Tab.find_all {V:Type} {p:Nat->V->Prop}:∀ (t:Tab V),t.All p->∀ k v,t.find k=some v->p k v:=by
 intro t
 induction t with
 |leaf=>intro _ k v h;cases h
 |node k' v' l r ihl ihr =>
  intro h k v hf;obtain⟨h1,h2,h3⟩:=h;rw[Tab.find_node] at hf
  cases hb:Nat.beq k k' with
  |true =>
   rw[hb,cond_true] at hf;cases hf
   have:k=k':=Nat.eq_of_beq_eq_true hb;subst this;exact h1
  |false =>
   rw[hb,cond_false] at hf
   cases hlt:Nat.blt k k' with
   |true=>rw[hlt,cond_true] at hf;exact ihl h2 k v hf
   |false=>rw[hlt,cond_false] at hf;exact ihr h3 k v hf
theorem Xox {P:Program} {t:Tab TI} (h:t.All (X2r P)):X9r P t.find:=λk v hf=>t.find_all h k v hf
theorem X63 {P:Program} {t:Nat} {i:TypeInfo} {d:TypeDesc} {z:Value} (hi:P.info? t=some i) (hd:P.underlying t=some d) (hz:i.zero=some z)
  (hw:((X2a z).whole&&Nat.beq (X2a z).cells.length i.size)=true):X2r P t ⟨X02 d,i.size,i.bytes,z,false⟩:=by
 simp only[Bool.and_eq_true] at hw;exact⟨⟨i,d,hi,hd,hz,rfl,rfl,rfl⟩,⟨hw.1,Nat.eq_of_beq_eq_true hw.2⟩,λh=>by cases h⟩
theorem Xhq {P:Program} {t:Nat} {i:TypeInfo} {d:TypeDesc} {z:Value} (hi:P.info? t=some i) (hd:P.underlying t=some d) (hz:i.zero=some z)
  (hw:((X2a z).whole&&Nat.beq (X2a z).cells.length i.size)=true) (h1:P.stoodInHeld t=false) (h2:P.eqGuardType P.depth t=false)
  (h3 : (match d with | .struct fs => fs.toList.all (λf => !(f.name == "_")) | _ => true) = true) : X2r P t ⟨X02 d, i.size, i.bytes, z, true⟩ := by
 simp only[Bool.and_eq_true] at hw;refine⟨⟨i,d,hi,hd,hz,rfl,rfl,rfl⟩,⟨hw.1,Nat.eq_of_beq_eq_true hw.2⟩,λ_=>⟨h1,h2,λfs hfs f hf=>?_⟩⟩;rw[hd] at hfs;cases hfs
 have:=List.all_eq_true.1 h3 f (by simpa using hf);simpa using this
def Xe (fn:Func):Code:=fn.body.getD .skip
end Go.Av
