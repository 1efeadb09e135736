/- Parts of the proof, laid together. -/
import Derived.Calls
import Derived.Orders
import Derived.RowKit3
import Derived.Laws.AppendOwn
import Derived.Laws.StructEq
import Derived.Lib.AppendZerosOnto
import Derived.TacticsIn
import Derived.OrdersIn
import Derived.Tactics
import Derived.Scope
import Derived.RangeFuncRecord
import Derived.Below
import Derived.Carry
import Derived.ProofKit
import Derived.OpenShut
import Derived.Deep.Slices
set_option linter.all false
set_option maxHeartbeats 4000000
noncomputable section
namespace Go
theorem om {p : Prop} (h : p := by omega) : p := h
end Go
namespace Go.Av
inductive AV where
 |junk
 |sc (v:Value)
 |nils
 |agg (cs:List AV)
 |tup (cs:List AV)
 |list (own:Bool) (es:List AV)
 |ref (o off len:Nat)
 |ptr (o i k:Nat)
 |elem (own:Bool) (e:AV) (k:Nat)
 |fn (f:Nat) (caps:List AV)
 |mref (o m:Nat)
 |cond (b:Bool) (v:AV)
 |mv (f:Nat) (a:AV)
 deriving Inhabited
def AV.cells:AV->List AV
 |.agg cs=>cs
 |x=>[x]
def AV.leaf:AV->Bool
 |.sc v=>v.oneCell'
 |.nils|.list ..|.ref ..|.ptr ..|.elem ..|.fn ..|.mv ..=>true
 |.junk|.agg _|.tup _|.cond ..|.mref ..=>false
def AV.whole:AV->Bool
 |.agg _=>true
 |a=>a.leaf
def Xi0:Value->AV
 |.slice none 0 0=>.nils
 |v=>.sc v
def X1m:Value->AV
 |.agg vs=>if vs.all (·.oneCell') then .agg (vs.toList.map Xi0) else .sc (.agg vs)
 |v=>Xi0 v
mutual
def AV.okB (M:Nat->Bool):AV->Bool
 |.agg cs|.tup cs=>AV.oksB M cs
 |.ref o _ _|.ptr o _ _|.mref o _=>M o
 |.fn _ caps=>AV.oksB M caps
 |.cond _ v=>AV.okB M v
 |.mv _ v=>AV.okB M v
 |.junk|.sc _|.nils|.list ..|.elem ..=>true
def AV.oksB (M:Nat->Bool):List AV->Bool
 |[]=>true
 |a::r=>AV.okB M a&&AV.oksB M r
end
inductive AV.Ok (M:Nat->Prop):AV->Prop
 |junk:Ok M .junk
 |sc {v}:Ok M (.sc v)
 |nils:Ok M .nils
 |agg {cs} (h:∀ a∈cs,Ok M a):Ok M (.agg cs)
 |tup {cs} (h:∀ a∈cs,Ok M a):Ok M (.tup cs)
 |list {own es}:Ok M (.list own es)
 |ref {o off len} (h:M o):Ok M (.ref o off len)
 |ptr {o i k} (h:M o):Ok M (.ptr o i k)
 |elem {own e k}:Ok M (.elem own e k)
 |fn {f caps} (h:∀ a∈caps,Ok M a):Ok M (.fn f caps)
 |mref {o m} (h:M o):Ok M (.mref o m)
 |cond {b v} (h:Ok M v):Ok M (.cond b v)
 |mv {f a} (h:Ok M a):Ok M (.mv f a)
theorem AV.Ok.mono {M M':Nat->Prop} (hm:∀ o,M o->M' o) {a:AV} (h:a.Ok M):a.Ok M':=by
 induction h with
 |junk=>exact .junk
 |sc=>exact .sc
 |nils=>exact .nils
 |agg _ ih=>exact .agg ih
 |tup _ ih=>exact .tup ih
 |list=>exact .list
 |ref h=>exact .ref (hm _ h)
 |ptr h=>exact .ptr (hm _ h)
 |elem=>exact .elem
 |fn _ ih=>exact .fn ih
 |mref h=>exact .mref (hm _ h)
 |mv _ ih=>exact .mv ih
 |cond _ ih=>exact .cond ih
structure Pl where
 blk:Nat
 cap:Nat
 esz:Nat
 ety:TypeId
structure Ctx where
 w:World
 ρ:Nat->Pl
 Sa:Nat->Prop
 So:Nat->Prop
 B:Nat
def Ctx.S (c:Ctx) (own:Bool) (b:Nat):Prop:=(own=false/\c.Sa b)\/c.So b
inductive X0m (c:Ctx):Bool->AV->Value->Prop
 |junk {v}:X0m c false .junk v
 |sc {d v}:X0m c d (.sc v) v
 |nils {d p}:X0m c d .nils (.slice p 0 0)
 |agg {d} {cs:List AV} {vs:Array Value} (hl:cs.length=vs.size) (h1:∀ v∈vs,v.oneCell'=true)
   (h:∀ (i:Nat) a v,cs[i]?=some a->vs[i]?=some v->X0m c d a v):X0m c d (.agg cs) (.agg vs)
 |tup {d} {cs:List AV} {vs:Array Value} (hl:cs.length=vs.size)
   (h:∀ (i:Nat) a v,cs[i]?=some a->vs[i]?=some v->X0m c d a v):X0m c d (.tup cs) (.tuple vs)
 |listNil {d own p cap}:X0m c d (.list own []) (.slice p 0 cap)
 |list {d own} {es:List AV} {b off cap esz n:Nat} (vf:Nat->Nat->Value) (hne:es≠[]) (hS:c.S own b) (hn:n=es.length) (hcap:es.length<=cap)
   (hsz:∀ (i:Nat) e,es[i]?=some e->e.cells.length=esz)
   (hcell:∀ (i:Nat) e (k:Nat) a,es[i]?=some e->e.cells[k]?=some a->c.w.cell? ⟨b,off+i*esz+k,none⟩=some (vf i k))
   (h1:∀ (i:Nat) e (k:Nat) a,es[i]?=some e->e.cells[k]?=some a->(vf i k).oneCell'=true)
   (h:∀ (i:Nat) e (k:Nat) a,es[i]?=some e->e.cells[k]?=some a->X0m c true a (vf i k)):X0m c d (.list own es) (.slice (some ⟨b,off,none⟩) n cap)
 |ref {o off len} (hle:off+len<=(c.ρ o).cap) :
   X0m c false (.ref o off len) (.slice (some ⟨(c.ρ o).blk,off*(c.ρ o).esz,none⟩) len ((c.ρ o).cap - off))
 |ptr {o i k}:X0m c false (.ptr o i k) (.pointer (some ⟨(c.ρ o).blk,i*(c.ρ o).esz+k,none⟩))
 |elem {d own} {e:AV} {k b off:Nat} (vf:Nat->Value) (hS:c.S own b)
   (hcell:∀ (k':Nat) a,e.cells[k']?=some a->c.w.cell? ⟨b,off+k',none⟩=some (vf k'))
   (h1:∀ (k':Nat) a,e.cells[k']?=some a->(vf k').oneCell'=true)
   (h:∀ (k':Nat) a,e.cells[k']?=some a->X0m c true a (vf k')):X0m c d (.elem own e k) (.pointer (some ⟨b,off+k,none⟩))
 |fn {d:Bool} {f:Nat} {caps:List AV} {vs:Array Value} (hd:d=true->caps=[]) (hl:caps.length=vs.size)
   (h:∀ (i:Nat) a v,caps[i]?=some a->vs[i]?=some v->X0m c false a v):X0m c d (.fn f caps) (.func (.func f) #[] vs)
 |cond {b a v} (h:b=true->X0m c false a v) (hn:b=false->v=undef):X0m c false (.cond b a) v
 |mref {o m} (h:(c.ρ o).cap=m):X0m c false (.mref o m) undef
 |mv {f a u} (h:X0m c false a u):X0m c false (.mv f a) (.func (.func f) #[u] #[])
structure Ctx.Le (M:Nat->Prop) (c c':Ctx):Prop where
 rho:∀ o,M o->c'.ρ o=c.ρ o
 sa:∀ b,c.Sa b->c'.Sa b
 so:∀ b,c.So b->c'.So b
 heap:∀ b,c.Sa b\/c.So b->c'.w.heap[b]?=c.w.heap[b]?
 B:c'.B=c.B
theorem Ctx.Le.refl {M:Nat->Prop} (c:Ctx):c.Le M c:=⟨λ_ _=>rfl,λ_ h=>h,λ_ h=>h,λ_ _=>rfl,rfl⟩
theorem Ctx.Le.trans {M:Nat->Prop} {c c' c'':Ctx} (h:c.Le M c') (k:c'.Le M c''):c.Le M c'' :=
  ⟨λo ho=>(k.rho o ho).trans (h.rho o ho),λb hb=>k.sa b (h.sa b hb),λb hb=>k.so b (h.so b hb),
   λb hb=>(k.heap b (hb.imp (h.sa b) (h.so b))).trans (h.heap b hb),k.B.trans h.B⟩
theorem Ctx.Le.weaken {M M':Nat->Prop} {c c':Ctx} (h:c.Le M c') (hm:∀ o,M' o->M o):c.Le M' c' :=
 ⟨λo ho=>h.rho o (hm o ho),h.sa,h.so,h.heap,h.B⟩
theorem Ctx.Le.S {M:Nat->Prop} {c c':Ctx} (h:c.Le M c') {own:Bool} {b:Nat} (hs:c.S own b):c'.S own b :=
 hs.imp (λx=>⟨x.1,h.sa b x.2⟩) (h.so b)
theorem Ctx.S_or {c:Ctx} {own:Bool} {b:Nat} (hs:c.S own b):c.Sa b\/c.So b:=hs.imp (·.2) id
theorem Ctx.Le.cell {M:Nat->Prop} {c c':Ctx} (h:c.Le M c') {own:Bool} {b off:Nat} {v:Value} (hs:c.S own b)
  (hv:c.w.cell? ⟨b,off,none⟩=some v):c'.w.cell? ⟨b,off,none⟩=some v:=by
 rw[World.cell?_of_block (a:=⟨b,off,none⟩) (h.heap b (Ctx.S_or hs))];exact hv
theorem X0m.mono {M:Nat->Prop} {c c':Ctx} (hle:c.Le M c') {d:Bool} {a:AV} {v:Value} (h:X0m c d a v) (hok:d=true\/a.Ok M):X0m c' d a v:=by
 induction h with
 |junk=>exact .junk
 |sc=>exact .sc
 |nils=>exact .nils
 |@agg d cs vs hl h1 h ih =>
  refine .agg hl h1 λi a v ha hv=>ih i a v ha hv ?_;rcases hok with hd|hk
  ·exact .inl hd
  ·cases hk with|agg hk=>exact .inr (hk a (List.mem_of_getElem? ha))
 |@tup d cs vs hl h ih =>
  refine .tup hl λi a v ha hv=>ih i a v ha hv ?_;rcases hok with hd|hk
  ·exact .inl hd
  ·cases hk with|tup hk=>exact .inr (hk a (List.mem_of_getElem? ha))
 |listNil=>exact .listNil
 |list vf hne hS hn hcap hsz hcell h1 h ih =>
  exact .list vf hne (hle.S hS) hn hcap hsz (λi e k a he ha=>hle.cell hS (hcell i e k a he ha)) h1 (λi e k a he ha=>ih i e k a he ha (.inl rfl))
 |@ref o off len hle' =>
  rcases hok with hd|hk
  ·cases hd
  ·cases hk with
   |ref hk=>rw[<-hle.rho o hk] at hle' ⊢;exact .ref hle'
 |@ptr o i k =>
  rcases hok with hd|hk
  ·cases hd
  ·cases hk with
   |ptr hk=>rw[<-hle.rho o hk];exact .ptr
 |elem vf hS hcell h1 h ih =>
  exact .elem vf (hle.S hS) (λk a ha=>hle.cell hS (hcell k a ha)) h1 (λk a ha=>ih k a ha (.inl rfl))
 |@fn d f caps vs hd hl h ih =>
  refine .fn hd hl λi a v ha hv=>ih i a v ha hv ?_;rcases hok with hd'|hk
  ·rw[hd hd'] at ha;simp at ha
  ·cases hk with|fn hk=>exact .inr (hk a (List.mem_of_getElem? ha))
 |@cond b a v h hn ih =>
  refine .cond (λhb=>ih hb ?_) hn;rcases hok with hd|hk
  ·exact .inl hd
  ·cases hk with|cond hk=>exact .inr hk
 |@mref o m h =>
  rcases hok with hd|hk
  ·cases hd
  ·cases hk with
   |mref hk=>exact .mref (by rw[hle.rho o hk];exact h)
 |@mv f a u h ih =>
  refine .mv (ih ?_);rcases hok with hd|hk
  ·cases hd
  ·cases hk with|mv hk=>exact .inr hk
theorem X0m.oneCell {c:Ctx} {d:Bool} {a:AV} {v:Value} (h:X0m c d a v) (hl:a.leaf=true):v.oneCell'=true:=by
 cases h<;>first|rfl|exact hl|(simp[AV.leaf] at hl;done)
structure Obj where
 es:List AV
 esz:Nat
 spent:Bool:=false
 solo:Bool:=true
 gone:Bool:=false
 deriving Inhabited
abbrev Xz:=Nat->Option Obj
structure Xzg (c:Ctx) (p:Pl) (x:Obj):Prop where
 row:∃ cur:Array Value,c.w.heap[p.blk]?=some (.cells cur p.ety (0,0))/\cur.size=p.cap*p.esz /\
  ∀ (i:Nat) e,x.es[i]?=some e->e.cells.length=p.esz/\∀ (k:Nat) a,e.cells[k]?=some a->∃ v,cur[i*p.esz+k]?=some v/\X0m c false a v/\v.oneCell'=true
 fits:x.es.length<=p.cap
 pos:0<p.esz
 same:x.esz=p.esz
class Gls where
 l:List (Nat×List Value)
 dk:Nat:=1
variable [Gls]
def dr (w:World):Nat:=Gls.dk*w.drawn
theorem Xho {w w':World} (h:w.drawn<=w'.drawn):dr w<=dr w':=Nat.mul_le_mul_left _ h
def GF (c:Ctx):Prop:=∀ p∈Gls.l,c.Sa p.1/\∀ (k:Nat) v,p.2[k]?=some v->c.w.cell? ⟨p.1,k,none⟩=some v/\v.oneCell'=true
theorem GF.of {c c':Ctx} (h:GF c) (hs:∀ b,c.Sa b->c'.Sa b) (hw:∀ b,c.Sa b->c'.w.heap[b]?=c.w.heap[b]?):GF c':=λp hp =>
 ⟨hs _ (h p hp).1,λk v hv=>⟨by rw[World.cell?_of_block (a:=⟨p.1,k,none⟩) (hw _ (h p hp).1)];exact((h p hp).2 k v hv).1,((h p hp).2 k v hv).2⟩⟩
theorem GF.mono {M:Nat->Prop} {c c':Ctx} (h:GF c) (hle:c.Le M c'):GF c':=h.of hle.sa λb hb=>hle.heap b (.inl hb)
theorem GF.rho {c:Ctx} (h:GF c) (r:Nat->Pl):GF { c with ρ:=r }:=h.of (λ_ h=>h) λ_ _=>rfl
theorem GF.rel {c:Ctx} (h:GF c) {g:Nat} {vs:List Value} (hp:(g,vs)∈Gls.l) (d:Bool):X0m c d (.elem false (.agg (vs.map .sc)) 0) (.pointer (some ⟨g,0,none⟩)):=by
 obtain⟨h1,h2⟩:=h _ hp;have key:∀ (k:Nat) a,(AV.agg (vs.map .sc)).cells[k]?=some a->∃ v,vs[k]?=some v/\a=.sc v:=by
  intro k a ha;have ha:(vs.map AV.sc)[k]?=some a:=ha;rw[List.getElem?_map] at ha
  cases hv:vs[k]? with
  |none=>rw[hv] at ha;cases ha
  |some v=>rw[hv] at ha;cases ha;exact⟨v,rfl,rfl⟩
 refine .elem (off:=0) (λk=>(vs[k]?).getD undef) (.inl ⟨rfl,h1⟩) (λk a ha=>?_) (λk a ha=>?_) (λk a ha=>?_)
 ·obtain⟨v,hv,rfl⟩:=key k a ha;rw[hv,Nat.zero_add];exact(h2 k v hv).1
 ·obtain⟨v,hv,rfl⟩:=key k a ha;rw[hv];exact(h2 k v hv).2
 ·obtain⟨v,hv,rfl⟩:=key k a ha;rw[hv];exact .sc
structure Inv (c:Ctx) (H:Xz) (M:Nat->Prop):Prop where
 obj:∀ o x,H o=some x->M o/\Xzg c (c.ρ o) x/\∀ e∈x.es,∀ a∈e.cells,a.Ok M
 sep:∀ o o' x x',H o=some x->H o'=some x'->o≠o'->(c.ρ o).blk=(c.ρ o').blk->x.solo=false/\(x.spent=false->x'.spent=true/\x'.es.length*x'.esz<=x.es.length*x.esz)
 stab:∀ o x,H o=some x->¬ c.Sa (c.ρ o).blk/\¬ c.So (c.ρ o).blk
 lt:∀ b,c.Sa b\/c.So b->b<c.w.heap.size
 base:c.B<=c.w.heap.size
 own:∀ b,c.So b->c.B<=b
 low:∀ o x,H o=some x->c.B<=(c.ρ o).blk
 glob:GF c
structure Fr (c:Ctx) (H:Xz) (w':World):Prop where
 os:w'.os=c.w.os
 tape:w'.tape=c.w.tape
 output:w'.output=c.w.output/\dr c.w<=dr w'
 size:c.w.heap.size<=w'.heap.size
 block:∀ b,b<c.w.heap.size->(∀ o x,H o=some x->(c.ρ o).blk≠b)->w'.heap[b]?=c.w.heap[b]?
def Xaf (c:Ctx) (H:Xz) (c':Ctx) (H':Xz):Prop :=
 ∀ q x,H' q=some x->c.w.heap.size<=(c'.ρ q).blk\/∃ q' x',H q'=some x'/\(c.ρ q').blk=(c'.ρ q).blk
end Go.Av


namespace Go.Av
variable [Gls]
inductive TK where
 |struct (fs:List (Nat×Nat))
 |array (len elem:Nat)
 |slice (elem:Nat)
 |int (k:IntKind)
 |bool
 |string
 |pointer (e:Nat)
 |map (k e:Nat)
 |iface
 |other
 deriving Inhabited
structure TI where
 kind:TK
 size:Nat
 bytes:Nat
 zero:Value
 eqok:Bool:=false
 deriving Inhabited
def TK.isAgg:TK->Bool
 |.struct _|.array _ _=>true
 |_=>false
def X8g:TypeDesc->TK
 |.struct fs=>.struct (fs.toList.map λf=>(f.offset,f.type))
 |.array n e=>.array n e
 |.slice e=>.slice e
 |.int k=>.int k
 |.bool=>.bool
 |.string=>.string
 |.pointer e=>.pointer e
 |.map k e=>.map k e
 |.interface _=>.iface
 |_=>.other
structure Xfq (P:Program) (t:Nat) (ti:TI):Prop where
 parts:∃ i d,P.info? t=some i/\P.underlying t=some d/\i.zero=some ti.zero/\ti.kind=X8g d/\ti.size=i.size/\ti.bytes=i.bytes
 zs:(X1m ti.zero).whole=true/\(X1m ti.zero).cells.length=ti.size
 eq : ti.eqok = true -> P.stoodInHeld t = false /\ P.eqGuardType P.depth t = false /\ ∀ fs, P.underlying t = some (.struct fs) -> ∀ f ∈ fs, f.name ≠ "_"
abbrev Ty:=Nat->Option TI
def X7a (P:Program) (T:Ty):Prop:=∀ t ti,T t=some ti->Xfq P t ti
theorem X1y {P:Program} {t:Nat} {ti:TI} (h:Xfq P t ti) :
  ∃ i d,P.info? t=some i/\P.underlying t=some d/\i.zero=some ti.zero/\ti.kind=X8g d/\ti.size=i.size/\ti.bytes=i.bytes:=h.parts
section
variable {P:Program} {t:Nat} {ti:TI} (w:World)
theorem X0w (h:Xfq P t ti):(Go.sizeOf t).run P w=.ok ti.size w:=by
 obtain⟨i,d,hi,_,_,_,hs,_⟩:=X1y h;simp[Go.sizeOf,typeInfo,hi,hs]
theorem X9u (h:Xfq P t ti):(zeroValue t).run P w=.ok ti.zero w:=by
 obtain⟨i,d,hi,_,hz,_⟩:=X1y h;simp[zeroValue,typeInfo,hi,hz]
theorem X6d (h:Xfq P t ti):(isAgg t).run P w=.ok ti.kind.isAgg w:=by
 obtain⟨i,d,_,hd,_,hk,_⟩:=X1y h;unfold isAgg;rw[Sem.run_bind,run_underlying hd w,hk];cases d<;>simp[X8g,TK.isAgg]
theorem Xam {fs:List (Nat×Nat)} (h:Xfq P t ti) (hk:ti.kind=.struct fs) :
  ∃ gs,P.underlying t=some (.struct gs)/\fs=gs.toList.map λf=>(f.offset,f.type):=by
 obtain⟨i,d,_,hd,_,hk',_⟩:=X1y h;rw[hk] at hk';cases d<;>simp[X8g] at hk'
 exact⟨_,hd,hk'⟩
theorem X9r {n e:Nat} (h:Xfq P t ti) (hk:ti.kind=.array n e):P.underlying t=some (.array n e):=by
 obtain⟨i,d,_,hd,_,hk',_⟩:=X1y h;rw[hk] at hk';cases d<;>simp[X8g] at hk'
 obtain⟨rfl,rfl⟩:=hk';exact hd
theorem X1i {e:Nat} (h:Xfq P t ti) (hk:ti.kind=.slice e):P.underlying t=some (.slice e):=by
 obtain⟨i,d,_,hd,_,hk',_⟩:=X1y h;rw[hk] at hk';cases d<;>simp[X8g] at hk'
 obtain rfl:=hk';exact hd
theorem Xk4 {k:IntKind} (h:Xfq P t ti) (hk:ti.kind=.int k):P.underlying t=some (.int k):=by
 obtain⟨i,d,_,hd,_,hk',_⟩:=X1y h;rw[hk] at hk';cases d<;>simp[X8g] at hk'
 obtain rfl:=hk';exact hd
theorem Xgx (h:Xfq P t ti) (hk:ti.kind=.bool):P.underlying t=some .bool:=by
 obtain⟨i,d,_,hd,_,hk',_⟩:=X1y h;rw[hk] at hk';cases d<;>simp[X8g] at hk'
 exact hd
theorem Xri (h:Xfq P t ti) (hk:ti.kind=.iface):∃ ms,P.underlying t=some (.interface ms):=by
 obtain⟨i,d,_,hd,_,hk',_⟩:=X1y h;rw[hk] at hk';cases d<;>simp[X8g] at hk'
 exact⟨_,hd⟩
theorem Xnq {e:Nat} (h:Xfq P t ti) (hk:ti.kind=.pointer e):P.underlying t=some (.pointer e):=by
 obtain⟨i,d,_,hd,_,hk',_⟩:=X1y h;rw[hk] at hk';cases d<;>simp[X8g] at hk'
 obtain rfl:=hk';exact hd
theorem X84 (h:Xfq P t ti) (hk:ti.kind=.string):P.underlying t=some .string:=by
 obtain⟨i,d,_,hd,_,hk',_⟩:=X1y h;rw[hk] at hk';cases d<;>simp[X8g] at hk'
 exact hd
end
end Go.Av


namespace Go.Av
variable [Gls]
theorem X0m.shallow {c:Ctx} {d:Bool} {a:AV} {v:Value} (h:X0m c d a v):X0m c false a v:=by
 induction h with
 |junk=>exact .junk
 |sc=>exact .sc
 |nils=>exact .nils
 |agg hl h1 h ih=>exact .agg hl h1 ih
 |tup hl h ih=>exact .tup hl ih
 |listNil=>exact .listNil
 |list vf hne hS hn hcap hsz hcell h1 h ih=>exact .list vf hne hS hn hcap hsz hcell h1 h
 |ref hle=>exact .ref hle
 |ptr=>exact .ptr
 |elem vf hS hcell h1 h ih=>exact .elem vf hS hcell h1 h
 |fn hd hl h ih=>exact .fn (λh=>by cases h) hl ih
 |cond h hn ih=>exact .cond ih hn
 |mref h=>exact .mref h
 |mv _ ih=>exact .mv ih
theorem X0m.okDeep {c:Ctx} {a:AV} {v:Value} {M:Nat->Prop} (h:X0m c true a v):a.Ok M:=by
 generalize hd:true=d at h
 induction h with
 |junk=>exact .junk
 |sc=>exact .sc
 |nils=>exact .nils
 |@agg d cs vs hl h1 h ih =>
  refine .agg λa ha=>?_;obtain⟨i,hi⟩:=List.getElem?_of_mem ha;have hlt:i<vs.size:=by rw[<-hl];exact(List.getElem?_eq_some_iff.1 hi).1
  exact ih i a vs[i] hi (by simp[hlt]) hd
 |@tup d cs vs hl h ih =>
  refine .tup λa ha=>?_;obtain⟨i,hi⟩:=List.getElem?_of_mem ha;have hlt:i<vs.size:=by rw[<-hl];exact(List.getElem?_eq_some_iff.1 hi).1
  exact ih i a vs[i] hi (by simp[hlt]) hd
 |listNil=>exact .list
 |list=>exact .list
 |ref=>cases hd
 |ptr=>cases hd
 |mref=>cases hd
 |mv=>cases hd
 |elem=>exact .elem
 |fn hf=>exact .fn λa ha=>by rw[hf hd.symm] at ha;cases ha
 |cond=>cases hd
def EAt (c:Ctx) (M:Nat->Prop) (e:AV) (b off:Nat):Prop :=
 ∀ k a,e.cells[k]?=some a->a.Ok M/\∃ v,c.w.cell? ⟨b,off+k,none⟩=some v/\X0m c false a v/\v.oneCell'=true
def Xgf (ti:TI) (e:AV) (k:Nat):Option AV :=
 if ti.kind.isAgg then
  if k+ti.size<=e.cells.length then some (.agg ((e.cells.drop k).take ti.size)) else none
 else e.cells[k]?
section
variable {P:Program}
theorem Xxf {c:Ctx} {M:Nat->Prop} {e:AV} {b off k t:Nat} {ti:TI} {a:AV} (hE:EAt c M e b off) (ht:Xfq P t ti) (hl:Xgf ti e k=some a) :
  a.Ok M/\∃ v,(loadVar t ⟨b,off+k,none⟩).run P c.w=.ok v c.w/\X0m c false a v:=by
 unfold Xgf at hl;split at hl
 ·rename_i hagg;split at hl
  ·rename_i hle;cases hl
   have hcell:∀ j,j<ti.size->∃ v,c.w.cell? ⟨b,off+(k+j),none⟩=some v/\X0m c false (e.cells.getD (k+j) .junk) v/\v.oneCell'=true/\(e.cells.getD (k+j) .junk).Ok M:=by
    intro j hj;have hlt:k+j<e.cells.length:=by omega
    obtain⟨ho,v,h1,h2,h3⟩:=hE (k+j) _ (List.getElem?_eq_getElem hlt);exact⟨v,h1,by simpa[List.getD,List.getElem?_eq_getElem hlt] using h2,h3,by simpa[List.getD,List.getElem?_eq_getElem hlt] using ho⟩
   let f:Nat->Value:=λj=>(c.w.cell? ⟨b,off+(k+j),none⟩).getD undef
   have hf:∀ j,j<ti.size->c.w.cell? ((⟨b,off+k,none⟩:Addr).add j)=some (f j):=by
    intro j hj;obtain⟨v,h1,_⟩:=hcell j hj;simp only[Addr.add_lit,f,Nat.add_assoc,h1,Option.getD_some]
   have hget:∀ (j:Nat) (a:AV),((e.cells.drop k).take ti.size)[j]?=some a->j<ti.size/\a=e.cells.getD (k+j) .junk:=by
    intro j a ha;rw[List.getElem?_take] at ha;split at ha
    ·rename_i hj;rw[List.getElem?_drop] at ha;exact⟨hj,by simp[List.getD,ha]⟩
    ·cases ha
   refine⟨.agg λa ha=>?_,.agg ((List.range ti.size).map f).toArray,?_,.agg ?_ ?_ ?_⟩
   ·obtain⟨j,hj⟩:=List.getElem?_of_mem ha;obtain⟨hlt,rfl⟩:=hget j a hj;obtain⟨v,_,_,_,h⟩:=hcell j hlt;exact h
   ·simp only[loadVar,Sem.run_bind,X6d c.w ht,hagg,Result.andThen_ok,if_true,X0w c.w ht,run_loadCells c.w _ _ f hf,Sem.run_pure]
   ·simp;omega
   ·intro v hv;simp at hv;obtain⟨j,hj,rfl⟩:=hv;obtain⟨v,h1,_,h3,_⟩:=hcell j hj;simpa[f,h1] using h3
   ·intro i a v ha hv;obtain⟨hlt,rfl⟩:=hget i a ha;obtain⟨u,h1,h2,_⟩:=hcell i hlt;simp[hlt] at hv;subst hv;simpa[f,h1] using h2
  ·cases hl
 ·rename_i hagg;have hagg':ti.kind.isAgg=false:=by simpa using hagg
  obtain⟨ho,v,h1,h2,_⟩:=hE k a hl;refine⟨ho,v,?_,h2⟩;simp only[loadVar,Sem.run_bind,X6d c.w ht,hagg',Result.andThen_ok,Bool.false_eq_true,if_false,run_load,h1]
end
inductive Xqw (H:Xz):AV->AV->Nat->Prop
 |ptr {o i k x e} (hH:H o=some x) (he:x.es[i]?=some e):Xqw H (.ptr o i k) e k
 |elem {own e k}:Xqw H (.elem own e k) e k
theorem Xtp {c:Ctx} {H:Xz} {M:Nat->Prop} (hI:Inv c H M) {p:AV} {e:AV} {k:Nat} (h:Xqw H p e k) {v:Value} (hv:X0m c false p v) :
  ∃ b off,v=.pointer (some ⟨b,off+k,none⟩)/\EAt c M e b off:=by
 cases h with
 |@ptr o i k x e hH he =>
  cases hv
  refine⟨_,_,rfl,λk' a ha=>?_⟩;obtain⟨hM,⟨⟨cur,hb,hsz,hc⟩,_,_,_⟩,hok⟩:=hI.obj o x hH;obtain⟨_,hc'⟩:=hc i e he;obtain⟨v,h1,h2,h3⟩:=hc' k' a ha;refine⟨hok e (List.mem_of_getElem? he) a (List.mem_of_getElem? ha),v,?_,h2,h3⟩;rw[cell_of_row _ _ _ _ _ _ hb];exact h1
 |elem =>
  cases hv with
  |elem vf hS hcell h1 h =>
   exact⟨_,_,rfl,λk' a ha=>⟨(h k' a ha).okDeep,_,hcell k' a ha,(h k' a ha).shallow,h1 k' a ha⟩⟩
end Go.Av


namespace Go.Av
variable [Gls]
def Xtb (op:BinOp) (k:IntKind) (a b:Int):Option Value :=
 match op with
 |.add=>some (.int k (k.wrap (a+b)))
 |.sub=>some (.int k (k.wrap (a - b)))
 |.mul=>some (.int k (k.wrap (a*b)))
 |.and=>some (.int k (bits .and k a b))
 |.or=>some (.int k (bits .or k a b))
 |.xor=>some (.int k (bits .xor k a b))
 |.andNot=>some (.int k (bits .andNot k a b))
 |.eql=>some (.bool (a==b))
 |.neq=>some (.bool (a != b))
 |.lss=>some (.bool (decide (a<b)))
 |.leq=>some (.bool (decide (a<=b)))
 |.gtr=>some (.bool (decide (a>b)))
 |.geq=>some (.bool (decide (a >= b)))
 |_=>none
def Xw2 (op:BinOp) (a b:ByteArray):Option Value :=
 match op with
 |.eql=>some (.bool (a.toList==b.toList))
 |.neq=>some (.bool (!(a.toList==b.toList)))
 |.lss=>some (.bool (Op.bytesLess a.toList b.toList))
 |.leq=>some (.bool (Op.bytesLess a.toList b.toList||a.toList==b.toList))
 |.gtr=>some (.bool (!(Op.bytesLess a.toList b.toList||a.toList==b.toList)))
 |.geq=>some (.bool (!Op.bytesLess a.toList b.toList))
 |_=>none
abbrev AV.int (k:IntKind) (n:Int):AV:=.sc (.int k n)
abbrev AV.bool (b:Bool):AV:=.sc (.bool b)
def eqT (T:Ty):Nat->Nat->AV->AV->Option Bool
 |0,_,_,_=>none
 |d+1,t,x,y =>
  match T t with
  |none=>none
  |some ti =>
   match ti.kind,x,y with
   |.bool,.sc (.bool a),.sc (.bool b)=>some (a==b)
   |.int _,.sc (.int k a),.sc (.int k' b)=>if k=k' then some (a==b) else none
   |.string,.sc (.string a),.sc (.string b)=>some (a.toList==b.toList)
   |.struct fs,.agg xs,.agg ys=>if ti.eqok then eqFs (eqT T d) T xs ys fs else none
   |.array n e,.agg xs,.agg ys=>match T e with
    |some te=>eqAs (eqT T d) te xs ys e 0 n
    |none=>none
   |_,_,_=>none
where
 partA (ti:TI) (cs:List AV) (off:Nat):Option AV :=
  if ti.kind.isAgg then (if off+ti.size<=cs.length then some (.agg ((cs.drop off).take ti.size)) else none) else cs[off]?
 eqFs (rec:Nat->AV->AV->Option Bool) (T:Ty) (xs ys:List AV):List (Nat×Nat)->Option Bool
  |[]=>some true
  |(off,ft)::r =>
   match T ft with
   |none=>none
   |some fi=>match partA fi xs off,partA fi ys off with
    |some a,some b=>match rec ft a b,eqFs rec T xs ys r with
     |some p,some q=>some (p&&q)
     |_,_=>none
    |_,_=>none
 eqAs (rec:Nat->AV->AV->Option Bool) (te:TI) (xs ys:List AV) (e:Nat):Nat->Nat->Option Bool
  |_,0=>some true
  |i,n+1 =>
   match partA te xs (i*te.size),partA te ys (i*te.size) with
   |some a,some b=>match rec e a b,eqAs rec te xs ys e (i+1) n with
    |some p,some q=>some (p&&q)
    |_,_=>none
   |_,_=>none
section
variable {P:Program}
theorem Xxx {op:BinOp} {k:IntKind} {a b:Int} {v:Value} (h:Xtb op k a b=some v) (t:Nat) (x y:Operand) (w:World) :
  ((do eqGuard op t x y (.int k a) (.int k b);binOp op t (.int k a) (.int k b):Sem Value)).run P w=.ok v w:=by
 cases op<;>simp[Xtb] at h<;>subst h<;>simp[eqGuard_at_int,binOp,Op.intArith,Op.intBits,Op.intCmp,bits]
theorem Xw1 {op:BinOp} {a b:ByteArray} {v:Value} (h:Xw2 op a b=some v) (t:Nat) (x y:Operand) (w:World) :
  ((do eqGuard op t x y (.string a) (.string b);binOp op t (.string a) (.string b):Sem Value)).run P w=.ok v w:=by
 cases op<;>simp[Xw2] at h<;>subst h<;>simp[eqGuard_at_string,binOp,Op.stringOp]
theorem Xz8 {t:Nat} (ht:P.underlying t=some .bool) (a b:Bool) (x y:Operand) (w:World) :
  ((do eqGuard .eql t x y (.bool a) (.bool b);binOp .eql t (.bool a) (.bool b):Sem Value)).run P w=.ok (.bool (a==b)) w:=by
 simp_all [eqGuard_at_bool,binOp,Op.equal,Op.maxDepth,run_equalIn_bool']
theorem Xz7 {t:Nat} (ht:P.underlying t=some .bool) (a b:Bool) (x y:Operand) (w:World) :
  ((do eqGuard .neq t x y (.bool a) (.bool b);binOp .neq t (.bool a) (.bool b):Sem Value)).run P w=.ok (.bool (!(a==b))) w:=by
 simp_all [eqGuard_at_bool,binOp,Op.equal,Op.maxDepth,run_equalIn_bool']
theorem Xz5 {a b:ByteArray} (h:a.size+b.size<4611686018427387904) (t:Nat) (x y:Operand) (w:World) :
  ((do eqGuard .add t x y (.string a) (.string b);binOp .add t (.string a) (.string b):Sem Value)).run P w=.ok (.string (a++b)) w:=by
 have h1:(eqGuard .add t x y (.string a) (.string b)).run P w=.ok () w:=rfl;have h2:(binOp .add t (.string a) (.string b)).run P w=.ok (.string (a++b)) w:=by
  show(Op.stringOp .add a b).run P w=_;have:¬ (((a.size+b.size:Nat):Int)>IntKind.i64.max):=by
   have:IntKind.i64.max=9223372036854775807:=by decide
   grind
  simp_all [Op.stringOp,if_neg]
 simp_all
def ifB (op:BinOp) (u:Value):Option Bool :=
 match op,u with
 |.eql,.nilIface=>some true
 |.neq,.nilIface=>some false
 |.eql,.iface _ _=>some false
 |.neq,.iface _ _=>some true
 |_,_=>none
theorem X0bf {op:BinOp} {u:Value} {b:Bool} (h:ifB op u=some b) {t:Nat} {ms:Array (String×TypeId)} (ht:P.underlying t=some (.interface ms)) (x:Operand) (w:World) :
  ((do eqGuard op t x (.const .nilIface) u .nilIface;binOp op t u .nilIface:Sem Value)).run P w=.ok (.bool b) w:=by
 have e1:∀ d,(Op.equalIn (d+1) t .nilIface .nilIface).run P w=.ok true w:=by
  simp_all [Op.equalIn,Sem.run_bind,run_underlying]
 have e2:∀ d i v,(Op.equalIn (d+1) t (.iface i v) .nilIface).run P w=.ok false w:=by
  simp_all [Op.equalIn,Sem.run_bind,run_underlying]
 have g:∀ op' v',(op'=BinOp.eql\/op'=.neq)->(v'=Value.nilIface\/∃ i q,v'=.iface i q)->(eqGuard op' t x (.const .nilIface) v' .nilIface).run P w=.ok () w:=by
  rintro op' v' (rfl|rfl) (rfl|⟨i,q,rfl⟩)<;>first|rfl|(cases x<;>rfl)
 have b1:∀ v',(binOp .eql t v' .nilIface)=(do pure (.bool (<-Op.equalIn (9999+1) t v' .nilIface)):Sem Value)->∀ r,(Op.equalIn (9999+1) t v' .nilIface).run P w=.ok r w->(binOp .eql t v' .nilIface).run P w=.ok (.bool r) w:=by
  simp_all
 have b2:∀ v',(binOp .neq t v' .nilIface)=(do pure (.bool (!(<-Op.equalIn (9999+1) t v' .nilIface))):Sem Value)->∀ r,(Op.equalIn (9999+1) t v' .nilIface).run P w=.ok r w->(binOp .neq t v' .nilIface).run P w=.ok (.bool (!r)) w:=by
  simp_all
 unfold ifB at h;split at h
 ·cases h;rw[Sem.run_bind,g _ _ (.inl rfl) (.inl rfl),Result.andThen_ok,b1 _ rfl _ (e1 9999)]
 ·cases h;rw[Sem.run_bind,g _ _ (.inr rfl) (.inl rfl),Result.andThen_ok,b2 _ rfl _ (e1 9999)];rfl
 ·cases h;rw[Sem.run_bind,g _ _ (.inl rfl) (.inr ⟨_,_,rfl⟩),Result.andThen_ok,b1 _ rfl _ (e2 9999 _ _)]
 ·cases h;rw[Sem.run_bind,g _ _ (.inr rfl) (.inr ⟨_,_,rfl⟩),Result.andThen_ok,b2 _ rfl _ (e2 9999 _ _)];rfl
 ·cases h
def ptB (op:BinOp) (nil:Bool):Option Bool :=
 match op with
 |.eql=>some nil
 |.neq=>some (!nil)
 |_=>none
theorem X0ai {op:BinOp} {u:Option Addr} {b:Bool} (h:ptB op u.isNone=some b) {t e:Nat} (ht:P.underlying t=some (.pointer e)) (x y:Operand) (w:World) :
  ((do eqGuard op t x y (.pointer u) (.pointer none);binOp op t (.pointer u) (.pointer none):Sem Value)).run P w=.ok (.bool b) w:=by
 have e1:(Op.equalIn (9999+1) t (.pointer u) (.pointer none)).run P w=.ok u.isNone w:=by
  unfold Op.equalIn;rw[Sem.run_bind,run_underlying ht w];cases u<;>rfl
 unfold ptB at h;split at h
 ·cases h
  have h1:(eqGuard .eql t x y (.pointer u) (.pointer none)).run P w=.ok () w:=rfl;have h2:(binOp .eql t (.pointer u) (.pointer none))=(do pure (.bool (<-Op.equalIn (9999+1) t (.pointer u) (.pointer none))):Sem Value):=rfl
  simp_all
 ·cases h
  have h1:(eqGuard .neq t x y (.pointer u) (.pointer none)).run P w=.ok () w:=rfl;have h2:(binOp .neq t (.pointer u) (.pointer none))=(do pure (.bool (!(<-Op.equalIn (9999+1) t (.pointer u) (.pointer none)))):Sem Value):=rfl
  simp_all
 ·cases h
end
end Go.Av


namespace Go.Av
variable [Gls]
theorem Xn0 (c:Ctx) (d:Bool) (v:Value):X0m c d (Xi0 v) v:=by
 unfold Xi0;split
 ·exact .nils
 ·exact .sc
theorem Xq0 (M:Nat->Prop) (v:Value):(Xi0 v).Ok M:=by
 unfold Xi0;split
 ·exact .nils
 ·exact .sc
theorem X7r (c:Ctx) (d:Bool) (v:Value):X0m c d (X1m v) v:=by
 unfold X1m;split
 ·rename_i vs;split
  ·rename_i h;refine .agg (by simp) (λv hv=>?_) (λi a v ha hv=>?_)
   ·rw[Array.all_eq_true_iff_forall_mem] at h;exact h v hv
   ·simp only[List.getElem?_map,Array.getElem?_toList,hv,Option.map_some] at ha;cases ha
    exact Xn0 c d v
  ·exact .sc
 ·exact Xn0 c d v
theorem X9i (M:Nat->Prop) (v:Value):(X1m v).Ok M:=by
 unfold X1m;split
 ·rename_i vs;split
  ·refine .agg λa ha=>?_;obtain⟨v,_,rfl⟩:=List.mem_map.1 ha;exact Xq0 M v
  ·exact .sc
 ·exact Xq0 M v
structure X7c (c:Ctx) (M:Nat->Prop) (l:List AV) (vs:Array Value):Prop where
 len:l.length=vs.size
 rel:∀ (i:Nat) a v,l[i]?=some a->vs[i]?=some v->X0m c false a v/\v.oneCell'=true/\a.Ok M
theorem X7c.agg {c:Ctx} {M:Nat->Prop} {l:List AV} {vs:Array Value} (h:X7c c M l vs):X0m c false (.agg l) (.agg vs)/\(AV.agg l).Ok M:=by
 refine⟨.agg h.len (λv hv=>?_) (λi a v ha hv=>(h.rel i a v ha hv).1),.agg λa ha=>?_⟩
 ·obtain⟨i,hi,rfl⟩:=Array.getElem_of_mem hv;have:i<l.length:=by rw[h.len];exact hi
  exact(h.rel i l[i] vs[i] (List.getElem?_eq_getElem this) (Array.getElem?_eq_getElem hi)).2.1
 ·obtain⟨i,hi⟩:=List.getElem?_of_mem ha;have:i<vs.size:=by rw[<-h.len];exact(List.getElem?_eq_some_iff.1 hi).1
  exact(h.rel i a vs[i] hi (Array.getElem?_eq_getElem this)).2.2
theorem X7c.of_agg {c:Ctx} {M:Nat->Prop} {l:List AV} {vs:Array Value} (h:X0m c false (.agg l) (.agg vs)) (hk:(AV.agg l).Ok M):X7c c M l vs:=by
 cases h with
 |agg hl h1 h=>cases hk with|agg hk=>exact⟨hl,λi a v ha hv=>⟨h i a v ha hv,h1 v (Array.mem_of_getElem? hv),hk a (List.mem_of_getElem? ha)⟩⟩
theorem Xbq {c:Ctx} {M:Nat->Prop} {a:AV} {v:Value} (h:X0m c false a v) (hk:a.Ok M) (hw:a.whole=true):X7c c M a.cells v.cells:=by
  cases a with
  |agg cs=>cases h with|agg hl h1 h=>exact .of_agg (.agg hl h1 h) hk
  |_ =>
    first
      |(simp[AV.whole,AV.leaf] at hw;done)
      | (have hone := h.oneCell (by simpa [AV.whole] using hw)
         have hc:v.cells=#[v]:=by cases v<;>first|rfl|simp[Value.oneCell'] at hone
         refine⟨by simp[AV.cells,hc],λi a' v' ha hv=>?_⟩;rw[hc] at hv
         cases i with
         |zero=>simp[AV.cells] at ha hv;subst ha hv;exact⟨h,hone,hk⟩
         |succ i=>simp[AV.cells] at ha)
def splice (l:List AV) (off:Nat) (m:List AV):List AV:=l.take off++m++l.drop (off+m.length)
theorem getElem?_splice {l m:List AV} {off:Nat} (h:off+m.length<=l.length) (j:Nat) :
  (splice l off m)[j]?=if off<=j/\j<off+m.length then m[j - off]? else l[j]?:=by
 unfold splice;rw[List.append_assoc,List.getElem?_append,List.getElem?_append];simp only[List.length_take,Nat.min_eq_left (show off<=l.length by omega)];by_cases h1:j<off
 ·rw[if_pos h1,if_neg om,List.getElem?_take,if_pos h1]
 ·rw[if_neg h1];by_cases h2:j - off<m.length
  ·rw[if_pos h2,if_pos om]
  ·rw[if_neg h2,if_neg om,List.getElem?_drop];congr 1;omega
theorem Xqi (vs:Array Value) (off:Nat) (cs:Array Value) (h:off+vs.size<=cs.size) (j:Nat) :
  (vs.zipIdx.foldl (λcs (x:Value×Nat)=>cs.setIfInBounds (off+x.2) x.1) cs)[j]?=if off<=j/\j<off+vs.size then vs[j - off]? else cs[j]?:=by
 rw[<-Array.foldl_toList,Array.toList_zipIdx];obtain⟨l⟩:=vs;simp only[List.size_toArray,List.getElem?_toArray] at *;have key:∀ (l:List Value) (n:Nat) (cs:Array Value),off+n+l.length<=cs.size->∀ j,
   ((l.zipIdx n).foldl (λcs (x:Value×Nat)=>cs.setIfInBounds (off+x.2) x.1) cs)[j]?=if off+n<=j/\j<off+n+l.length then l[j - off - n]? else cs[j]?:=by
  intro l
  induction l with
  |nil=>intro n cs h j;simp;intro h1 h2;omega
  |cons a l ih =>
   intro n cs h j;simp only[List.length_cons] at h;rw[List.zipIdx_cons,List.foldl_cons,ih (n+1) _ (by simp;omega) j];by_cases h1:j=off+n
   ·subst h1;rw[if_neg om,if_pos (by simp)];have:off+n<cs.size:=by omega
    simp[this,show off+n - off - n=0 by omega]
   ·by_cases h2:off+n<=j/\j<off+n+(a::l).length
    ·have hlt:j<off+n+1+l.length:=by have:=h2.2;simp only[List.length_cons] at this;omega
     rw[if_pos ⟨by omega,by omega⟩,if_pos h2];rw[show j - off - n=(j - off - (n+1))+1 by omega,List.getElem?_cons_succ]
    ·rw[if_neg (by simp only[List.length_cons] at h2;omega),if_neg h2,Array.getElem?_setIfInBounds_ne om]
 have:=key l 0 cs (by simpa using h) j;simpa using this
theorem X7c.splice {c:Ctx} {M:Nat->Prop} {l m:List AV} {vs us:Array Value} (h:X7c c M l vs) (g:X7c c M m us) {off:Nat} (ho:off+m.length<=l.length) :
  X7c c M (splice l off m) (us.zipIdx.foldl (λcs (x:Value×Nat)=>cs.setIfInBounds (off+x.2) x.1) vs):=by
 have hsz:∀ (l:List (Value×Nat)) (cs:Array Value),(l.foldl (λcs (x:Value×Nat)=>cs.setIfInBounds (off+x.2) x.1) cs).size=cs.size:=by
  intro l
  induction l with
  |nil=>intro cs;rfl
  |cons a l ih=>intro cs;rw[List.foldl_cons,ih];simp
 have hl:=h.len;have gl:=g.len;refine⟨?_,λi a v ha hv=>?_⟩
 ·rw[<-Array.foldl_toList,hsz];unfold Av.splice;simp only[List.length_append,List.length_take,List.length_drop];omega
 ·rw[getElem?_splice ho] at ha;rw[Xqi us off vs om] at hv;by_cases h1:off<=i/\i<off+m.length
  ·rw[if_pos h1] at ha;rw[if_pos om] at hv;exact g.rel _ a v ha hv
  ·rw[if_neg h1] at ha;rw[if_neg om] at hv;exact h.rel _ a v ha hv
def Xj2 (place:Nat->Option (Nat×Nat)) (cells:List AV):List (Nat×AV)->Option (List AV)
 |[]=>some cells
 |(i,v)::rest =>
  match place i with
  |none=>none
  |some (off,size) =>
   if v.whole&&v.cells.length==size&&decide (off+size<=cells.length) then Xj2 place (splice cells off v.cells) rest else none
theorem Xy9 {c:Ctx} {M:Nat->Prop} (place:Nat->Option (Nat×Nat)) (ev:Operand->AV) (σ:Operand->Value) (hE:∀ x,X0m c false (ev x) (σ x)/\(ev x).Ok M) :
  ∀ (ps:List (Nat×Operand)) (l r:List AV) (vs:Array Value),X7c c M l vs->Xj2 place l (ps.map λp=>(p.1,ev p.2))=some r ->
   ∃ us,Instr.fill place vs (ps.map λp=>(p.1,σ p.2))=some us/\X7c c M r us:=by
 intro ps
 induction ps with
 |nil=>intro l r vs hr h;simp[Xj2] at h;subst h;exact⟨vs,rfl,hr⟩
 |cons p ps ih =>
  intro l r vs hr h;simp only[List.map_cons,Xj2] at h;simp only[List.map_cons,Instr.fill]
  cases hp:place p.1 with
  |none=>simp[hp] at h
  |some q =>
   obtain⟨off,size⟩:=q;simp only[hp] at h ⊢;split at h
   ·rename_i hc;simp only[Bool.and_eq_true,beq_iff_eq,decide_eq_true_eq] at hc;obtain⟨⟨hw,hs⟩,hle⟩:=hc;have hcr:=Xbq (hE p.2).1 (hE p.2).2 hw;have h1:=hcr.len;have h2:=hr.len;rw[if_neg (by simp only[Bool.or_eq_true,decide_eq_true_eq,ne_eq];omega)];exact ih _ _ _ (hr.splice hcr om) h
   ·cases h
end Go.Av


namespace Go.Av
variable [Gls]
inductive Bd (ev:Operand->AV):Option Operand->Nat->Nat->Prop
 |dflt {d}:Bd ev none d d
 |given {x d k z} (h:ev x=.sc (.int k z)) (h0:0<=z):Bd ev (some x) d z.toNat
def Xq3:AV->Option Nat
 |.list _ es=>some es.length
 |.ref _ _ n=>some n
 |.nils=>some 0
 |.sc (.string s)=>some s.size
 |_=>none
def ptrA:AV->Option Bool
 |.ptr _ _ _=>some false
 |.elem _ _ _=>some false
 |.sc (.pointer u)=>some u.isNone
 |_=>none
inductive Pu (T:Ty) (ev:Operand->AV) (H:Xz):Op->AV->Prop
 |move {x}:Pu T ev H (.move x) (ev x)
 |assign {x}:Pu T ev H (.assign x) (ev x)
 |pick {c a b t v} (hc:ev c=.sc (.bool t)) (ha:t=true->ev a=v) (hb:t=false->ev b=v):Pu T ev H (.pick c a b) v
 |pickB {c a b t x y} (hc:ev c=.sc (.bool t)) (ha:t=true->ev a=.sc (.bool x)) (hb:t=false->ev b=.sc (.bool y)) :
   Pu T ev H (.pick c a b) (.sc (.bool (bif t then x else y)))
 |load {t x ti e k a} (ht:T t=some ti) (hd:Xqw H (ev x) e k) (hl:Xgf ti e k=some a):Pu T ev H (.load t x) a
 |nilCheckPtr {x o i k} (hx:ev x=.ptr o i k):Pu T ev H (.nilCheck x) (ev x)
 |nilCheckElem {x own e k} (hx:ev x=.elem own e k):Pu T ev H (.nilCheck x) (ev x)
 |nilCheckFn {x f caps} (hx:ev x=.fn f caps):Pu T ev H (.nilCheck x) (ev x)
 |binInt {op t x y yt k a b v} (hx:ev x=.sc (.int k a)) (hy:ev y=.sc (.int k b)) (h:Xtb op k a b=some v):Pu T ev H (.binOp op t x y yt) (.sc v)
 |quo {t x y yt k a b} (hx:ev x=.sc (.int k a)) (hy:ev y=.sc (.int k b)) (h:b≠0):Pu T ev H (.binOp .quo t x y yt) (.sc (.int k (k.wrap (a.tdiv b))))
 |rem {t x y yt k a b} (hx:ev x=.sc (.int k a)) (hy:ev y=.sc (.int k b)) (h:b≠0):Pu T ev H (.binOp .rem t x y yt) (.sc (.int k (a.tmod b)))
 |shl {t x y yt k k' a b} (hx:ev x=.sc (.int k a)) (hy:ev y=.sc (.int k' b)) (h:0<=b) :
   Pu T ev H (.binOp .shl t x y yt) (.sc (.int k (k.wrap (a*2 ^ (min b.toNat k.bits)))))
 |shr {t x y yt k k' a b} (hx:ev x=.sc (.int k a)) (hy:ev y=.sc (.int k' b)) (h:0<=b) :
   Pu T ev H (.binOp .shr t x y yt) (.sc (.int k (a.fdiv (2 ^ (min b.toNat k.bits)))))
 |binStr {op t x y yt a b v} (hx:ev x=.sc (.string a)) (hy:ev y=.sc (.string b)) (h:Xw2 op a b=some v):Pu T ev H (.binOp op t x y yt) (.sc v)
 |catStr {t x y yt a b} (hx:ev x=.sc (.string a)) (hy:ev y=.sc (.string b)) (h:a.size+b.size<4611686018427387904):Pu T ev H (.binOp .add t x y yt) (.sc (.string (a++b)))
 |ifaceNil {op t x yt u b ti} (hx:ev x=.sc u) (hy:ev (.const .nilIface)=.sc .nilIface) (ht:T t=some ti) (hk:ti.kind=.iface) (h:ifB op u=some b):Pu T ev H (.binOp op t x (.const .nilIface) yt) (.sc (.bool b))
 |ptrNil {op t x y yt nl b ti e} (hx:ptrA (ev x)=some nl) (hy:ev y=.sc (.pointer none)) (ht:T t=some ti) (hk:ti.kind=.pointer e) (h:ptB op nl=some b):Pu T ev H (.binOp op t x y yt) (.sc (.bool b))
 |boolEq {t x y yt a b ti} (hx:ev x=.sc (.bool a)) (hy:ev y=.sc (.bool b)) (ht:T t=some ti) (hk:ti.kind=.bool) :
   Pu T ev H (.binOp .eql t x y yt) (.sc (.bool (a==b)))
 |boolNe {t x y yt a b ti} (hx:ev x=.sc (.bool a)) (hy:ev y=.sc (.bool b)) (ht:T t=some ti) (hk:ti.kind=.bool) :
   Pu T ev H (.binOp .neq t x y yt) (.sc (.bool (!(a==b))))
 |aggEq {t x y yt xs ys r ti} (hx:ev x=.agg xs) (hy:ev y=.agg ys) (ht:T t=some ti) (hok:ti.eqok=true) (h:eqT T 10000 t (.agg xs) (.agg ys)=some r) :
   Pu T ev H (.binOp .eql t x y yt) (.sc (.bool r))
 |aggNe {t x y yt xs ys r ti} (hx:ev x=.agg xs) (hy:ev y=.agg ys) (ht:T t=some ti) (hok:ti.eqok=true) (h:eqT T 10000 t (.agg xs) (.agg ys)=some r) :
   Pu T ev H (.binOp .neq t x y yt) (.sc (.bool (!r)))
 |neg {t x k n} (hx:ev x=.sc (.int k n)):Pu T ev H (.unOp .neg t x) (.sc (.int k (k.wrap (0 - n))))
 |not {t x b} (hx:ev x=.sc (.bool b)):Pu T ev H (.unOp .not t x) (.sc (.bool (!b)))
 |conv {src dst x k n k' ts td} (hx:ev x=.sc (.int k n)) (hs:T src=some ts) (hd:T dst=some td) (hk:td.kind=.int k') :
   Pu T ev H (.convert src dst x) (.sc (.int k' (k'.wrap n)))
 |convStr {src dst x s ts td} (hx:ev x=.sc (.string s)) (hs:T src=some ts) (hd:T dst=some td) (hk:td.kind=.string) :
   Pu T ev H (.convert src dst x) (.sc (.string s))
 |fieldAddrPtr {s x f o i k fs off ft ti tf} (hx:ev x=.ptr o i k) (hs:T s=some ti) (hk:ti.kind=.struct fs) (hf:fs[f]?=some (off,ft))
   (ht:T ft=some tf) (hz:tf.size≠0):Pu T ev H (.fieldAddr s x f) (.ptr o i (k+off))
 |fieldAddrElem {s x f own e k fs off ft ti tf} (hx:ev x=.elem own e k) (hs:T s=some ti) (hk:ti.kind=.struct fs) (hf:fs[f]?=some (off,ft))
   (ht:T ft=some tf) (hz:tf.size≠0):Pu T ev H (.fieldAddr s x f) (.elem own e (k+off))
 |field {s x f cs fs off ft ti tf a} (hx:ev x=.agg cs) (hs:T s=some ti) (hk:ti.kind=.struct fs) (hf:fs[f]?=some (off,ft))
   (ht:T ft=some tf) (h:eqT.partA tf cs off=some a):Pu T ev H (.field s x f) a
 |indexList {t x ix own es k i ti et te e} (hx:ev x=.list own es) (hi:ev ix=.sc (.int k i)) (h0:0<=i) (ht:T t=some ti) (hk:ti.kind=.slice et)
   (hte:T et=some te) (he:es[i.toNat]?=some e) (hsz:e.cells.length=te.size):Pu T ev H (.indexAddr t x ix) (.elem own e 0)
 |indexRef {t x ix o off len k i ti et te y e} (hx:ev x=.ref o off len) (hi:ev ix=.sc (.int k i)) (h0:0<=i) (hlt:i<len) (ht:T t=some ti)
   (hk:ti.kind=.slice et) (hte:T et=some te) (hH:H o=some y) (he:y.es[off+i.toNat]?=some e) (hsz:e.cells.length=te.size) :
   Pu T ev H (.indexAddr t x ix) (.ptr o (off+i.toNat) 0)
 |indexArr {t x ix o j q k i ti} {n:Nat} {et te} (hx:ev x=.ptr o j q) (hi:ev ix=.sc (.int k i)) (h0:0<=i) (hlt:i<n) (ht:T t=some ti)
   (hk:ti.kind=.array n et) (hte:T et=some te):Pu T ev H (.indexAddr t x ix) (.ptr o j (q+i.toNat*te.size))
 |indexArrElem {t x ix own e q k i ti} {n:Nat} {et te} (hx:ev x=.elem own e q) (hi:ev ix=.sc (.int k i)) (h0:0<=i) (hlt:i<n) (ht:T t=some ti)
   (hk:ti.kind=.array n et) (hte:T et=some te):Pu T ev H (.indexAddr t x ix) (.elem own e (q+i.toNat*te.size))
 |indexAgg {t x ix cs k i ti} {n:Nat} {et te a} (hx:ev x=.agg cs) (hi:ev ix=.sc (.int k i)) (h0:0<=i) (hlt:i<n) (ht:T t=some ti)
   (hk:ti.kind=.array n et) (hte:T et=some te) (h:eqT.partA te cs (i.toNat*te.size)=some a):Pu T ev H (.index t x ix) a
 |indexStr {t x ix s k i ti b} (hx:ev x=.sc (.string s)) (hi:ev ix=.sc (.int k i)) (h0:0<=i) (ht:T t=some ti)
   (hk:ti.kind=.string) (h:s[i.toNat]?=some b):Pu T ev H (.index t x ix) (.sc (.int .u8 b.toNat))
 |sliceList {t x lo hi own es l h ti et te} (hx:ev x=.list own es) (hl:Bd ev lo 0 l) (hh:Bd ev hi es.length h) (hlh:l<=h) (hle:h<=es.length)
   (ht:T t=some ti) (hk:ti.kind=.slice et) (hte:T et=some te) (hsz:∀ e∈es,e.cells.length=te.size) :
   Pu T ev H (.slice t x lo hi none) (.list own ((es.drop l).take (h - l)))
 |sliceRef {t x lo hi o off len l h ti et te y} (hx:ev x=.ref o off len) (hl:Bd ev lo 0 l) (hh:Bd ev hi len h) (hlh:l<h) (hle:h<=len)
   (ht:T t=some ti) (hk:ti.kind=.slice et) (hte:T et=some te) (hH:H o=some y) (hsz:∃ e∈y.es,e.cells.length=te.size) :
   Pu T ev H (.slice t x lo hi none) (.ref o (off+l) (h - l))
 |sliceRef0 {t x lo hi o off len l ti et te} (hx:ev x=.ref o off len) (hl:Bd ev lo 0 l) (hh:Bd ev hi len l) (hle:l<=len)
   (ht:T t=some ti) (hk:ti.kind=.slice et) (hte:T et=some te):Pu T ev H (.slice t x lo hi none) (.list true [])
 |sliceRefV {t x lo hi o off len l h ti et te y} (hx:ev x=.ref o off len) (hl:Bd ev lo 0 l) (hh:Bd ev hi len h) (hlh:l<=h) (hz:l=0\/l<h) (hH:H o=some y) (hle:h<=len\/off+h<=y.es.length)
   (ht:T t=some ti) (hk:ti.kind=.slice et) (hte:T et=some te) (hes:y.esz=te.size):Pu T ev H (.slice t x lo hi none) (.ref o (off+l) (h - l))
 |sliceRefZ {t x lo hi o off len l h ti et te} (hx:ev x=.ref o off len) (hl:Bd ev lo 0 l) (hh:Bd ev hi len h) (hz:l=0) (hle:h<=len)
   (ht:T t=some ti) (hk:ti.kind=.slice et) (hte:T et=some te):Pu T ev H (.slice t x lo hi none) (.ref o (off+l) (h - l))
 |sliceNils {t x lo hi ti et te} (hx:ev x=.nils) (hl:Bd ev lo 0 0) (hh:Bd ev hi 0 0)
   (ht:T t=some ti) (hk:ti.kind=.slice et) (hte:T et=some te):Pu T ev H (.slice t x lo hi none) .nils
 |sliceClone {t x hi mx ti et te n} (hx:Xq3 (ev x)=some n) (hx':∀ s,ev x≠.sc (.string s)) (hh:Bd ev (some hi) 0 0) (hm:Bd ev (some mx) 0 0)
   (ht:T t=some ti) (hk:ti.kind=.slice et) (hte:T et=some te):Pu T ev H (.slice t x none (some hi) (some mx)) .nils
 |sliceListM {t x lo hi mx own es l h ti et te} (hx:ev x=.list own es) (hl:Bd ev lo 0 l) (hh:Bd ev (some hi) 0 h) (hm:Bd ev (some mx) 0 es.length) (hlh:l<=h) (hle:h<=es.length)
   (ht:T t=some ti) (hk:ti.kind=.slice et) (hte:T et=some te) (hsz:∀ e∈es,e.cells.length=te.size) :
   Pu T ev H (.slice t x lo (some hi) (some mx)) (.list own ((es.drop l).take (h - l)))
 |capNils {x t ti et} (hx:ev x=.nils) (ht:T t=some ti) (hk:ti.kind=.slice et) :
   Pu T ev H (.call { callee:=.builtin .cap,args:=#[x],argTypes:=#[t] }) (.sc (.int .i64 0))
 |sliceStr {t x lo hi s l h ti} (hx:ev x=.sc (.string s)) (hl:Bd ev lo 0 l) (hh:Bd ev hi s.size h) (hlh:l<=h) (hle:h<=s.size)
   (ht:T t=some ti) (hk:ti.kind=.string):Pu T ev H (.slice t x lo hi none) (.sc (.string (s.extract l h)))
 |extract {x i cs a} (hx:ev x=.tup cs) (h:cs[i]?=some a):Pu T ev H (.extract x i) a
 |makeFunc {f caps}:Pu T ev H (.makeFunc (.func f) #[] caps) (.fn f (caps.toList.map ev))
 |makeFuncM {f x}:Pu T ev H (.makeFunc (.func f) #[x] #[]) (.mv f (ev x))
 |lenSlice {x t ti et n} (h:Xq3 (ev x)=some n) (ht:T t=some ti) (hk:ti.kind=.slice et) (hs:∀ s,ev x≠.sc (.string s)) :
   Pu T ev H (.call { callee:=.builtin .len,args:=#[x],argTypes:=#[t] }) (.sc (.int .i64 n))
 |lenStr {x t ti s} (h:ev x=.sc (.string s)) (ht:T t=some ti) (hk:ti.kind=.string) :
   Pu T ev H (.call { callee:=.builtin .len,args:=#[x],argTypes:=#[t] }) (.sc (.int .i64 s.size))
 |lenArr {x t ti n et} (ht:T t=some ti) (hk:ti.kind=.array n et) :
   Pu T ev H (.call { callee:=.builtin .len,args:=#[x],argTypes:=#[t] }) (.sc (.int .i64 n))
 |min2 {x y ts k a b} (hx:ev x=.sc (.int k a)) (hy:ev y=.sc (.int k b)) :
   Pu T ev H (.call { callee:=.builtin .min,args:=#[x,y],argTypes:=ts }) (.sc (.int k (if b<a then b else a)))
 |max2 {x y ts k a b} (hx:ev x=.sc (.int k a)) (hy:ev y=.sc (.int k b)) :
   Pu T ev H (.call { callee:=.builtin .max,args:=#[x,y],argTypes:=ts }) (.sc (.int k (if b>a then b else a)))
 |buildS {t ps ti fs cs r} (ht:T t=some ti) (hk:ti.kind=.struct fs) (hz:X1m ti.zero=.agg cs)
   (hfs:∀ p∈fs,∃ tf,T p.2=some tf)
   (h:Xj2 (λi=>(fs[i]?).map λp=>(p.1,((T p.2).map (·.size)).getD 0)) cs (ps.toList.map λp=>(p.1,ev p.2))=some r) :
   Pu T ev H (.build t ps) (.agg r)
 |buildA {t ps ti n et te cs r} (ht:T t=some ti) (hk:ti.kind=.array n et) (hz:X1m ti.zero=.agg cs) (hte:T et=some te)
   (h:Xj2 (λi=>some (i*te.size,te.size)) cs (ps.toList.map λp=>(p.1,ev p.2))=some r):Pu T ev H (.build t ps) (.agg r)
theorem X0m.sc_inv {c:Ctx} {d:Bool} {v u:Value} (h:X0m c d (.sc v) u):u=v:=by cases h;rfl
theorem X0m.nils_inv {c:Ctx} {d:Bool} {u:Value} (h:X0m c d .nils u):∃ p,u=.slice p 0 0:=by cases h;grind
theorem X0m.ref_inv {c:Ctx} {d:Bool} {o off len:Nat} {u:Value} (h:X0m c d (.ref o off len) u) :
  u=.slice (some ⟨(c.ρ o).blk,off*(c.ρ o).esz,none⟩) len ((c.ρ o).cap - off)/\off+len<=(c.ρ o).cap:=by cases h;grind
theorem X0m.ptr_inv {c:Ctx} {d:Bool} {o i k:Nat} {u:Value} (h:X0m c d (.ptr o i k) u) :
  u=.pointer (some ⟨(c.ρ o).blk,i*(c.ρ o).esz+k,none⟩):=by cases h;rfl
theorem X0m.elem_inv {c:Ctx} {d own:Bool} {e:AV} {k:Nat} {u:Value} (h:X0m c d (.elem own e k) u) :
  ∃ b off,u=.pointer (some ⟨b,off+k,none⟩)/\∀ k',X0m c false (.elem own e k') (.pointer (some ⟨b,off+k',none⟩)):=by
 cases h with|elem vf hS hcell h1 h=>exact⟨_,_,rfl,λk'=>.elem vf hS hcell h1 h⟩
theorem X0m.agg_inv {c:Ctx} {d:Bool} {cs:List AV} {u:Value} (h:X0m c d (.agg cs) u):∃ vs,u=.agg vs:=by cases h;grind
theorem X0m.tup_inv {c:Ctx} {d:Bool} {cs:List AV} {u:Value} (h:X0m c d (.tup cs) u) :
  ∃ vs,u=.tuple vs/\cs.length=vs.size/\∀ (i:Nat) a v,cs[i]?=some a->vs[i]?=some v->X0m c false a v:=by cases h with|tup hl h=>exact⟨_,rfl,hl,λi a v ha hv=>(h i a v ha hv).shallow⟩
theorem X0m.fn_inv {c:Ctx} {d:Bool} {f:Nat} {caps:List AV} {u:Value} (h:X0m c d (.fn f caps) u) :
  ∃ vs,u=.func (.func f) #[] vs/\caps.length=vs.size/\∀ (i:Nat) a v,caps[i]?=some a->vs[i]?=some v->X0m c false a v:=by
 cases h with|fn hd hl h=>grind
theorem X0m.list_inv {c:Ctx} {d own:Bool} {es:List AV} {u:Value} (h:X0m c d (.list own es) u) :
  ∃ p cap,u=.slice p es.length cap/\(es=[]\/(es.length<=cap/\∃ b off esz,p=some ⟨b,off,none⟩/\c.S own b/\(∀ (i:Nat) e,es[i]?=some e->e.cells.length=esz) /\
   ∃ vf:Nat->Nat->Value,∀ (i:Nat) e (k:Nat) a,es[i]?=some e->e.cells[k]?=some a ->
    c.w.cell? ⟨b,off+i*esz+k,none⟩=some (vf i k)/\(vf i k).oneCell'=true/\X0m c true a (vf i k))):=by
 cases h with
 |listNil=>simp_all
 |list vf hne hS hn hcap hsz hcell h1 h =>
  subst hn;exact⟨_,_,rfl,.inr ⟨hcap,_,_,_,rfl,hS,hsz,vf,λi e k a he ha=>⟨hcell i e k a he ha,h1 i e k a he ha,h i e k a he ha⟩⟩⟩
theorem X0m.len_inv {c:Ctx} {d:Bool} {a:AV} {n:Nat} {u:Value} (h:X0m c d a u) (hl:Xq3 a=some n) (hs:∀ s,a≠.sc (.string s)) :
  ∃ p cap,u=.slice p n cap:=by
 cases a with
 |list own es=>obtain⟨p,cap,rfl,_⟩:=h.list_inv;simp[Xq3] at hl;grind
 |ref o off len=>obtain⟨rfl,_⟩:=h.ref_inv;simp[Xq3] at hl;grind
 |nils=>obtain⟨p,rfl⟩:=h.nils_inv;simp[Xq3] at hl;grind
 |sc v=>cases v<;>simp[Xq3] at hl;grind
 |_=>trivial
theorem Bd.run {ev:Operand->AV} {σ:Operand->Value} {c:Ctx} (hE:∀ x,X0m c false (ev x) (σ x)) {o:Option Operand} {d n:Nat} (h:Bd ev o d n) :
  (o=none/\n=d)\/∃ x k,∃ z:Int,o=some x/\σ x=.int k z/\0<=z/\n=z.toNat:=by
 cases h with
 |dflt=>grind
 |@given x d k z h h0 =>
  have:=hE x;rw[h] at this;exact .inr ⟨x,k,z,rfl,this.sc_inv,h0,rfl⟩
end Go.Av


namespace Go.Av
variable [Gls]
section
variable {P:Program} {T:Ty} {c:Ctx} {H:Xz} {M:Nat->Prop} {ev:Operand->AV} {σ:Operand->Value}
def PuOk (P:Program) (c:Ctx) (M:Nat->Prop) (σ:Operand->Value) (o:Oper) (a:AV):Prop :=
 ∃ v,(execOp σ o).run P c.w=.ok (.value v) c.w/\X0m c false a v/\a.Ok M
theorem PuOk.sc {o:Oper} {v:Value} (h:(execOp σ o).run P c.w=.ok (.value v) c.w):PuOk P c M σ o (.sc v):=⟨v,h,.sc,.sc⟩
theorem X04d (hT:X7a P T) (w:World) :
  ∀ (d t:Nat) (x y:AV) (u v:Value) (r:Bool),eqT T d t x y=some r->X0m c false x u->X0m c false y v->(Op.equalIn d t u v).run P w=.ok r w:=by
 have hpart:∀ (t:Nat) (ti:TI) (cs:List AV) (vs:Array Value) (off:Nat) (a:AV),T t=some ti->X0m c false (.agg cs) (.agg vs)->eqT.partA ti cs off=some a ->
   ∃ v,(part t vs off).run P w=.ok v w/\X0m c false a v:=by
  intro t ti cs vs off a ht hr h
  cases hr with
  |agg hl h1 hr =>
  unfold eqT.partA at h;split at h
  ·rename_i hagg;split at h
   ·rename_i hle;cases h
    refine⟨.agg (vs.extract off (off+ti.size)),by simp only[part,Sem.run_bind,X6d w (hT t ti ht),hagg,Result.andThen_ok,if_true,X0w w (hT t ti ht),Sem.run_pure],.agg ?_ ?_ ?_⟩
    ·simp;omega
    ·intro v hv;obtain⟨i,hi,rfl⟩:=Array.getElem_of_mem hv;simp only[Array.getElem_extract];exact h1 _ (Array.getElem_mem _)
    ·intro i a v ha hv;rw[List.getElem?_take] at ha;split at ha
     ·rw[List.getElem?_drop] at ha;rw[Array.getElem?_extract] at hv;split at hv
      ·exact hr _ a v ha hv
      ·cases hv
     ·cases ha
   ·cases h
  ·rename_i hagg;have hagg':ti.kind.isAgg=false:=by simpa using hagg
   have hlt:off<vs.size:=by rw[<-hl];exact(List.getElem?_eq_some_iff.1 h).1
   refine⟨vs[off],?_,hr off a _ h (Array.getElem?_eq_getElem hlt)⟩;simp only[part,Sem.run_bind,X6d w (hT t ti ht),hagg',Result.andThen_ok,Bool.false_eq_true,if_false,Array.getElem?_eq_getElem hlt,Sem.run_pure]
 intro d
 induction d with
 |zero=>intro t x y u v r h;simp[eqT] at h
 |succ d ih =>
  intro t x y u v r h hx hy;unfold eqT at h
  cases hti:T t with
  |none=>simp[hti] at h
  |some ti =>
   have hty:=hT t ti hti;simp only[hti] at h;split at h
   ·rename_i hk;cases h
    rw[hx.sc_inv,hy.sc_inv];exact run_equalIn_bool' w d t _ _ (Xgx hty hk)
   ·rename_i hk;split at h
    ·rename_i hkk;subst hkk;cases h
     rw[hx.sc_inv,hy.sc_inv];exact run_equalIn_int w d t _ _ _ _ (Xk4 hty hk)
    ·cases h
   ·rename_i hk;cases h
    rw[hx.sc_inv,hy.sc_inv];exact run_equalIn_string w d t _ _ (X84 hty hk)
   ·rename_i fs xs ys hk;split at h
    case isFalse=>cases h
    rename_i hok;obtain⟨hst,_,hnm⟩:=hty.eq hok;obtain⟨us,rfl⟩:=hx.agg_inv;obtain⟨vs,rfl⟩:=hy.agg_inv;obtain⟨gs,hu,hfs⟩:=Xam hty hk;have hfo:P.fieldsOf t=gs:=by simp[Program.fieldsOf,hu]
    rw[run_equalIn_struct w d t us vs (by rw[hfo];exact hu) hst,hfo];have hn:=hnm gs hu;have key : ∀ (l : List Field) (r : Bool), (∀ f ∈ l, f.name ≠ "_") -> eqT.eqFs (eqT T d) T xs ys (l.map λf => (f.offset, f.type)) = some r -> (Op.eqFields d us vs l).run P w = .ok r w := by
     intro l
     induction l with
     |nil=>intro r _ h;simp[eqT.eqFs] at h;subst h;rfl
     |cons f l ihl =>
      intro r hne h;simp only[List.map_cons,eqT.eqFs] at h
      cases hft:T f.type with
      |none=>simp[hft] at h
      |some fi =>
       simp only[hft] at h
       cases hp:eqT.partA fi xs f.offset with
       |none=>simp[hp] at h
       |some a =>
        cases hq:eqT.partA fi ys f.offset with
        |none=>simp[hp,hq] at h
        |some b =>
         simp only[hp,hq] at h
         cases hr1:eqT T d f.type a b with
         |none=>simp[hr1] at h
         |some p =>
          cases hr2:eqT.eqFs (eqT T d) T xs ys (l.map λf=>(f.offset,f.type)) with
          |none=>simp[hr1,hr2] at h
          |some q =>
           simp only[hr1,hr2,Option.some.injEq] at h;subst h;obtain⟨va,hva,hra⟩:=hpart f.type fi xs us f.offset a hft hx hp;obtain⟨vb,hvb,hrb⟩:=hpart f.type fi ys vs f.offset b hft hy hq;have he:=ih f.type a b va vb p hr1 hra hrb;have hl:=ihl q (λg hg=>hne g (List.mem_cons_of_mem _ hg)) hr2;simp only[Op.eqFields,hne f (List.mem_cons_self ..),ne_eq,not_false_eq_true,if_true,Sem.run_bind,hva,hvb,he,Result.andThen_ok];cases p
           ·simp
           ·simpa using hl
    rw[hfs] at h;exact key gs.toList r (λf hf=>hn f (by simpa using hf)) h
   ·rename_i n e xs ys hk;obtain⟨us,rfl⟩:=hx.agg_inv;obtain⟨vs,rfl⟩:=hy.agg_inv;have hu:=X9r hty hk
    cases hte:T e with
    |none=>simp[hte] at h
    |some te =>
     simp only[hte] at h;have key:∀ (m i:Nat) (r:Bool),eqT.eqAs (eqT T d) te xs ys e i m=some r ->
       (forIn (m:=Sem) (List.range' i m) ((none:Option Bool),()) (λi _=>do
        let b <-Op.equalIn d e (<-part e us (i*te.size)) (<-part e vs (i*te.size))
        if (!b)=true then pure (ForInStep.done (some false,())) else pure (ForInStep.yield (none,())))).run P w=.ok (if r then (none,()) else (some false,())) w:=by
      intro m
      induction m with
      |zero=>intro i r h;simp[eqT.eqAs] at h;subst h;simp
      |succ m ihm =>
       intro i r h;simp only[eqT.eqAs] at h
       cases hp:eqT.partA te xs (i*te.size) with
       |none=>simp[hp] at h
       |some a =>
        cases hq:eqT.partA te ys (i*te.size) with
        |none=>simp[hp,hq] at h
        |some b =>
         simp only[hp,hq] at h
         cases hr1:eqT T d e a b with
         |none=>simp[hr1] at h
         |some p =>
          cases hr2:eqT.eqAs (eqT T d) te xs ys e (i+1) m with
          |none=>simp[hr1,hr2] at h
          |some q =>
           simp only[hr1,hr2,Option.some.injEq] at h;subst h;obtain⟨va,hva,hra⟩:=hpart e te xs us _ a hte hx hp;obtain⟨vb,hvb,hrb⟩:=hpart e te ys vs _ b hte hy hq;have he:=ih e a b va vb p hr1 hra hrb;have hl:=ihm (i+1) q hr2;rw[List.range'_succ,List.forIn_cons];simp only[Sem.run_bind,hva,hvb,he,Result.andThen_ok];cases p
           ·simp
           ·simpa using hl
     have hk0:=key n 0 r h;simp only[Op.equalIn,Sem.run_bind,run_underlying hu,Result.andThen_ok,X0w w (hT e te hte)];rw[Std.Legacy.Range.forIn_eq_forIn_range'];simp only[Std.Legacy.Range.size,Nat.sub_zero,Nat.add_sub_cancel,Nat.div_one];rw[hk0];cases r<;>simp
   ·cases h
end
end Go.Av


namespace Go.Av
variable [Gls]
section
variable {P:Program} {T:Ty} {c:Ctx} {H:Xz} {M:Nat->Prop} {ev:Operand->AV} {σ:Operand->Value}
theorem Xsu (hT:X7a P T) {t:Nat} {ti:TI} {cs:List AV} {vs:Array Value} {off:Nat} {a:AV} (ht:T t=some ti) (hr:X0m c false (.agg cs) (.agg vs)) (hk:(AV.agg cs).Ok M)
  (h:eqT.partA ti cs off=some a) (w:World):(∃ v,(part t vs off).run P w=.ok v w/\X0m c false a v)/\a.Ok M:=by
 cases hr with
 |agg hl h1 hr =>
 cases hk with
 |agg hk =>
 unfold eqT.partA at h;split at h
 ·rename_i hagg;split at h
  ·rename_i hle;cases h
   refine⟨⟨.agg (vs.extract off (off+ti.size)),by simp only[part,Sem.run_bind,X6d w (hT t ti ht),hagg,Result.andThen_ok,if_true,X0w w (hT t ti ht),Sem.run_pure],.agg ?_ ?_ ?_⟩,.agg λa ha=>hk a (List.mem_of_mem_drop (List.mem_of_mem_take ha))⟩
   ·simp;omega
   ·intro v hv;obtain⟨i,hi,rfl⟩:=Array.getElem_of_mem hv;simp only[Array.getElem_extract];exact h1 _ (Array.getElem_mem _)
   ·intro i a v ha hv;rw[List.getElem?_take] at ha;split at ha
    ·rw[List.getElem?_drop] at ha;rw[Array.getElem?_extract] at hv;split at hv
     ·exact hr _ a v ha hv
     ·cases hv
    ·cases ha
  ·cases h
 ·rename_i hagg;have hagg':ti.kind.isAgg=false:=by simpa using hagg
  have hlt:off<vs.size:=by rw[<-hl];exact(List.getElem?_eq_some_iff.1 h).1
  refine⟨⟨vs[off],?_,hr off a _ h (Array.getElem?_eq_getElem hlt)⟩,hk a (List.mem_of_getElem? h)⟩;simp only[part,Sem.run_bind,X6d w (hT t ti ht),hagg',Result.andThen_ok,Bool.false_eq_true,if_false,Array.getElem?_eq_getElem hlt,Sem.run_pure]
end
end Go.Av


namespace Go.Av
variable [Gls]
section
variable {P:Program} {T:Ty} {c:Ctx} {H:Xz} {M:Nat->Prop} {ev:Operand->AV} {σ:Operand->Value}
theorem X3b (hE:∀ x,X0m c false (ev x) (σ x)) {lo hi:Option Operand} {b:Bool} {l h len cap:Nat} (hl:Bd ev lo 0 l) (hh:Bd ev hi len h) (hlh:l<=h) (hc:h<=cap) (w:World) :
  (Instr.sliceBounds b len cap (lo.map σ) (hi.map σ) none).run P w=.ok (l,h,cap) w:=by
 have hh':(match hi.map σ with
  |some v=>Instr.sliceBound v cap (if b=true then .sliceAcap else .sliceAlen)
  |none=>pure len).run P w=.ok h w:=by
  rcases hh.run hE with ⟨rfl,rfl⟩|⟨x,k,z,rfl,hx,h0,rfl⟩
  ·rfl
  ·simp only[Option.map_some,hx,Instr.sliceBound,asIntOf,Sem.run_bind,Sem.run_pure,Result.andThen_ok];rw[if_pos ⟨h0,by omega⟩];rfl
 have hl':(match lo.map σ with
  |some v=>Instr.sliceBound v h .sliceB
  |none=>pure 0).run P w=.ok l w:=by
  rcases hl.run hE with ⟨rfl,rfl⟩|⟨x,k,z,rfl,hx,h0,rfl⟩
  ·rfl
  ·simp only[Option.map_some,hx,Instr.sliceBound,asIntOf,Sem.run_bind,Sem.run_pure,Result.andThen_ok];rw[if_pos ⟨h0,by omega⟩];rfl
 unfold Instr.sliceBounds;simp only[Sem.run_bind,Sem.run_pure,Result.andThen_ok]
 cases hi with
 |none =>
  simp only[Option.map_none] at hh' ⊢;have:h=len:=by simpa using hh'.symm
  subst this
  cases lo with
  |none =>
   simp only[Option.map_none] at hl' ⊢;have:l=0:=by simpa using hl'.symm
   subst this;simp
  |some x =>
   simp only[Option.map_some] at hl' ⊢;simp[hl']
 |some x =>
  simp only[Option.map_some] at hh' ⊢
  cases lo with
  |none =>
   simp only[Option.map_none] at hl' ⊢;have:l=0:=by simpa using hl'.symm
   subst this;simp[hh']
  |some x =>
   simp only[Option.map_some] at hl' ⊢;simp[hh',hl']
theorem Xid (hE:∀ x,X0m c false (ev x) (σ x)) {hi mx:Operand} {b:Bool} {len cap:Nat} (hh:Bd ev (some hi) 0 0) (hm:Bd ev (some mx) 0 0) (w:World) :
  (Instr.sliceBounds b len cap none (some (σ hi)) (some (σ mx))).run P w=.ok (0,0,0) w:=by
 rcases hh.run hE with ⟨h,_⟩|⟨x,k,z,hx',hx,h0,hz⟩
 ·cases h
 cases hx'
 rcases hm.run hE with ⟨h,_⟩|⟨y,k',z',hy',hy,h0',hz'⟩
 ·cases h
 cases hy'
 have e1:z=0:=by omega
 have e2:z'=0:=by omega
 subst e1 e2;simp[Instr.sliceBounds,Instr.sliceBound,hx,hy,asIntOf]
theorem X8p (hE:∀ x,X0m c false (ev x) (σ x)) {lo:Option Operand} {hi mx:Operand} {b:Bool} {l h m len cap:Nat} (hl:Bd ev lo 0 l) (hh:Bd ev (some hi) 0 h) (hm:Bd ev (some mx) 0 m) (hlh:l<=h) (hhm:h<=m) (hc:m<=cap) (w:World) :
  (Instr.sliceBounds b len cap (lo.map σ) (some (σ hi)) (some (σ mx))).run P w=.ok (l,h,m) w:=by
 rcases hh.run hE with ⟨e,_⟩|⟨x,k,z,hx',hx,h0,rfl⟩
 ·cases e
 cases hx'
 rcases hm.run hE with ⟨e,_⟩|⟨y,k',z',hy',hy,h0',rfl⟩
 ·cases e
 cases hy'
 have e1:0<=z'/\z'<=(cap:Int):=⟨h0',by omega⟩;have e2:0<=z/\z<=(z'.toNat:Int):=⟨h0,by omega⟩;rcases hl.run hE with ⟨rfl,rfl⟩|⟨x,k2,z2,rfl,hx2,h02,rfl⟩
 ·simp only[Instr.sliceBounds,Instr.sliceBound,hx,hy,asIntOf,Option.map_none,Sem.run_bind,Sem.run_pure,Result.andThen_ok,if_pos e1,if_pos e2]
 ·have e3:0<=z2/\z2<=(z.toNat:Int):=⟨h02,by omega⟩;simp only[Instr.sliceBounds,Instr.sliceBound,hx,hy,hx2,asIntOf,Option.map_some,Sem.run_bind,Sem.run_pure,Result.andThen_ok,if_pos e1,if_pos e2,if_pos e3]
theorem X0m.tight {c:Ctx} {own:Bool} {es:List AV} {p:Option Addr} {cap:Nat} (hr:X0m c false (.list own es) (.slice p es.length cap)):X0m c false (.list own es) (.slice p es.length es.length):=by
 obtain⟨p',cap',heq,hcase⟩:=hr.list_inv;cases heq
 rcases hcase with rfl|⟨hcap,b,off,esz',rfl,hS,hsz',vf,hv⟩
 ·exact .listNil
 ·by_cases hne:es=[]
  ·subst hne;exact .listNil
  ·exact .list vf hne hS rfl (Nat.le_refl _) hsz' (λi e k a he ha=>(hv i e k a he ha).1) (λi e k a he ha=>(hv i e k a he ha).2.1) (λi e k a he ha=>(hv i e k a he ha).2.2)
theorem X0m.sub_list {c:Ctx} {own:Bool} {es:List AV} {p:Option Addr} {cap l h esz:Nat} (hr:X0m c false (.list own es) (.slice p es.length cap)) (hlh:l<=h) (hle:h<=es.length)
  (hsz:∀ e∈es,e.cells.length=esz) :
  X0m c false (.list own ((es.drop l).take (h - l))) (.slice (if cap=l then p else p.map (·.add (l*esz))) (h - l) (cap - l)):=by
 obtain⟨p',cap',heq,hcase⟩:=hr.list_inv;cases heq
 have hlen:((es.drop l).take (h - l)).length=h - l:=by simp;omega
 by_cases h0:h - l=0
 ·have:(es.drop l).take (h - l)=[]:=by rw[h0];simp
  rw[this,h0];exact .listNil
 ·rcases hcase with rfl|⟨hcap,b,off,esz',rfl,hS,hsz',vf,hv⟩
  ·simp at hle;omega
  ·have hesz:esz'=esz:=by
    have hlt:l<es.length:=by omega
    rw[<-hsz' l _ (List.getElem?_eq_getElem hlt),hsz _ (List.getElem_mem hlt)]
   subst hesz;rw[if_neg om,Option.map_some,Addr.add_lit];have hget:∀ (i:Nat) e,((es.drop l).take (h - l))[i]?=some e->es[l+i]?=some e:=by
    intro i e he;rw[List.getElem?_take] at he;split at he
    ·rwa [List.getElem?_drop] at he
    ·cases he
   refine .list (λi k=>vf (l+i) k) (λhn=>by rw[hn] at hlen;simp at hlen;omega) hS hlen.symm (by rw[hlen];omega) (λi e he=>hsz' _ e (hget i e he)) ?_ ?_ ?_
   ·intro i e k a he ha;obtain⟨h1,_⟩:=hv (l+i) e k a (hget i e he) ha;rw[<-h1];congr 2;rw[Nat.add_mul];omega
   ·intro i e k a he ha;exact(hv (l+i) e k a (hget i e he) ha).2.1
   ·intro i e k a he ha;exact(hv (l+i) e k a (hget i e he) ha).2.2
theorem X0m.nth_list {c:Ctx} {own:Bool} {es:List AV} {p:Option Addr} {n cap i:Nat} {e:AV} (hr:X0m c false (.list own es) (.slice p n cap)) (he:es[i]?=some e) :
  ∃ a,p=some a/\X0m c false (.elem own e 0) (.pointer (some (a.add (i*e.cells.length)))):=by
 obtain⟨p',cap',heq,hcase⟩:=hr.list_inv;cases heq
 rcases hcase with rfl|⟨hcap,b,off,esz',rfl,hS,hsz',vf,hv⟩
 ·simp at he
 ·refine⟨_,rfl,?_⟩;rw[Addr.add_lit,hsz' i e he];refine .elem (b:=b) (off:=off+i*esz') (k:=0) (λk=>vf i k) hS ?_ ?_ ?_
  ·intro k a ha;exact(hv i e k a he ha).1
  ·intro k a ha;exact(hv i e k a he ha).2.1
  ·intro k a ha;exact(hv i e k a he ha).2.2
end
end Go.Av


namespace Go.Av
variable [Gls]
section
variable {P:Program} {T:Ty} {c:Ctx} {H:Xz} {M:Nat->Prop} {ev:Operand->AV} {σ:Operand->Value}
theorem Xlv {w:World} {f:Field} {tf:TI} (ht:Xfq P f.type tf) (hz:tf.size≠0) (a:Addr):(fieldPlace a f).run P w=.ok (a.add f.offset) w:=by
 simp[fieldPlace,X0w w ht,hz]
theorem Xkc {w:World} {s f off ft b o:Nat} {fs:List (Nat×Nat)} {ti tf:TI} (hs:Xfq P s ti) (hk:ti.kind=.struct fs) (hf:fs[f]?=some (off,ft)) (ht:Xfq P ft tf) (hz:tf.size≠0) :
  (Instr.fieldAt s (.pointer (some ⟨b,o,none⟩)) f).run P w=.ok (.pointer (some ⟨b,o+off,none⟩)) w:=by
 obtain⟨gs,hu,hfs⟩:=Xam hs hk;rw[hfs,List.getElem?_map] at hf
 cases hg:gs.toList[f]? with
 |none=>simp[hg] at hf
 |some g =>
  simp only[hg,Option.map_some,Option.some.injEq,Prod.mk.injEq] at hf;obtain⟨rfl,rfl⟩:=hf;have hg':gs[f]?=some g:=by simpa using hg
  simp[Instr.fieldAt,run_underlying hu,hg',Instr.sureAddr,Xlv ht hz,Addr.add_lit]
theorem Xwe {w:World} {s f off ft:Nat} {fs:List (Nat×Nat)} {ti:TI} {vs:Array Value} (hs:Xfq P s ti) (hk:ti.kind=.struct fs) (hf:fs[f]?=some (off,ft)) {v:Value}
  (hp:(part ft vs off).run P w=.ok v w):(Instr.field s (.agg vs) f).run P w=.ok v w:=by
 obtain⟨gs,hu,hfs⟩:=Xam hs hk;rw[hfs,List.getElem?_map] at hf
 cases hg:gs.toList[f]? with
 |none=>simp[hg] at hf
 |some g =>
  simp only[hg,Option.map_some,Option.some.injEq,Prod.mk.injEq] at hf;obtain⟨rfl,rfl⟩:=hf;have hg':gs[f]?=some g:=by simpa using hg
  simp[Instr.field,run_underlying hu,hg',asAgg,hp]
theorem Xep {w:World} {t et:Nat} {ti te:TI} {a:Addr} {len cap:Nat} {k:IntKind} {i:Int} (ht:Xfq P t ti) (hk:ti.kind=.slice et) (hte:Xfq P et te) (h0:0<=i) (hlt:i<len) :
  (Instr.indexAt t (.slice (some a) len cap) (.int k i)).run P w=.ok (.pointer (some (a.add (i.toNat*te.size)))) w:=by
 have hu:=X1i ht hk;simp[Instr.indexAt,run_underlying hu,asIntOf,h0,hlt,X0w w hte]
theorem Xeq {w:World} {t n et:Nat} {ti te:TI} {a:Addr} {k:IntKind} {i:Int} (ht:Xfq P t ti) (hk:ti.kind=.array n et) (hte:Xfq P et te) (h0:0<=i) (hlt:i<n) :
  (Instr.indexAt t (.pointer (some a)) (.int k i)).run P w=.ok (.pointer (some (a.add (i.toNat*te.size)))) w:=by
 have hu:=X9r ht hk;simp[Instr.indexAt,run_underlying hu,asIntOf,Instr.sureAddr,h0,hlt,X0w w hte]
theorem X25 {w:World} {t et:Nat} {ti te:TI} {a:Option Addr} {len cap l h m:Nat} {lo hi mx:Option Value} (ht:Xfq P t ti) (hk:ti.kind=.slice et) (hte:Xfq P et te)
  (hb:(Instr.sliceBounds true len cap lo hi mx).run P w=.ok (l,h,m) w) :
  (Instr.sliceAt t (.slice a len cap) lo hi mx).run P w=.ok (.slice (if m=l then a else a.map (·.add (l*te.size))) (h - l) (m - l)) w:=by
 have hu:=X1i ht hk;simp[Instr.sliceAt,run_underlying hu,Instr.slice,hb,X0w w hte]
theorem Xkb {w:World} {t:Nat} {ti:TI} {s:ByteArray} {l h m:Nat} {lo hi:Option Value} (ht:Xfq P t ti) (hk:ti.kind=.string)
  (hb:(Instr.sliceBounds false s.size s.size lo hi none).run P w=.ok (l,h,m) w) :
  (Instr.sliceAt t (.string s) lo hi none).run P w=.ok (.string (s.extract l h)) w:=by
 have hu:=X84 ht hk;simp[Instr.sliceAt,run_underlying hu,Instr.slice,hb]
theorem X05y {w:World} {k k':IntKind} {a b:Int} (t:Nat) (x y:Operand) (h:0<=b) :
  ((do eqGuard .shl t x y (.int k a) (.int k' b);binOp .shl t (.int k a) (.int k' b):Sem Value)).run P w=.ok (.int k (k.wrap (a*2 ^ (min b.toNat k.bits)))) w:=by
 simp[eqGuard_at_int,binOp,Op.shift,show ¬ b<0 by omega]
theorem X05x {w:World} {k k':IntKind} {a b:Int} (t:Nat) (x y:Operand) (h:0<=b) :
  ((do eqGuard .shr t x y (.int k a) (.int k' b);binOp .shr t (.int k a) (.int k' b):Sem Value)).run P w=.ok (.int k (a.fdiv (2 ^ (min b.toNat k.bits)))) w:=by
 simp[eqGuard_at_int,binOp,Op.shift,show ¬ b<0 by omega]
theorem X060 {w:World} {k:IntKind} {a b:Int} (t:Nat) (x y:Operand) (h:b≠0) :
  ((do eqGuard .quo t x y (.int k a) (.int k b);binOp .quo t (.int k a) (.int k b):Sem Value)).run P w=.ok (.int k (k.wrap (a.tdiv b))) w:=by
 simp[eqGuard_at_int,binOp,Op.intDiv,h]
theorem X05z {w:World} {k:IntKind} {a b:Int} (t:Nat) (x y:Operand) (h:b≠0) :
  ((do eqGuard .rem t x y (.int k a) (.int k b);binOp .rem t (.int k a) (.int k b):Sem Value)).run P w=.ok (.int k (a.tmod b)) w:=by
 simp[eqGuard_at_int,binOp,Op.intDiv,h]
end
end Go.Av


namespace Go.Av
variable [Gls]
section
variable {P:Program} {T:Ty} {c:Ctx} {H:Xz} {M:Nat->Prop} {ev:Operand->AV} {σ:Operand->Value}
theorem Xru (hT:X7a P T) (w:World):∀ (l:List Field),(∀ f∈l,∃ tf,T f.type=some tf) ->
  (l.mapM (m:=Sem) λf=>do pure (f.offset,<-Go.sizeOf f.type)).run P w=.ok (l.map λf=>(f.offset,((T f.type).map (·.size)).getD 0)) w:=by
 intro l
 induction l with
 |nil=>intro _;rfl
 |cons f l ih =>
  intro h;obtain⟨tf,htf⟩:=h f (List.mem_cons_self ..);have:=ih λg hg=>h g (List.mem_cons_of_mem _ hg);simp only[List.mapM_cons,Sem.run_bind,X0w w (hT _ _ htf),Result.andThen_ok,Sem.run_pure,this,htf,List.map_cons,Option.map_some,Option.getD_some]
theorem X06b (hT:X7a P T) (hI:Inv c H M) (hE:∀ x,X0m c false (ev x) (σ x)) (hO:∀ x,(ev x).Ok M) {o:Oper} {a:AV} (h:Pu T ev H o.op a):PuOk P c M σ o a:=by
 have sc:∀ {x:Operand} {v:Value},ev x=.sc v->σ x=v:=λ{x v} hx=>by have:=hE x;rw[hx] at this;exact this.sc_inv
 obtain⟨dst,op,type,pos,after,guard⟩:=o;simp only at h;have both:∀ x,∃ v,σ x=v/\X0m c false (ev x) v/\(ev x).Ok M:=λx=>⟨_,rfl,hE x,hO x⟩
 cases h with
 |@move x=>exact⟨σ x,by simp[execOp],hE x,hO x⟩
 |@assign x=>exact⟨σ x,by simp[execOp],hE x,hO x⟩
 |@pick cc a b t v hc ha hb =>
  refine⟨if t then σ a else σ b,by simp[execOp,sc hc,asBool],?_⟩
  grind
 |@pickB cc a b t x y hc ha hb =>
  refine .sc ?_;cases t
  ·simp[execOp,sc hc,asBool,sc (hb rfl)]
  ·simp[execOp,sc hc,asBool,sc (ha rfl)]
 |@load t x ti e k a ht hd hl =>
  obtain⟨b,off,hx,hat⟩:=Xtp hI hd (hE x);obtain⟨hok,v,hr,hv⟩:=Xxf hat (hT t ti ht) hl;exact⟨v,by simp_all [execOp,Instr.loadAt,Instr.sureAddr],hv,hok⟩
 |@nilCheckPtr x o i k hx =>
  have h1:=hE x;have h2:=h1;rw[hx] at h2;exact⟨σ x,by simp[execOp,h2.ptr_inv],h1,hO x⟩
 |@nilCheckElem x own e k hx =>
  have h1:=hE x;have h2:=h1;rw[hx] at h2;obtain⟨b,off,h3,_⟩:=h2.elem_inv;exact⟨σ x,by simp[execOp,h3],h1,hO x⟩
 |@nilCheckFn x f caps hx =>
  have h1:=hE x;have h2:=h1;rw[hx] at h2;obtain⟨vs,h3,_⟩:=h2.fn_inv;exact⟨σ x,by simp[execOp,h3],h1,hO x⟩
 |@binInt op t x y yt k a b v hx hy h =>
  exact .sc (by have:=Xxx (P:=P) h t x y c.w;simp only[execOp,sc hx,sc hy];rw[Sem.run_bind,this];rfl)
 |@quo t x y yt k a b hx hy h =>
  exact .sc (by have:=X060 (P:=P) (w:=c.w) (k:=k) (a:=a) t x y h;simp only[execOp,sc hx,sc hy];rw[Sem.run_bind,this];rfl)
 |@rem t x y yt k a b hx hy h =>
  exact .sc (by have:=X05z (P:=P) (w:=c.w) (k:=k) (a:=a) t x y h;simp only[execOp,sc hx,sc hy];rw[Sem.run_bind,this];rfl)
 |@shl t x y yt k k' a b hx hy h =>
  exact .sc (by have:=X05y (P:=P) (w:=c.w) (k:=k) (k':=k') (a:=a) t x y h;simp only[execOp,sc hx,sc hy];rw[Sem.run_bind,this];rfl)
 |@shr t x y yt k k' a b hx hy h =>
  exact .sc (by have:=X05x (P:=P) (w:=c.w) (k:=k) (k':=k') (a:=a) t x y h;simp only[execOp,sc hx,sc hy];rw[Sem.run_bind,this];rfl)
 |@binStr op t x y yt a b v hx hy h =>
  exact .sc (by have:=Xw1 (P:=P) h t x y c.w;simp only[execOp,sc hx,sc hy];rw[Sem.run_bind,this];rfl)
 |@catStr t x y yt a b hx hy h =>
  exact .sc (by have:=Xz5 (P:=P) h t x y c.w;simp only[execOp,sc hx,sc hy];rw[Sem.run_bind,this];rfl)
 |@ifaceNil op t x yt u b ti hx hy ht hk h =>
  obtain⟨ms,hu⟩:=Xri (hT t ti ht) hk;exact .sc (by have:=X0bf (P:=P) h hu x c.w;simp only[execOp,sc hx,sc hy];rw[Sem.run_bind,this];rfl)
 |@ptrNil op t x y yt nl b ti e hx hy ht hk h =>
  have hp:∃ u:Option Addr,σ x=.pointer u/\u.isNone=nl:=by
   have hx':=hE x;generalize ev x=a at hx hx';unfold ptrA at hx;split at hx
   ·cases hx;exact⟨_,hx'.ptr_inv,rfl⟩
   ·cases hx;obtain⟨bb,off,h1,_⟩:=hx'.elem_inv;grind
   ·cases hx;exact⟨_,hx'.sc_inv,rfl⟩
   ·cases hx
  obtain⟨u,hu,hn⟩:=hp;subst hn;exact .sc (by have:=X0ai (P:=P) h (Xnq (hT t ti ht) hk) x y c.w;simp only[execOp,hu,sc hy];rw[Sem.run_bind,this];rfl)
 |@boolEq t x y yt a b ti hx hy ht hk =>
  exact .sc (by have:=Xz8 (Xgx (hT t ti ht) hk) a b x y c.w;simp only[execOp,sc hx,sc hy];rw[Sem.run_bind,this];rfl)
 |@boolNe t x y yt a b ti hx hy ht hk =>
  exact .sc (by have:=Xz7 (Xgx (hT t ti ht) hk) a b x y c.w;simp only[execOp,sc hx,sc hy];rw[Sem.run_bind,this];rfl)
 |@aggEq t x y yt xs ys r ti hx hy ht hok h =>
  have h1:=hE x;rw[hx] at h1;have h2:=hE y;rw[hy] at h2;have he:=X04d hT c.w 10000 t _ _ _ _ r h h1 h2;obtain⟨us,hu⟩:=h1.agg_inv;obtain⟨vs,hv⟩:=h2.agg_inv;rw[hu,hv] at he;refine .sc ?_;simp only[execOp,hu,hv,Sem.run_bind,run_eqGuard_agg c.w _ t x y us vs ((hT t ti ht).eq hok).2.1,Result.andThen_ok,run_eql_struct,he,Sem.run_pure]
 |@aggNe t x y yt xs ys r ti hx hy ht hok h =>
  have h1:=hE x;rw[hx] at h1;have h2:=hE y;rw[hy] at h2;have he:=X04d hT c.w 10000 t _ _ _ _ r h h1 h2;obtain⟨us,hu⟩:=h1.agg_inv;obtain⟨vs,hv⟩:=h2.agg_inv;rw[hu,hv] at he;refine .sc ?_;simp only[execOp,hu,hv,Sem.run_bind,run_eqGuard_agg c.w _ t x y us vs ((hT t ti ht).eq hok).2.1,Result.andThen_ok,run_neq_struct,he,Sem.run_pure]
 |@neg t x k n hx=>exact .sc (by simp[execOp,sc hx,Op.unary,Op.intArith])
 |@not t x b hx=>exact .sc (by simp[execOp,sc hx,Op.unary])
 |@conv src dst x k n k' ts td hx hs hd hk =>
  obtain⟨_,d,_,hu,_⟩:=(hT src ts hs).parts;exact .sc (by simp[execOp,sc hx,convert,run_underlying hu,run_underlying (Xk4 (hT dst td hd) hk),Conv.intToInt])
 |@convStr src dst x s ts td hx hs hd hk =>
  obtain⟨_,d,_,hu,_⟩:=(hT src ts hs).parts;exact .sc (by simp[execOp,sc hx,convert,run_underlying hu,run_underlying (X84 (hT dst td hd) hk)])
 |@fieldAddrPtr s x f o i k fs off ft ti tf hx hs hk hf ht hz =>
  have h1:=hE x;rw[hx] at h1;have ho:=hO x;rw[hx] at ho;have hr:=Xkc (P:=P) (w:=c.w) (b:=(c.ρ o).blk) (o:=i*(c.ρ o).esz+k) (hT s ti hs) hk hf (hT ft tf ht) hz;refine⟨_,by simp only[execOp,h1.ptr_inv,Sem.run_bind,hr,Result.andThen_ok,Sem.run_pure];rfl,?_,by cases ho with|ptr ho=>exact .ptr ho⟩;rw[Nat.add_assoc];exact .ptr
 |@fieldAddrElem s x f own e k fs off ft ti tf hx hs hk hf ht hz =>
  have h1:=hE x;rw[hx] at h1;obtain⟨b,o,h3,h4⟩:=h1.elem_inv;have hr:=Xkc (P:=P) (w:=c.w) (b:=b) (o:=o+k) (hT s ti hs) hk hf (hT ft tf ht) hz;refine⟨_,by simp only[execOp,h3,Sem.run_bind,hr,Result.andThen_ok,Sem.run_pure];rfl,?_,.elem⟩
  grind
 |@field s x f cs fs off ft ti tf a hx hs hk hf ht h =>
  have h1:=hE x;rw[hx] at h1;have ho:=hO x;rw[hx] at ho;obtain⟨us,hu⟩:=h1.agg_inv;rw[hu] at h1;obtain⟨⟨v,hv,hr⟩,hok⟩:=Xsu hT ht h1 ho h c.w;exact⟨v,by simp only[execOp,hu,Sem.run_bind,Xwe (hT s ti hs) hk hf hv,Result.andThen_ok,Sem.run_pure],hr,hok⟩
 |@indexList t x ix own es k i ti et te e hx hi h0 ht hk hte he hsz =>
  have h1:=hE x;rw[hx] at h1;obtain⟨p,cap,hp,hcase⟩:=h1.list_inv;rw[hp] at h1;obtain⟨a,rfl,hel⟩:=h1.nth_list he;have hlt:i<es.length:=by grind
  refine⟨_,by simp only[execOp,hp,sc hi,Sem.run_bind,Xep (hT t ti ht) hk (hT et te hte) h0 hlt,Result.andThen_ok,Sem.run_pure];rfl,?_,.elem⟩
  grind
 |@indexRef t x ix o off len k i ti et te y e hx hi h0 hlt ht hk hte hH he hsz =>
  have h1:=hE x;rw[hx] at h1;have ho:=hO x;rw[hx] at ho;obtain⟨hp,hle⟩:=h1.ref_inv;obtain⟨_,⟨⟨cur,hb,hs,hc⟩,_,_,_⟩,_⟩:=hI.obj o y hH;have hes:te.size=(c.ρ o).esz:=by grind
  refine⟨.pointer (some ⟨(c.ρ o).blk,(off+i.toNat)*(c.ρ o).esz+0,none⟩),?_,.ptr,by cases ho with|ref ho=>exact .ptr ho⟩;simp only[execOp,hp,sc hi,Sem.run_bind,Xep (hT t ti ht) hk (hT et te hte) h0 hlt,Result.andThen_ok,Sem.run_pure];rw[Addr.add_lit,hes,Nat.add_mul,Nat.add_zero]
 |@indexArr t x ix o j q k i ti n et te hx hi h0 hlt ht hk hte =>
  have h1:=hE x;rw[hx] at h1;have ho:=hO x;rw[hx] at ho;refine⟨.pointer (some ⟨(c.ρ o).blk,j*(c.ρ o).esz+(q+i.toNat*te.size),none⟩),?_,.ptr,by cases ho with|ptr ho=>exact .ptr ho⟩;simp only[execOp,h1.ptr_inv,sc hi,Sem.run_bind,Xeq (hT t ti ht) hk (hT et te hte) h0 hlt,Result.andThen_ok,Sem.run_pure];rw[Addr.add_lit,Nat.add_assoc]
 |@indexArrElem t x ix own e q k i ti n et te hx hi h0 hlt ht hk hte =>
  have h1:=hE x;rw[hx] at h1;obtain⟨b,o,h3,h4⟩:=h1.elem_inv;refine⟨.pointer (some ⟨b,o+(q+i.toNat*te.size),none⟩),?_,h4 _,.elem⟩;simp only[execOp,h3,sc hi,Sem.run_bind,Xeq (hT t ti ht) hk (hT et te hte) h0 hlt,Result.andThen_ok,Sem.run_pure];rw[Addr.add_lit,Nat.add_assoc]
 |@indexAgg t x ix cs k i ti n et te a hx hi h0 hlt ht hk hte h =>
  have h1:=hE x;rw[hx] at h1;have ho:=hO x;rw[hx] at ho;obtain⟨us,hu⟩:=h1.agg_inv;rw[hu] at h1;obtain⟨⟨v,hv,hr⟩,hok⟩:=Xsu hT hte h1 ho h c.w;refine⟨v,?_,hr,hok⟩;simp[execOp,hu,sc hi,Instr.index,asIntOf,run_underlying (X9r (hT t ti ht) hk),h0,hlt,X0w c.w (hT et te hte),hv]
 |@indexStr t x ix s k i ti b hx hi h0 ht hk h =>
  refine .sc ?_;simp[execOp,sc hx,sc hi,Instr.index,asIntOf,run_underlying (X84 (hT t ti ht) hk),h0,h]
 |@sliceList t x lo hi own es l h ti et te hx hl hh hlh hle ht hk hte hsz =>
  have h1:=hE x;rw[hx] at h1;obtain⟨p,cap,hp,hcase⟩:=h1.list_inv;rw[hp] at h1;have hcap:h<=cap:=by grind
  refine⟨_,by simp only[execOp,hp,Option.map_none,Sem.run_bind,X25 (hT t ti ht) hk (hT et te hte) (X3b hE hl hh hlh hcap c.w),Result.andThen_ok,Sem.run_pure];rfl,?_,.list⟩;exact h1.sub_list hlh hle hsz
 |@sliceRef t x lo hi o off len l h ti et te y hx hl hh hlh hle ht hk hte hH hsz =>
  have h1:=hE x;rw[hx] at h1;have ho:=hO x;rw[hx] at ho;obtain⟨hp,hle'⟩:=h1.ref_inv;obtain⟨_,⟨⟨cur,hb,hs,hc⟩,_,_,_⟩,_⟩:=hI.obj o y hH;obtain⟨e,he,hes⟩:=hsz;obtain⟨q,hq⟩:=List.getElem?_of_mem he;have hes':te.size=(c.ρ o).esz:=by grind
  refine⟨.slice (some ⟨(c.ρ o).blk,(off+l)*(c.ρ o).esz,none⟩) (h - l) ((c.ρ o).cap - (off+l)),?_,.ref om,by cases ho with|ref ho=>exact .ref ho⟩;simp only[execOp,hp,Option.map_none,Sem.run_bind,X25 (hT t ti ht) hk (hT et te hte) (X3b hE hl hh (Nat.le_of_lt hlh) (show h<=(c.ρ o).cap - off by omega) c.w),Result.andThen_ok,Sem.run_pure];rw[if_neg om,Option.map_some,Addr.add_lit,hes',Nat.add_mul,Nat.sub_sub]
 |@sliceRef0 t x lo hi o off len l ti et te hx hl hh hle ht hk hte =>
  have h1:=hE x;rw[hx] at h1;obtain⟨hp,hle'⟩:=h1.ref_inv;refine⟨_,by simp only[execOp,hp,Option.map_none,Sem.run_bind,X25 (hT t ti ht) hk (hT et te hte) (X3b hE hl hh (Nat.le_refl _) (show l<=(c.ρ o).cap - off by omega) c.w),Result.andThen_ok,Sem.run_pure];rfl,?_,.list⟩;rw[Nat.sub_self];exact .listNil
 |@sliceRefV t x lo hi o off len l h ti et te y hx hl hh hlh hz hH hle ht hk hte hes =>
  have h1:=hE x;rw[hx] at h1;have ho:=hO x;rw[hx] at ho;obtain⟨hp,hle'⟩:=h1.ref_inv;obtain⟨_,⟨_,hfits,_,hsame⟩,_⟩:=hI.obj o y hH;have hcap:h<=(c.ρ o).cap - off:=by
   grind
  have hes':te.size=(c.ρ o).esz:=by grind
  refine⟨.slice (some ⟨(c.ρ o).blk,(off+l)*(c.ρ o).esz,none⟩) (h - l) ((c.ρ o).cap - (off+l)),?_,.ref om,by cases ho with|ref ho=>exact .ref ho⟩;simp only[execOp,hp,Option.map_none,Sem.run_bind,X25 (hT t ti ht) hk (hT et te hte) (X3b hE hl hh hlh hcap c.w),Result.andThen_ok,Sem.run_pure];rcases hz with rfl|hz
  ·simp[Addr.add_lit]
  ·rw[if_neg om,Option.map_some,Addr.add_lit,hes',Nat.add_mul,Nat.sub_sub]
 |@sliceRefZ t x lo hi o off len l h ti et te hx hl hh hz hle ht hk hte =>
  have h1:=hE x;rw[hx] at h1;have ho:=hO x;rw[hx] at ho;obtain⟨hp,hle'⟩:=h1.ref_inv;refine⟨.slice (some ⟨(c.ρ o).blk,(off+l)*(c.ρ o).esz,none⟩) (h - l) ((c.ρ o).cap - (off+l)),?_,.ref om,by cases ho with|ref ho=>exact .ref ho⟩;simp only[execOp,hp,Option.map_none,Sem.run_bind,X25 (hT t ti ht) hk (hT et te hte) (X3b hE hl hh (show l<=h by omega) (show h<=(c.ρ o).cap - off by omega) c.w),Result.andThen_ok,Sem.run_pure];subst hz;simp[Addr.add_lit]
 |@sliceNils t x lo hi ti et te hx hl hh ht hk hte =>
  have h1:=hE x;rw[hx] at h1;obtain⟨p,hp⟩:=h1.nils_inv;refine⟨_,by simp only[execOp,hp,Option.map_none,Sem.run_bind,X25 (hT t ti ht) hk (hT et te hte) (X3b hE hl hh (Nat.le_refl _) (Nat.le_refl _) c.w),Result.andThen_ok,Sem.run_pure];rfl,?_,.nils⟩;exact .nils
 |@sliceClone t x hi mx ti et te n hx hx' hh hm ht hk hte =>
  obtain⟨p,cap,hp⟩:=(hE x).len_inv hx hx';refine⟨_,by simp only[execOp,hp,Option.map_none,Option.map_some,Sem.run_bind,X25 (hT t ti ht) hk (hT et te hte) (Xid hE hh hm c.w),Result.andThen_ok,Sem.run_pure];rfl,?_,.nils⟩;exact .nils
 |@sliceListM t x lo hi mx own es l h ti et te hx hl hh hm hlh hle ht hk hte hsz =>
  have h1:=hE x;rw[hx] at h1;obtain⟨p,cap,hp,hcase⟩:=h1.list_inv;rw[hp] at h1;by_cases hne:es=[]
  ·subst hne;have e0:l=0/\h=0:=by grind
   obtain⟨rfl,rfl⟩:=e0;refine⟨_,by simp only[execOp,hp,Option.map_some,Sem.run_bind,X25 (hT t ti ht) hk (hT et te hte) (X8p hE hl hh hm (Nat.le_refl _) (Nat.zero_le _) (Nat.zero_le _) c.w),Result.andThen_ok,Sem.run_pure];rfl,?_,.list⟩;exact .listNil
  ·have hcap:es.length<=cap:=by grind
   refine⟨_,by simp only[execOp,hp,Option.map_some,Sem.run_bind,X25 (hT t ti ht) hk (hT et te hte) (X8p hE hl hh hm hlh hle hcap c.w),Result.andThen_ok,Sem.run_pure];rfl,?_,.list⟩;exact h1.tight.sub_list hlh hle hsz
 |@capNils x t ti et hx ht hk =>
  obtain⟨p,hp⟩:=(show X0m c false .nils (σ x) from by grind).nils_inv;refine .sc ?_;simp[execOp,resolve,invoke,builtin,Builtin.cap_,hp,run_underlying (X1i (hT t ti ht) hk),goInt]
 |@sliceStr t x lo hi s l h ti hx hl hh hlh hle ht hk =>
  refine .sc ?_;simp only[execOp,sc hx,Option.map_none,Sem.run_bind,Xkb (hT t ti ht) hk (X3b hE hl hh hlh hle c.w),Result.andThen_ok,Sem.run_pure]
 |@extract x i cs a hx h =>
  have h1:=hE x;rw[hx] at h1;have ho:=hO x;rw[hx] at ho;obtain⟨vs,hv,hlen,hrel⟩:=h1.tup_inv;have hlt:i<vs.size:=by grind
  refine⟨vs[i],?_,hrel i a _ h (Array.getElem?_eq_getElem hlt),by cases ho with|tup ho=>grind⟩
  simp_all [execOp,Instr.extract,Array.getElem?_eq_getElem]
 |@makeFuncM f x =>
  exact⟨.func (.func f) #[σ x] #[],by simp[execOp,Instr.makeFunc],.mv (hE x),.mv (hO x)⟩
 |@makeFunc f caps =>
  refine⟨.func (.func f) #[] (caps.map σ),by simp[execOp,Instr.makeFunc],.fn (λh=>by cases h) (by simp) ?_,.fn ?_⟩
  ·intro i a v ha hv;rw[List.getElem?_map] at ha;rw[Array.getElem?_map] at hv
   cases hc:caps[i]? with
   |none=>simp[hc] at hv
   |some x =>
    have hc':caps.toList[i]?=some x:=by simpa using hc
    simp only[hc',Option.map_some,Option.some.injEq] at ha;simp only[hc,Option.map_some,Option.some.injEq] at hv;subst ha hv;exact hE x
  ·intro a ha;obtain⟨x,_,rfl⟩:=List.mem_map.1 ha;exact hO x
 |@lenSlice x t ti et n h ht hk hs =>
  obtain⟨p,cap,hp⟩:=(hE x).len_inv h hs;refine .sc ?_;simp[execOp,resolve,invoke,builtin,Builtin.len_,hp,run_underlying (X1i (hT t ti ht) hk),goInt]
 |@lenStr x t ti s h ht hk =>
  refine .sc ?_;simp[execOp,resolve,invoke,builtin,Builtin.len_,sc h,run_underlying (X84 (hT t ti ht) hk),goInt]
 |@lenArr x t ti n et ht hk =>
  refine .sc ?_;simp[execOp,resolve,invoke,builtin,Builtin.len_,run_underlying (X9r (hT t ti ht) hk),goInt]
 |@min2 x y ts k a b hx hy =>
  refine .sc ?_
  simp_all [execOp,resolve,invoke,builtin,Builtin.min_,Builtin.min2]
 |@max2 x y ts k a b hx hy =>
  refine .sc ?_
  simp_all [execOp,resolve,invoke,builtin,Builtin.max_,Builtin.max2]
 |@buildS t ps ti fs cs r ht hk hz hfs h =>
  obtain⟨gs,hu,hg⟩:=Xam (hT t ti ht) hk;have hzr:=X7r c false ti.zero;have hzo:=X9i M ti.zero;rw[hz] at hzr hzo;obtain⟨zs,hzs⟩:=hzr.agg_inv;rw[hzs] at hzr;obtain⟨us,hf,hcr⟩:=Xy9 _ ev σ (λx=>⟨hE x,hO x⟩) ps.toList cs r zs (.of_agg hzr hzo) h;have hpl:(gs.mapM (m:=Sem) λf=>do pure (f.offset,<-Go.sizeOf f.type)).run P c.w=.ok (gs.map λf=>(f.offset,((T f.type).map (·.size)).getD 0)) c.w:=by
   rw[Array.mapM_eq_mapM_toList,Sem.run_map,Xru hT c.w gs.toList (λf hf=>hfs (f.offset,f.type) (by grind))];simp only[Result.andThen_ok];congr 1
   grind
  have hplace:(λ(i:Nat)=>(fs[i]?).map λ(p:Nat×Nat)=>(p.1,((T p.2).map (·.size)).getD 0))=λ(i:Nat)=>(gs.map λf=>(f.offset,((T f.type).map (·.size)).getD 0))[i]?:=by
   grind
  rw[hplace] at hf;refine⟨.agg us,?_,hcr.agg⟩;have hz':=X9u c.w (hT t ti ht)
  simp_all [execOp,Instr.build,Sem.run_bind,Result.andThen_ok,Value.cells,run_underlying,Sem.run_pure]
 |@buildA t ps ti n et te cs r ht hk hz hte h =>
  have hu:=X9r (hT t ti ht) hk;have hzr:=X7r c false ti.zero;have hzo:=X9i M ti.zero;rw[hz] at hzr hzo;obtain⟨zs,hzs⟩:=hzr.agg_inv;rw[hzs] at hzr;obtain⟨us,hf,hcr⟩:=Xy9 _ ev σ (λx=>⟨hE x,hO x⟩) ps.toList cs r zs (.of_agg hzr hzo) h;refine⟨.agg us,?_,hcr.agg⟩;have hz':=X9u c.w (hT t ti ht);rw[hzs] at hz';have hps:(ps.map λ(p:Nat×Operand)=>(p.1,σ p.2)).toList=ps.toList.map λp=>(p.1,σ p.2):=by simp
  simp only[execOp,Instr.build,Sem.run_bind,hz',Result.andThen_ok,Value.cells,run_underlying hu,X0w c.w (hT et te hte),hps,hf,Sem.run_pure]
end
end Go.Av


namespace Go.Av
variable [Gls]
def upd {α:Type} (f:Nat->α) (i:Nat) (v:α):Nat->α:=λj=>bif Nat.beq j i then v else f j
theorem Xk {α:Type} (f:Nat->α) (i:Nat) (v:α):upd f i v i=v:=by simp[upd]
theorem Xm {α:Type} (f:Nat->α) {i j:Nat} (v:α) (h:j≠i):upd f i v j=f j:=by
 have:Nat.beq j i=false:=by rw[<-Bool.not_eq_true,Nat.beq_eq];exact h
 simp[upd,this]
theorem Inv.addBlock {c:Ctx} {H:Xz} {M:Nat->Prop} (hI:Inv c H M) {id:Nat} (hid:¬ M id) {w':World} {cur:Array Value} {ety cap esz:Nat}
  (hw:w'.heap=c.w.heap.push (.cells cur ety)) (hos:w'.os=c.w.os) (htape:w'.tape=c.w.tape) (hout:w'.output=c.w.output/\dr c.w<=dr w') {x:Obj}
  (hsz:cur.size=cap*esz) (hpos:0<esz) (hesz:x.esz=esz) (hfits:x.es.length<=cap)
  (hel:∀ (i:Nat) e,x.es[i]?=some e->e.cells.length=esz/\∀ (k:Nat) a,e.cells[k]?=some a->a.Ok M/\∃ v,cur[i*esz+k]?=some v/\X0m c false a v/\v.oneCell'=true) :
  c.Le M ⟨w',upd c.ρ id ⟨c.w.heap.size,cap,esz,ety⟩,c.Sa,c.So,c.B⟩/\Inv ⟨w',upd c.ρ id ⟨c.w.heap.size,cap,esz,ety⟩,c.Sa,c.So,c.B⟩ (upd H id (some x)) (λo=>M o\/o=id)/\Fr c H w':=by
 have hold:∀ b,b<c.w.heap.size->w'.heap[b]?=c.w.heap[b]?:=by
  intro b hb;rw[hw,Array.getElem?_push,if_neg om]
 have hnew:w'.heap[c.w.heap.size]?=some (.cells cur ety (0,0)):=by rw[hw];simp
 have hle:c.Le M ⟨w',upd c.ρ id ⟨c.w.heap.size,cap,esz,ety⟩,c.Sa,c.So,c.B⟩ :=
  ⟨λo ho=>Xm _ _ (λe=>hid (e▸ho)),λb hb=>hb,λb hb=>hb,λb hb=>hold b (hI.lt b hb),rfl⟩
 have hρ:∀ o,M o->upd c.ρ id ⟨c.w.heap.size,cap,esz,ety⟩ o=c.ρ o:=λo ho=>Xm _ _ (λe=>hid (e▸ho));have hblk:∀ o y,H o=some y->(c.ρ o).blk<c.w.heap.size:=by
  intro o y hy;obtain⟨_,⟨⟨cur',hb,_⟩,_,_,_⟩,_⟩:=hI.obj o y hy;exact(Array.getElem?_eq_some_iff.1 hb).1
 have hM:∀ o y,upd H id (some x) o=some y->(o=id/\y=x)\/(o≠id/\H o=some y):=by
  intro o y hy;by_cases ho:o=id
  ·subst ho;rw[Xk] at hy;cases hy;exact .inl ⟨rfl,rfl⟩
  ·rw[Xm _ _ ho] at hy;exact .inr ⟨ho,hy⟩
 refine⟨hle,⟨?_,?_,?_,?_,by have:=hI.base;simp only[hw,Array.size_push];omega,hI.own,?_,hI.glob.mono hle⟩,⟨hos,htape,hout,by rw[hw];simp,λb hb _=>hold b hb⟩⟩
 ·intro o y hy;rcases hM o y hy with ⟨rfl,rfl⟩|⟨ho,hy⟩
  ·refine⟨.inr rfl,⟨⟨cur,?_,?_,?_⟩,?_,?_,?_⟩,?_⟩
   ·simp only[Xk];exact hnew
   ·simp only[Xk];exact hsz
   ·simp only[Xk];intro i e he;obtain⟨h1,h2⟩:=hel i e he;exact⟨h1,λk a ha=>by obtain⟨hok,v,hv,hr,h3⟩:=h2 k a ha;exact⟨v,hv,hr.mono hle (.inr hok),h3⟩⟩
   ·simp only[Xk];exact hfits
   ·simp only[Xk];exact hpos
   ·simp only[Xk];exact hesz
   ·intro e he a ha;obtain⟨i,hi⟩:=List.getElem?_of_mem he;obtain⟨k,hk⟩:=List.getElem?_of_mem ha;obtain⟨hok,_⟩:=(hel i e hi).2 k a hk;exact hok.mono (λo ho=>.inl ho)
  ·obtain⟨hm,⟨⟨cur',hb,hs,hc⟩,hf,hp,hse⟩,hok⟩:=hI.obj o y hy;refine⟨.inl hm,⟨⟨cur',?_,?_,?_⟩,?_,?_,?_⟩,λe he a ha=>(hok e he a ha).mono (λo ho=>.inl ho)⟩
   ·simp only[hρ o hm];rw[hold _ (hblk o y hy)];exact hb
   ·simp only[hρ o hm];exact hs
   ·simp only[hρ o hm];intro i e he;obtain⟨h1,h2⟩:=hc i e he;exact⟨h1,λk a ha=>by obtain⟨v,hv,hr,h3⟩:=h2 k a ha;exact⟨v,hv,hr.mono hle (.inr (hok e (List.mem_of_getElem? he) a (List.mem_of_getElem? ha))),h3⟩⟩
   ·simp only[hρ o hm];exact hf
   ·simp only[hρ o hm];exact hp
   ·simp only[hρ o hm];exact hse
 ·intro o o' y y' hy hy' hne hb;rcases hM o y hy with ⟨rfl,rfl⟩|⟨ho,hyo⟩
  ·rcases hM o' y' hy' with ⟨rfl,rfl⟩|⟨ho',hy'⟩
   ·exact absurd rfl hne
   ·simp only[Xk,hρ o' (hI.obj o' y' hy').1] at hb;have:=hblk o' y' hy';omega
  ·rcases hM o' y' hy' with ⟨ho',hyx⟩|⟨ho',hy'⟩
   ·subst ho';simp only[Xk,hρ o (hI.obj o y hyo).1] at hb;have:=hblk o y hyo;omega
   ·simp only[hρ o (hI.obj o y hyo).1,hρ o' (hI.obj o' y' hy').1] at hb;exact hI.sep o o' y y' hyo hy' hne hb
 ·intro o y hy;rcases hM o y hy with ⟨rfl,rfl⟩|⟨ho,hy⟩
  ·simp only[Xk];exact⟨λh=>Nat.lt_irrefl _ (hI.lt _ (.inl h)),λh=>Nat.lt_irrefl _ (hI.lt _ (.inr h))⟩
  ·simp only[hρ o (hI.obj o y hy).1];exact hI.stab o y hy
 ·intro b hb;have:=hI.lt b hb;simp only[hw,Array.size_push];omega
 ·intro o y hy;rcases hM o y hy with ⟨rfl,rfl⟩|⟨ho,hy⟩
  ·simp only[Xk];exact hI.base
  ·simp only[hρ o (hI.obj o y hy).1];exact hI.low o y hy
end Go.Av


namespace Go.Av
variable [Gls]
inductive Xnb (H:Xz):AV->List AV->Prop
 |list {own es}:Xnb H (.list own es) es
 |nils:Xnb H .nils []
 |ref {o off len x} (hH:H o=some x) (hle:off+len<=x.es.length):Xnb H (.ref o off len) ((x.es.drop off).take len)
section
variable {c:Ctx} {H:Xz} {M:Nat->Prop}
theorem Xnt {a:AV} {xs:List AV} {v:Value} (h:Xnb H a xs) (hv:X0m c false a v):∃ p cap,v=.slice p xs.length cap:=by
 cases h with
 |list=>obtain⟨p,cap,rfl,_⟩:=hv.list_inv;exact⟨_,_,rfl⟩
 |nils=>obtain⟨p,rfl⟩:=hv.nils_inv;exact⟨_,_,rfl⟩
 |@ref o off len x hH hle =>
  obtain⟨rfl,_⟩:=hv.ref_inv;have:((x.es.drop off).take len).length=len:=by simp;omega
  rw[this];exact⟨_,_,rfl⟩
theorem Xpu (hI:Inv c H M) {a:AV} {xs:List AV} {v:Value} (h:Xnb H a xs) (hv:X0m c false a v) (hne:xs≠[]) :
  ∃ b off cap esz,v=.slice (some ⟨b,off,none⟩) xs.length cap/\∀ (i:Nat) e,xs[i]?=some e->e.cells.length=esz/\EAt c M e b (off+i*esz):=by
 cases h with
 |@list own es =>
  obtain⟨p,cap,rfl,hcase⟩:=hv.list_inv;rcases hcase with rfl|⟨hcap,b,off,esz,rfl,hS,hsz,vf,hx⟩
  ·exact absurd rfl hne
  ·exact⟨b,off,cap,esz,rfl,λi e he=>⟨hsz i e he,λk a ha=>by obtain⟨h1,h2,h3⟩:=hx i e k a he ha;exact⟨h3.okDeep,_,h1,h3.shallow,h2⟩⟩⟩
 |nils=>exact absurd rfl hne
 |@ref o off len x hH hle =>
  obtain⟨rfl,_⟩:=hv.ref_inv;have hlen:((x.es.drop off).take len).length=len:=by simp;omega
  obtain⟨hM,⟨⟨cur,hb,hsz,hc⟩,_,_,_⟩,hok⟩:=hI.obj o x hH;refine⟨_,_,_,(c.ρ o).esz,by rw[hlen],λi e he=>?_⟩;have he':x.es[off+i]?=some e:=by
   rw[List.getElem?_take] at he;split at he
   ·rwa [List.getElem?_drop] at he
   ·cases he
  obtain⟨h1,h2⟩:=hc _ e he';refine⟨h1,λk a ha=>?_⟩;obtain⟨v,h3,h4,h5⟩:=h2 k a ha;refine⟨hok e (List.mem_of_getElem? he') a (List.mem_of_getElem? ha),v,?_,h4,h5⟩;rw[cell_of_row _ _ _ _ _ _ hb,<-Nat.add_mul];exact h3
theorem Xla {xs:List AV} {b off esz:Nat} (hpos:0<esz) (h:∀ (i:Nat) e,xs[i]?=some e->e.cells.length=esz/\EAt c M e b (off+i*esz)) :
  ∃ news:List Value,news.length=xs.length*esz/\(∀ (j:Nat) v,news[j]?=some v->c.w.cell? ((⟨b,off,none⟩:Addr).add j)=some v)/\(∀ v∈news,v.oneCell'=true) /\
   ∀ (i:Nat) e (k:Nat) a,xs[i]?=some e->e.cells[k]?=some a->a.Ok M/\∃ v,news[i*esz+k]?=some v/\X0m c false a v/\v.oneCell'=true:=by
 have cell:∀ j,j<xs.length*esz->∃ v,c.w.cell? ⟨b,off+j,none⟩=some v/\v.oneCell'=true:=by
  intro j hj;have hi:j / esz<xs.length:=(Nat.div_lt_iff_lt_mul hpos).2 hj;obtain⟨h1,h2⟩:=h (j / esz) _ (List.getElem?_eq_getElem hi);have hk:j % esz<(xs[j / esz]).cells.length:=by rw[h1];exact Nat.mod_lt _ hpos
  obtain⟨_,v,h3,_,h5⟩:=h2 (j % esz) _ (List.getElem?_eq_getElem hk);refine⟨v,?_,h5⟩;rw[<-h3];congr 2;have:=Nat.div_add_mod j esz;rw[Nat.mul_comm] at this;omega
 refine⟨(List.range (xs.length*esz)).map λj=>(c.w.cell? ⟨b,off+j,none⟩).getD undef,by simp,?_,?_,?_⟩
 ·intro j v hv;rw[List.getElem?_map] at hv;by_cases hj:j<xs.length*esz
  ·obtain⟨u,hu,_⟩:=cell j hj;simp[hj,hu] at hv;rw[Addr.add_lit,hu,hv]
  ·simp[hj] at hv
 ·intro v hv;simp only[List.mem_map,List.mem_range] at hv;obtain⟨j,hj,rfl⟩:=hv;obtain⟨u,hu,h1⟩:=cell j hj;simpa[hu] using h1
 ·intro i e k a he ha;obtain⟨h1,h2⟩:=h i e he;obtain⟨hok,v,h3,h4,h5⟩:=h2 k a ha;have hi:i<xs.length:=(List.getElem?_eq_some_iff.1 he).1;have hk:k<esz:=by rw[<-h1];exact(List.getElem?_eq_some_iff.1 ha).1
  have hlt:i*esz+k<xs.length*esz:=by
   have:(i+1)*esz<=xs.length*esz:=Nat.mul_le_mul_right _ hi;rw[Nat.add_mul] at this;omega
  refine⟨hok,v,?_,h4,h5⟩;rw[List.getElem?_map];simp only[List.getElem?_range hlt,Option.map_some];rw[<-Nat.add_assoc,h3];rfl
end
end Go.Av


namespace Go.Av
variable [Gls]
inductive Eff where
 |none
 |new (x:Obj)
 |app (old:Nat) (x:Obj)
def Obj.mark (y:Obj):Obj:={ y with spent:=true,solo:=false }
def Eff.apply (id:Nat) (H:Xz):Eff->Xz
 |.none=>H
 |.new x=>upd H id (some x)
 |.app old x=>upd (upd H old ((H old).map Obj.mark)) id (some { x with solo:=false })
def Xbz (size:Nat):List AV->List (Nat×AV)->Option (List AV)
 |es,[]=>some es
 |es,(i,v)::r=>if decide (i<es.length)&&v.whole&&v.cells.length==size then Xbz size (es.set i v) r else none
inductive Mk (T:Ty) (ev:Operand->AV) (H:Xz) (id:Nat):Op->AV->Eff->Prop
 |box {elem x} (hw:(ev x).whole=true) (hp:(ev x).cells≠[]):Mk T ev H id (.box elem x) (.ptr id 0 0) (.new { es:=[ev x],esz:=(ev x).cells.length })
 |alloc {elem ti} (ht:T elem=some ti) (hp:ti.size≠0):Mk T ev H id (.alloc elem) (.ptr id 0 0) (.new { es:=[X1m ti.zero],esz:=ti.size })
 |slice0 {t ti et te} (ht:T t=some ti) (hk:ti.kind=.slice et) (hte:T et=some te):Mk T ev H id (.buildSlice t 0 #[]) .nils .none
 |buildSlice {t len ps ti et te es} (ht:T t=some ti) (hk:ti.kind=.slice et) (hte:T et=some te) (hlen:len≠0) (hpos:te.size≠0) (hb:len*te.size<=2 ^ 24)
   (h:Xbz te.size (List.replicate len (X1m te.zero)) (ps.toList.map λp=>(p.1,ev p.2))=some es) :
   Mk T ev H id (.buildSlice t len ps) (.ref id 0 len) (.new { es:=es,esz:=te.size })
 |make0 {t l cc k k' ti et te} (hl:ev l=.sc (.int k 0)) (hc:ev cc=.sc (.int k' 0)) (ht:T t=some ti) (hk:ti.kind=.slice et) (hte:T et=some te) :
   Mk T ev H id (.makeSlice t l cc) .nils .none
 |make {t l cc k k' n m ti et te} (hl:ev l=.sc (.int k n)) (hc:ev cc=.sc (.int k' m)) (h0:0<=n) (hnm:n<=m) (hm:0<m) (ht:T t=some ti) (hk:ti.kind=.slice et)
   (hte:T et=some te) (hpos:te.size≠0) (hb:te.bytes*m<=2 ^ 48) (hb':m<2 ^ 62) :
   Mk T ev H id (.makeSlice t l cc) (.ref id 0 n.toNat) (.new { es:=List.replicate n.toNat (X1m te.zero),esz:=te.size })
 |append0 {s x t ti et te n} (hs:Xq3 (ev s)=some n) (hs':∀ u,ev s≠.sc (.string u)) (hx:Xnb H (ev x) []) (ht:T t=some ti) (hk:ti.kind=.slice et) (hte:T et=some te) :
   Mk T ev H id (.call { callee:=.builtin .append,args:=#[s,x],argTypes:=#[t,t] }) (ev s) .none
 |appendNil {s x t ti et te xs} (hs:ev s=.nils) (hx:Xnb H (ev x) xs) (hne:xs≠[]) (ht:T t=some ti) (hk:ti.kind=.slice et) (hte:T et=some te)
   (hsz:∀ e∈xs,e.cells.length=te.size) (hpos:te.size≠0) (hlen:xs.length<=maxLen) (hb:xs.length*te.bytes<=140737488355328) :
   Mk T ev H id (.call { callee:=.builtin .append,args:=#[s,x],argTypes:=#[t,t] }) (.ref id 0 xs.length) (.new { es:=xs,esz:=te.size })
 |append {s x t ti et te xs o n y} (hs:ev s=.ref o 0 n) (hH:H o=some y) (hn:y.es.length=n) (hsp:y.spent=false) (hes:y.esz=te.size)
   (hx:Xnb H (ev x) xs) (hne:xs≠[]) (ht:T t=some ti) (hk:ti.kind=.slice et) (hte:T et=some te)
   (hsz:∀ e∈xs,e.cells.length=te.size) (hlen:n+xs.length<=maxLen) (hb:(n+xs.length)*te.bytes<=140737488355328) :
   Mk T ev H id (.call { callee:=.builtin .append,args:=#[s,x],argTypes:=#[t,t] }) (.ref id 0 (n+xs.length)) (.app o { es:=y.es++xs,esz:=te.size })
 |appendZeros {s x t tn ti tin et te k kn n} (hs:ev s=.nils) (hx:ev x=.sc (.int k n)) (h0:0<n) (htn:T tn=some tin) (hkn:tin.kind=.int kn) (ht:T t=some ti) (hk:ti.kind=.slice et) (hte:T et=some te)
   (hpos:te.size≠0) (hlen:n.toNat<=maxLen) (hb:n.toNat*te.bytes<=140737488355328) :
   Mk T ev H id (.call { callee:=.builtin .append,args:=#[s,x],argTypes:=#[t,tn] }) (.ref id 0 n.toNat) (.new { es:=List.replicate n.toNat (X1m te.zero),esz:=te.size })
 |appendFull {s x g t ti et te xs o n y} (hs:ev s=.ref o 0 n) (hg:ev g=.mref o n) (hH:H o=some y) (hn:y.es.length=n) (hes:y.esz=te.size)
   (hx:Xnb H (ev x) xs) (hne:xs≠[]) (ht:T t=some ti) (hk:ti.kind=.slice et) (hte:T et=some te)
   (hsz:∀ e∈xs,e.cells.length=te.size) (hlen:n+xs.length<=maxLen) (hb:(n+xs.length)*te.bytes<=140737488355328) :
   Mk T ev H id (.call { callee:=.builtin .append,args:=#[s,x],argTypes:=#[t,t] }) (.ref id 0 (n+xs.length)) (.new { es:=y.es++xs,esz:=te.size })
section
variable {c:Ctx} {H:Xz} {M:Nat->Prop}
structure Xjm (c:Ctx) (M:Nat->Prop) (esz:Nat) (es:List AV) (vs:Array Value):Prop where
 size:vs.size=es.length*esz
 rel:∀ (i:Nat) e,es[i]?=some e->e.cells.length=esz/\∀ (k:Nat) a,e.cells[k]?=some a->a.Ok M/\∃ v,vs[i*esz+k]?=some v/\X0m c false a v/\v.oneCell'=true
theorem Xuv {esz:Nat} (hpos:0<esz) (ev:Operand->AV) (σ:Operand->Value) (hE:∀ x,X0m c false (ev x) (σ x)) (hO:∀ x,(ev x).Ok M) :
  ∀ (ps:List (Nat×Operand)) (es r:List AV) (vs:Array Value),Xjm c M esz es vs->Xbz esz es (ps.map λp=>(p.1,ev p.2))=some r ->
   ∃ us,Instr.fill (λi=>some (i*esz,esz)) vs (ps.map λp=>(p.1,σ p.2))=some us/\Xjm c M esz r us/\r.length=es.length:=by
 intro ps
 induction ps with
 |nil=>intro es r vs hr h;simp[Xbz] at h;subst h;exact⟨vs,rfl,hr,rfl⟩
 |cons p ps ih =>
  intro es r vs hr h;simp only[List.map_cons,Xbz] at h;simp only[List.map_cons,Instr.fill];split at h
  ·rename_i hc;simp only[Bool.and_eq_true,beq_iff_eq,decide_eq_true_eq] at hc;obtain⟨⟨hi,hw⟩,hs⟩:=hc;have hcr:=Xbq (hE p.2) (hO p.2) hw;have h1:=hcr.len;have h2:=hr.size;have h3:(p.1+1)*esz<=es.length*esz:=Nat.mul_le_mul_right _ hi;rw[Nat.add_mul] at h3;rw[if_neg (by grind)];have hfold:=Xqi (σ p.2).cells (p.1*esz) vs om;have hsz:∀ (l:List (Value×Nat)) (cs:Array Value),(l.foldl (λcs (x:Value×Nat)=>cs.setIfInBounds (p.1*esz+x.2) x.1) cs).size=cs.size:=by
    intro l
    induction l with
    |nil=>intro cs;rfl
    |cons a l ih=>grind
   have hnew:Xjm c M esz (es.set p.1 (ev p.2)) ((σ p.2).cells.zipIdx.foldl (λcs (x:Value×Nat)=>cs.setIfInBounds (p.1*esz+x.2) x.1) vs):=by
    refine⟨?_,λi e he=>?_⟩
    ·rw[<-Array.foldl_toList,hsz,List.length_set];exact h2
    ·by_cases hip:i=p.1
     ·subst hip;rw[List.getElem?_set_self hi] at he;cases he
      refine⟨hs,λk a ha=>?_⟩;have hk:k<(ev p.2).cells.length:=(List.getElem?_eq_some_iff.1 ha).1;have hk':k<(σ p.2).cells.size:=by omega
      obtain⟨r1,r2,r3⟩:=hcr.rel k a _ ha (Array.getElem?_eq_getElem hk')
      grind
     ·rw[List.getElem?_set_ne (λe=>hip e.symm)] at he;obtain⟨g1,g2⟩:=hr.rel i e he;refine⟨g1,λk a ha=>?_⟩;obtain⟨r3,v,hv,r1,r2⟩:=g2 k a ha;refine⟨r3,v,?_,r1,r2⟩;have hk:k<esz:=by grind
      rw[hfold,if_neg ?_]
      ·exact hv
      ·rw[<-h1,hs];rcases Nat.lt_or_gt_of_ne hip with hlt|hgt
       ·have:(i+1)*esz<=p.1*esz:=Nat.mul_le_mul_right _ hlt
        grind
       ·have:(p.1+1)*esz<=i*esz:=Nat.mul_le_mul_right _ hgt
        grind
   grind
  ·cases h
theorem X9e {ti:TI} (hz:(X1m ti.zero).whole=true/\(X1m ti.zero).cells.length=ti.size) (hpos:ti.size≠0) (n:Nat) :
  Xjm c M ti.size (List.replicate n (X1m ti.zero)) ((Array.range (n*ti.size)).map (ti.zero.cells[· % ti.zero.cells.size]!))/\ti.zero.cells.size=ti.size:=by
 have hcr:=Xbq (c:=c) (M:=M) (X7r c false ti.zero) (X9i M ti.zero) hz.1;have hsz:ti.zero.cells.size=ti.size:=by rw[<-hcr.len,hz.2]
 refine⟨⟨by simp,λi e he=>?_⟩,hsz⟩;rw[List.getElem?_replicate] at he;split at he
 ·rename_i hi;cases he
  refine⟨hz.2,λk a ha=>?_⟩;have hk:k<ti.size:=by grind
  have hlt:i*ti.size+k<n*ti.size:=by
   have:(i+1)*ti.size<=n*ti.size:=Nat.mul_le_mul_right _ hi
   grind
  obtain⟨r1,r2,r3⟩:=hcr.rel k a _ ha (Array.getElem?_eq_getElem om)
  simp_all [Array.getElem?_map,Array.getElem?_range,if_true,Option.map_some,Nat.mul_comm,Nat.mul_add_mod,Nat.mod_eq_of_lt]
 ·cases he
end
end Go.Av


namespace Go.Av
variable [Gls]
section
variable {c:Ctx} {H:Xz} {M:Nat->Prop}
theorem Inv.mark (hI:Inv c H M) {o:Nat} {y:Obj} (hy:H o=some y):Inv c (upd H o ((H o).map Obj.mark)) M:=by
 have key:∀ p z,upd H o ((H o).map Obj.mark) p=some z->∃ z',H p=some z'/\z.es=z'.es/\z.esz=z'.esz/\((p=o/\z.spent=true/\z.solo=false)\/(p≠o/\z=z')):=by
  intro p z hz;by_cases hp:p=o
  ·subst hp;rw[Xk,hy] at hz;cases hz;exact⟨y,hy,rfl,rfl,.inl ⟨rfl,rfl,rfl⟩⟩
  grind [Xm]
 refine⟨?_,?_,?_,hI.lt,hI.base,hI.own,?_,hI.glob⟩
 ·intro p z hz;obtain⟨z',hz',he,hs,_⟩:=key p z hz;obtain⟨h1,⟨h2,h3,h4,h5⟩,h6⟩:=hI.obj p z' hz';refine⟨h1,⟨by grind,by grind,h4,by grind⟩,by grind⟩
 ·intro p p' z z' hz hz' hne hb;obtain⟨x,hx,he,hee,hc⟩:=key p z hz;obtain⟨x',hx',he',hee',hc'⟩:=key p' z' hz';obtain⟨s1,s2⟩:=hI.sep p p' x x' hx hx' hne hb
  grind
 ·intro p z hz;obtain⟨z',hz',_⟩:=key p z hz;exact hI.stab p z' hz'
 ·intro p z hz;obtain⟨z',hz',_⟩:=key p z hz;exact hI.low p z' hz'
theorem Inv.grow (hI:Inv c H M) {id o:Nat} (hid:¬ M id) {y x:Obj} (hy:H o=some y) (hsp:y.spent=false) {cur new:Array Value}
  (hcur:c.w.heap[(c.ρ o).blk]?=some (.cells cur (c.ρ o).ety (0,0))) (hnew:new.size=cur.size)
  (hkeep:∀ j,j<y.es.length*(c.ρ o).esz->new[j]?=cur[j]?) (hes:x.esz=(c.ρ o).esz) (hfits:x.es.length<=(c.ρ o).cap) (hlen:y.es.length<=x.es.length)
  (hel:∀ (i:Nat) e,x.es[i]?=some e->e.cells.length=(c.ρ o).esz/\∀ (k:Nat) a,e.cells[k]?=some a->a.Ok M/\∃ v,new[i*(c.ρ o).esz+k]?=some v/\X0m c false a v/\v.oneCell'=true) :
  c.Le M ⟨c.w.setRow (c.ρ o).blk new,upd c.ρ id (c.ρ o),c.Sa,c.So,c.B⟩ /\
  Inv ⟨c.w.setRow (c.ρ o).blk new,upd c.ρ id (c.ρ o),c.Sa,c.So,c.B⟩ (upd (upd H o ((H o).map Obj.mark)) id (some { x with solo:=false })) (λq=>M q\/q=id) /\
  Fr c H (c.w.setRow (c.ρ o).blk new):=by
 have hI':=hI.mark hy;have hoid:o≠id:=λe=>hid (e▸(hI.obj o y hy).1);have hst:=hI.stab o y hy;have hrow:(c.w.setRow (c.ρ o).blk new).heap[(c.ρ o).blk]?=some (.cells new (c.ρ o).ety (0,0)):=setRow_heap c.w _ cur new _ _ hcur;have hother:∀ b,b≠(c.ρ o).blk->(c.w.setRow (c.ρ o).blk new).heap[b]?=c.w.heap[b]?:=λb hb=>setRow_other c.w _ b new hb;have hle:c.Le M ⟨c.w.setRow (c.ρ o).blk new,upd c.ρ id (c.ρ o),c.Sa,c.So,c.B⟩ :=
  ⟨λp hp=>Xm _ _ (λe=>hid (e▸hp)),λb hb=>hb,λb hb=>hb,λb hb=>hother b (λe=>by grind),rfl⟩
 have hρ:∀ p,M p->upd c.ρ id (c.ρ o) p=c.ρ p:=λp hp=>Xm _ _ (λe=>hid (e▸hp));obtain⟨hMo,⟨⟨cur',hb',hsz',hc'⟩,hf',hp',hs'⟩,hok'⟩:=hI.obj o y hy;rw[hcur] at hb';cases hb'
 have hM:∀ p z,upd (upd H o ((H o).map Obj.mark)) id (some { x with solo:=false }) p=some z ->
   (p=id/\z={ x with solo:=false })\/(p≠id/\upd H o ((H o).map Obj.mark) p=some z):=by
  grind [Xk,Xm]
 have hmk:upd H o ((H o).map Obj.mark) o=some y.mark:=by rw[Xk,hy];rfl
 have hshort:∀ p z,upd H o ((H o).map Obj.mark) p=some z->(c.ρ p).blk=(c.ρ o).blk->z.spent=true/\z.es.length*z.esz<=y.es.length*y.esz/\z.solo=false:=by
  intro p z hz hb;by_cases hp:p=o
  ·subst hp;rw[hmk] at hz;cases hz;exact⟨rfl,Nat.le_refl _,rfl⟩
  ·rw[Xm _ _ hp] at hz;obtain⟨_,h1⟩:=hI.sep o p y z hy hz (λe=>hp e.symm) hb.symm;obtain⟨h2,h3⟩:=h1 hsp;exact⟨h2,h3,(hI.sep p o z y hz hy hp hb).1⟩
 refine⟨hle,⟨?_,?_,?_,?_,by simpa using hI.base,hI.own,?_,hI.glob.mono hle⟩,⟨rfl,rfl,⟨rfl,Nat.le_refl _⟩,by simp,λb _ hb=>hother b (λe=>hb o y hy e.symm)⟩⟩
 ·intro p z hz;rcases hM p z hz with ⟨rfl,rfl⟩|⟨hp,hz⟩
  ·refine⟨.inr rfl,⟨⟨new,?_,?_,?_⟩,?_,?_,?_⟩,?_⟩
   ·simp only[Xk];exact hrow
   ·simp only[Xk];rw[hnew];exact hsz'
   ·simp only[Xk];intro i e he;obtain⟨h1,h2⟩:=hel i e he;exact⟨h1,λk a ha=>by obtain⟨hok,v,hv,hr,h3⟩:=h2 k a ha;exact⟨v,hv,hr.mono hle (.inr hok),h3⟩⟩
   ·simp only[Xk];exact hfits
   ·simp only[Xk];exact hp'
   ·simp only[Xk];exact hes
   ·intro e he a ha;obtain⟨i,hi⟩:=List.getElem?_of_mem he;obtain⟨k,hk⟩:=List.getElem?_of_mem ha;exact((hel i e hi).2 k a hk).1.mono (λq hq=>.inl hq)
  ·obtain⟨hm,⟨⟨cu,hb,hs,hc⟩,hf,hpp,hse⟩,hok⟩:=hI'.obj p z hz;have hmono:∀ e∈z.es,∀ (a:AV) v,a∈e.cells->X0m c false a v->X0m ⟨c.w.setRow (c.ρ o).blk new,upd c.ρ id (c.ρ o),c.Sa,c.So,c.B⟩ false a v :=
    λe he a v ha hr=>hr.mono hle (.inr (hok e he a ha))
   by_cases hblk:(c.ρ p).blk=(c.ρ o).blk
   ·obtain⟨_,hlen',_⟩:=hshort p z hz hblk;rw[hblk,hcur] at hb;simp only[Option.some.injEq,Obj.cells.injEq,and_true] at hb;obtain⟨rfl,hty⟩:=hb;refine⟨.inl hm,⟨⟨new,?_,?_,?_⟩,?_,?_,?_⟩,λe he a ha=>(hok e he a ha).mono (λq hq=>.inl hq)⟩
    ·simp only[hρ p hm,hblk];rw[hrow,hty]
    ·simp only[hρ p hm];rw[hnew];exact hs
    ·simp only[hρ p hm];intro i e he;obtain⟨h1,h2⟩:=hc i e he;refine⟨h1,λk a ha=>?_⟩;obtain⟨v,hv,hr,h3⟩:=h2 k a ha;refine⟨v,?_,hmono e (List.mem_of_getElem? he) a v (List.mem_of_getElem? ha) hr,h3⟩;have hi:i<z.es.length:=(List.getElem?_eq_some_iff.1 he).1;have hk:k<(c.ρ p).esz:=by rw[<-h1];exact(List.getElem?_eq_some_iff.1 ha).1
     have h4:(i+1)*(c.ρ p).esz<=z.es.length*(c.ρ p).esz:=Nat.mul_le_mul_right _ hi;rw[Nat.add_mul] at h4;rw[hse,hs'] at hlen';rw[hkeep _ om];exact hv
    ·simp only[hρ p hm];exact hf
    ·simp only[hρ p hm];exact hpp
    ·simp only[hρ p hm];exact hse
   ·refine⟨.inl hm,⟨⟨cu,?_,?_,?_⟩,?_,?_,?_⟩,λe he a ha=>(hok e he a ha).mono (λq hq=>.inl hq)⟩
    ·simp only[hρ p hm];rw[hother _ hblk];exact hb
    ·simp only[hρ p hm];exact hs
    ·simp only[hρ p hm];intro i e he;obtain⟨h1,h2⟩:=hc i e he;refine⟨h1,λk a ha=>?_⟩;obtain⟨v,hv,hr,h3⟩:=h2 k a ha;exact⟨v,hv,hmono e (List.mem_of_getElem? he) a v (List.mem_of_getElem? ha) hr,h3⟩
    ·simp only[hρ p hm];exact hf
    ·simp only[hρ p hm];exact hpp
    ·simp only[hρ p hm];exact hse
 ·intro p p' z z' hz hz' hne hb;rcases hM p z hz with ⟨rfl,rfl⟩|⟨hp,hzo⟩
  ·rcases hM p' z' hz' with ⟨hp',_⟩|⟨hp',hz'⟩
   ·grind
   ·simp only[Xk,hρ p' (hI'.obj p' z' hz').1] at hb
    grind [Nat.le_trans,Nat.mul_le_mul_right]
  ·rcases hM p' z' hz' with ⟨hp',hzx⟩|⟨hp',hz'⟩
   ·subst hp';simp only[Xk,hρ p (hI'.obj p z hzo).1] at hb
    grind
   ·simp only[hρ p (hI'.obj p z hzo).1,hρ p' (hI'.obj p' z' hz').1] at hb;exact hI'.sep p p' z z' hzo hz' hne hb
 ·intro p z hz;rcases hM p z hz with ⟨rfl,rfl⟩|⟨hp,hz⟩
  ·simp only[Xk];exact hst
  ·simp only[hρ p (hI'.obj p z hz).1];exact hI'.stab p z hz
 ·intro b hb;simpa using hI.lt b hb
 ·intro p z hz;rcases hM p z hz with ⟨rfl,rfl⟩|⟨hp,hz⟩
  ·simp only[Xk];exact hI.low o y hy
  ·simp only[hρ p (hI'.obj p z hz).1];exact hI'.low p z hz
end
end Go.Av


namespace Go.Av
variable [Gls]
def MkOk (P:Program) (c:Ctx) (H:Xz) (M:Nat->Prop) (σ:Operand->Value) (id:Nat) (o:Oper) (a:AV) (e:Eff):Prop :=
 ∃ v c',(execOp σ o).run P c.w=.ok (.value v) c'.w/\c.Le M c'/\c'.Sa=c.Sa/\c'.So=c.So/\X0m c' false a v/\a.Ok (λq=>M q\/q=id) /\
  Inv c' (e.apply id H) (λq=>M q\/q=id)/\Fr c H c'.w/\Xaf c H c' (e.apply id H)
section
variable {P:Program} {T:Ty} {c:Ctx} {H H':Xz} {M:Nat->Prop} {ev:Operand->AV} {σ:Operand->Value}
theorem Inv.more (hI:Inv c H M) {M':Nat->Prop} (hm:∀ q,M q->M' q):Inv c H M' :=
 ⟨λo x h=>by obtain⟨h1,h2,h3⟩:=hI.obj o x h;exact⟨hm o h1,h2,λe he a ha=>(h3 e he a ha).mono hm⟩,hI.sep,hI.stab,hI.lt,hI.base,hI.own,hI.low,hI.glob⟩
theorem Fr.refl (c:Ctx) (H:Xz):Fr c H c.w:=⟨rfl,rfl,⟨rfl,Nat.le_refl _⟩,Nat.le_refl _,λ_ _ _=>rfl⟩
theorem MkOk.pure (hI:Inv c H M) {id:Nat} {o:Oper} {a:AV} (h:PuOk P c M σ o a):MkOk P c H M σ id o a .none:=by
 obtain⟨v,h1,h2,h3⟩:=h;exact⟨v,c,h1,.refl c,rfl,rfl,h2,h3.mono (λq hq=>.inl hq),hI.more (λq hq=>.inl hq),.refl c H,λq x hx=>.inr ⟨q,x,hx,rfl⟩⟩
theorem Inv.waste (hI:Inv c H M) {w':World} (o:Go.Obj) (hw:w'.heap=c.w.heap.push o) (hos:w'.os=c.w.os) (htape:w'.tape=c.w.tape) (hout:w'.output=c.w.output/\dr c.w<=dr w') :
  c.Le M { c with w:=w' }/\Inv { c with w:=w' } H M/\Fr c H w':=by
 have hold:∀ b,b<c.w.heap.size->w'.heap[b]?=c.w.heap[b]?:=by
  grind
 have hle:c.Le M { c with w:=w' }:=⟨λ_ _=>rfl,λ_ h=>h,λ_ h=>h,λb hb=>hold b (hI.lt b hb),rfl⟩;refine⟨hle,⟨?_,hI.sep,hI.stab,λb hb=>by have:=hI.lt b hb;grind,by have:=hI.base;grind,hI.own,hI.low,hI.glob.mono hle⟩,⟨hos,htape,hout,by rw[hw];simp,λb hb _=>hold b hb⟩⟩;intro p x hx;obtain⟨h1,⟨⟨cur,hb,hs,hc⟩,h3,h4,h5⟩,h6⟩:=hI.obj p x hx;refine⟨h1,⟨⟨cur,?_,hs,?_⟩,h3,h4,h5⟩,h6⟩
 ·grind
 ·intro i e he;obtain⟨g1,g2⟩:=hc i e he;exact⟨g1,λk a ha=>by obtain⟨v,hv,hr,h7⟩:=g2 k a ha;exact⟨v,hv,hr.mono hle (.inr (h6 e (List.mem_of_getElem? he) a (List.mem_of_getElem? ha))),h7⟩⟩
theorem Xn2 (hI:Inv c H M) {id:Nat} (hid:¬ M id) {o:Oper} {w':World} {cur:Array Value} {ety cap esz:Nat} {v:Value} {x:Obj} {a:AV}
  (hrun:(execOp σ o).run P c.w=.ok (.value v) w') (hw:w'.heap=c.w.heap.push (.cells cur ety)) (hos:w'.os=c.w.os) (htape:w'.tape=c.w.tape) (hout:w'.output=c.w.output/\dr c.w<=dr w')
  (hsz:cur.size=cap*esz) (hpos:0<esz) (hesz:x.esz=esz) (hfits:x.es.length<=cap)
  (hel:∀ (i:Nat) e,x.es[i]?=some e->e.cells.length=esz/\∀ (k:Nat) a,e.cells[k]?=some a->a.Ok M/\∃ v,cur[i*esz+k]?=some v/\X0m c false a v/\v.oneCell'=true)
  (ha:∀ c':Ctx,c'.ρ id=⟨c.w.heap.size,cap,esz,ety⟩->X0m c' false a v) (hok:a.Ok (λq=>M q\/q=id)):MkOk P c H M σ id o a (.new x):=by
 obtain⟨h1,h2,h3⟩:=hI.addBlock hid hw hos htape hout hsz hpos hesz hfits hel;refine⟨v,_,hrun,h1,rfl,rfl,ha _ (by simp[Xk]),hok,h2,h3,λq y hy=>?_⟩;by_cases hq:q=id
 ·subst hq;simp[Xk]
 ·simp only[Eff.apply,Xm _ _ hq] at hy;exact .inr ⟨q,y,hy,by simp only[Xm _ _ hq]⟩
theorem Xcv (w:World) (t ty e e':TypeId) (i:TypeInfo) (ht:P.underlying t=some (.slice e)) (hi:P.info? e=some i)
  (g sLen sCap:Nat) (cur:Array Value) (hg:w.heap[g]?=some (.cells cur e' (0,0)))
  (a:Addr) (m c:Nat) (news:List Value) (hl:news.length=m*i.size) (hnews:∀ (j:Nat) u,news[j]?=some u->w.cell? (a.add j)=some u) (h1:∀ u∈news,u.oneCell'=true)
  (hroom:sLen+m<=sCap) (hfit:sLen*i.size+news.length<=cur.size) :
  (Builtin.append_ #[t,t] ty #[.slice (some ⟨g,0,none⟩) sLen sCap,.slice (some a) m c]).run P w =
   .ok (.slice (some ⟨g,0,none⟩) (sLen+m) sCap) (w.setRow g (cur.toList.take (sLen*i.size)++news++cur.toList.drop (sLen*i.size+news.length)).toArray):=by
 have hf:=run_firstCells_some (P:=P) w i.size m a m c news hl hnews;have hst:=run_storeCells_at P g (sLen*i.size) e' news 0 cur w hg (by simpa using hfit) h1;simp only[Nat.add_zero] at hst;simp[Builtin.append_,run_underlying ht,Go.sizeOf,typeInfo,hi,Builtin.lenOf,hroom,hf,Addr.add_lit,hst]
theorem X0as (hT:X7a P T) (hI:Inv c H M) (hsub:∀ q x,H' q=some x->H q=some x) {id:Nat} (hid:¬ M id) (hE:∀ x,X0m c false (ev x) (σ x)) (hO:∀ x,(ev x).Ok M)
  {o:Oper} {a:AV} {e:Eff} (h:Mk T ev H' id o.op a e):MkOk P c H M σ id o a e:=by
 have sc:∀ {x:Operand} {v:Value},ev x=.sc v->σ x=v:=λ{x v} hx=>by have:=hE x;rw[hx] at this;exact this.sc_inv
 have src:∀ {a xs},Xnb H' a xs->Xnb H a xs:=λh=>by
  cases h with
  |list=>exact .list
  |nils=>exact .nils
  |ref hH hle=>exact .ref (hsub _ _ hH) hle
 obtain⟨dst,op,type,pos,after,guard⟩:=o;simp only at h
 cases h with
 |@box elem x hw hp =>
  have hcr:=Xbq (hE x) (hO x) hw;refine Xn2 hI hid (w':=c.w.alloc (.cells (σ x).cells elem)) (cur:=(σ x).cells) (ety:=elem) (cap:=1) (esz:=(ev x).cells.length) (v:=.pointer (some ⟨c.w.heap.size,0,none⟩))
   ?_ rfl rfl rfl ⟨rfl,by first|exact Nat.le_refl _|exact Xho (Nat.le_succ _)⟩ (by rw[Nat.one_mul,hcr.len]) (List.length_pos_iff.2 hp) rfl (by simp) ?_ ?_ (.ptr (.inr rfl))
  ·rfl
  ·intro i e he
   cases i with
   |zero =>
    simp at he;subst he;refine⟨rfl,λk a ha=>?_⟩;have hk:k<(σ x).cells.size:=by rw[<-hcr.len];grind
    obtain⟨r1,r2,r3⟩:=hcr.rel k a _ ha (Array.getElem?_eq_getElem hk)
    grind
   |succ i=>simp at he
  ·intro c' hc;have:X0m c' false (.ptr id 0 0) (.pointer (some ⟨(c'.ρ id).blk,0*(c'.ρ id).esz+0,none⟩)):=.ptr
   grind
 |@alloc elem ti ht hp =>
  have hz:=(hT elem ti ht).zs;have hcr:=Xbq (c:=c) (M:=M) (X7r c false ti.zero) (X9i M ti.zero) hz.1;refine Xn2 hI hid (w':=c.w.alloc (.cells ti.zero.cells elem)) (cur:=ti.zero.cells) (ety:=elem) (cap:=1) (esz:=ti.size) (v:=.pointer (some ⟨c.w.heap.size,0,none⟩))
   ?_ rfl rfl rfl ⟨rfl,by first|exact Nat.le_refl _|exact Xho (Nat.le_succ _)⟩ (by rw[Nat.one_mul,<-hcr.len,hz.2]) (Nat.pos_of_ne_zero hp) rfl (by simp) ?_ ?_ (.ptr (.inr rfl))
  ·simp[execOp,Instr.alloc,X9u c.w (hT elem ti ht),newVar,newRow]
  ·intro i e he
   cases i with
   |zero =>
    simp at he;subst he;refine⟨hz.2,λk a ha=>?_⟩;have hk:k<ti.zero.cells.size:=by rw[<-hcr.len];grind
    obtain⟨r1,r2,r3⟩:=hcr.rel k a _ ha (Array.getElem?_eq_getElem hk)
    grind
   |succ i=>simp at he
  ·intro c' hc;have:X0m c' false (.ptr id 0 0) (.pointer (some ⟨(c'.ρ id).blk,0*(c'.ρ id).esz+0,none⟩)):=.ptr
   grind
 |@slice0 t ti et te ht hk hte =>
  obtain⟨h1,h2,h3⟩:=hI.waste (w':=c.w.alloc (.cells #[] et)) (.cells #[] et) rfl rfl rfl ⟨rfl,by first|exact Nat.le_refl _|exact Xho (Nat.le_succ _)⟩;refine⟨.slice (some ⟨c.w.heap.size,0,none⟩) 0 0,_,?_,h1,rfl,rfl,.nils,.nils,h2.more (λq hq=>.inl hq),h3,λq x hx=>.inr ⟨q,x,hx,rfl⟩⟩;simp[execOp,Instr.buildSlice,run_underlying (X1i (hT t ti ht) hk),X0w c.w (hT et te hte),Instr.fill,newRow,Array.range_zero']
 |@buildSlice t len ps ti et te es ht hk hte hlen hpos hb h =>
  obtain⟨hz,hzs⟩:=X9e (c:=c) (M:=M) (hT et te hte).zs hpos len;obtain⟨us,hf,hr,hl⟩:=Xuv (Nat.pos_of_ne_zero hpos) ev σ hE hO ps.toList _ es _ hz h;simp only[List.length_replicate] at hl;have hne:len*te.size≠0:=Nat.mul_ne_zero hlen hpos;refine Xn2 hI hid (w':=c.w.alloc (.cells us et)) (cur:=us) (ety:=et) (cap:=len) (esz:=te.size) (v:=.slice (some ⟨c.w.heap.size,0,none⟩) len len)
   ?_ rfl rfl rfl ⟨rfl,by first|exact Nat.le_refl _|exact Xho (Nat.le_succ _)⟩ (by rw[hr.size,hl]) (Nat.pos_of_ne_zero hpos) rfl (by simp[hl]) ?_ ?_ (.ref (.inr rfl))
  ·have hps:(ps.map λ(p:Nat×Operand)=>(p.1,σ p.2)).toList=ps.toList.map λp=>(p.1,σ p.2):=by simp
   simp only[execOp,Instr.buildSlice,Sem.run_bind,run_underlying (X1i (hT t ti ht) hk),X0w c.w (hT et te hte),Result.andThen_ok,if_neg (show ¬ (len*te.size>2 ^ 24) by omega),
    if_neg hne,Sem.run_pure,X9u c.w (hT et te hte),hps,hf,newRow,run_newObj]
   rfl
  ·intro i e he;obtain⟨g1,g2⟩:=hr.rel i e he
   grind
  ·intro c' hc;have:X0m c' false (.ref id 0 len) (.slice (some ⟨(c'.ρ id).blk,0*(c'.ρ id).esz,none⟩) len ((c'.ρ id).cap - 0)):=.ref (by rw[hc];simp)
   grind
 |@make0 t l cc k k' ti et te hl hc ht hk hte =>
  obtain⟨h1,h2,h3⟩:=hI.waste (w':=c.w.alloc (.cells #[] et)) (.cells #[] et) rfl rfl rfl ⟨rfl,by first|exact Nat.le_refl _|exact Xho (Nat.le_succ _)⟩;obtain⟨i,d,hi,_,_,_,hs,hb⟩:=(hT et te hte).parts;refine⟨.slice (some ⟨c.w.heap.size,0,none⟩) 0 0,_,?_,h1,rfl,rfl,.nils,.nils,h2.more (λq hq=>.inl hq),h3,λq x hx=>.inr ⟨q,x,hx,rfl⟩⟩;have hw0:IntKind.i64.wrap 0=0:=by decide
  simp[execOp,Instr.makeSlice,run_underlying (X1i (hT t ti ht) hk),sc hl,sc hc,asInt,asIntOf,typeInfo,hi,hw0,X0w c.w (hT et te hte),newRow,Array.range_zero']
 |@make t l cc k k' n m ti et te hl hc h0 hnm hm ht hk hte hpos hb hb' =>
  obtain⟨hz,hzs⟩:=X9e (c:=c) (M:=M) (hT et te hte).zs hpos m.toNat;obtain⟨i,d,hi,_,_,_,hs,hby⟩:=(hT et te hte).parts;have hwn:IntKind.i64.wrap n=n:=by
   grind [IntKind.wrap,IntKind.signed,IntKind.bits]
  have hwm:IntKind.i64.wrap m=m:=by
   grind [IntKind.wrap,IntKind.signed,IntKind.bits]
  refine Xn2 hI hid (w':=c.w.alloc (.cells ((Array.range (m.toNat*te.size)).map (te.zero.cells[· % te.zero.cells.size]!)) et)) (ety:=et) (cap:=m.toNat) (esz:=te.size) (v:=.slice (some ⟨c.w.heap.size,0,none⟩) n.toNat m.toNat)
   ?_ rfl rfl rfl ⟨rfl,by first|exact Nat.le_refl _|exact Xho (Nat.le_succ _)⟩ (by grind) (Nat.pos_of_ne_zero hpos) rfl (by simp;omega) ?_ ?_ (.ref (.inr rfl))
  ·have e1:¬ (m<0\/2 ^ 48<(i.bytes:Int)*m):=by grind
   have e2:m.toNat*te.size≠0:=Nat.mul_ne_zero om hpos;have e3:((decide (m<0)||decide ((i.bytes:Int)*m>2 ^ 48))||decide (n<0)||decide (n>m))=false:=by
    grind
   simp only[execOp,Instr.makeSlice,Sem.run_bind,run_underlying (X1i (hT t ti ht) hk),sc hl,sc hc,asInt,asIntOf,typeInfo,run_program,hi,Result.andThen_ok,Sem.run_pure,hwn,hwm,e3,Bool.false_eq_true,if_false,
    run_askRoom,X0w c.w (hT et te hte),e2,X9u c.w (hT et te hte),newRow,run_newObj]
   rfl
  ·intro i e he;have he':(List.replicate m.toNat (X1m te.zero))[i]?=some e:=by
    grind
   exact hz.rel i e he'
  ·intro c' hc;have:X0m c' false (.ref id 0 n.toNat) (.slice (some ⟨(c'.ρ id).blk,0*(c'.ρ id).esz,none⟩) n.toNat ((c'.ρ id).cap - 0)):=.ref (by grind)
   grind
 |@append0 s x t ti et te n hs hs' hx ht hk hte =>
  obtain⟨q,qc,hxv⟩:=Xnt (src hx) (hE x);simp only[List.length_nil] at hxv;refine .pure hI ⟨σ s,?_,hE s,hO s⟩;have hcap:∃ p cap,σ s=.slice p n cap/\n<=cap:=by
   have h1:=hE s;generalize ev s=as at h1 hs hs'
   cases as with
   |list own es =>
    obtain⟨p,cap,h2,hcase⟩:=h1.list_inv;simp[Xq3] at hs;grind
   |ref o off len=>obtain⟨h2,h3⟩:=h1.ref_inv;grind [Xq3]
   |nils=>obtain⟨p,h2⟩:=h1.nils_inv;simp[Xq3] at hs;grind
   |sc v=>cases v<;>simp[Xq3] at hs;grind
   |_=>trivial
  obtain⟨p,cap,hsv,hle⟩:=hcap;have hu:=X1i (hT t ti ht) hk;have hf:(Builtin.firstCells te.size 0 (.slice q 0 qc)).run P c.w=.ok #[] c.w:=by
   cases q<;>simp[Builtin.firstCells,loadCells,loadCellsFrom]
  simp[execOp,resolve,invoke,builtin,Builtin.append_,hsv,hxv,run_underlying hu,X0w c.w (hT et te hte),Builtin.lenOf,hle,hf];cases p<;>simp[storeCells]
 |@appendNil s x t ti et te xs hs hx hne ht hk hte hsz hpos hlen hb =>
  have hsv:=hE s;rw[hs] at hsv;obtain⟨p,hp⟩:=hsv.nils_inv;obtain⟨b,off,cap,esz,hxv,hel⟩:=Xpu hI (src hx) (hE x) hne;have hx0:0<xs.length:=List.length_pos_iff.2 hne;have hesz:esz=te.size:=by
   rw[<-(hel 0 _ (List.getElem?_eq_getElem hx0)).1,hsz _ (List.getElem_mem hx0)]
  subst hesz;obtain⟨news,hnl,hnc,hn1,hnr⟩:=Xla (Nat.pos_of_ne_zero hpos) hel;obtain⟨i,d,hi,_,hzi,_,hs',hby⟩:=(hT et te hte).parts;have hu:=X1i (hT t ti ht) hk;have hzsz:=(X9e (c:=c) (M:=M) (hT et te hte).zs hpos 0).2;have hml:(xs.length:Int)<=9223372036854775807:=by simp only[maxLen] at hlen;omega
  have hfit:=growslice_fits (need:=0+xs.length) (old:=0) (bytes:=i.bytes) om (by grind);have hge:=grownCap_ge c.w xs.length 0 et;refine Xn2 hI hid (w':=c.w.drew.alloc (.cells (news.toArray++Builtin.zeroCells te.zero.cells (grownCap c.w xs.length 0 et - xs.length)) et)) (cap:=grownCap c.w xs.length 0 et) (esz:=te.size)
   (v:=.slice (some ⟨c.w.heap.size,0,none⟩) xs.length (grownCap c.w xs.length 0 et)) (ety:=et) (cur:=news.toArray++Builtin.zeroCells te.zero.cells (grownCap c.w xs.length 0 et - xs.length))
   ?_ rfl rfl rfl ⟨rfl,by first|exact Nat.le_refl _|exact Xho (Nat.le_succ _)⟩ ?_ (Nat.pos_of_ne_zero hpos) rfl hge ?_ ?_ (.ref (.inr rfl))
  ·simp only[execOp,resolve,invoke,builtin,List.map_toArray,List.map_cons,List.map_nil,hp,hxv,Sem.run_bind,Sem.run_pure,Result.andThen_ok]
   cases p with
   |none =>
    rw[run_append_nil (P:=P) c.w t type et i te.zero hu hi hzi ⟨b,off,none⟩ xs.length cap news (by rw[hnl,hs']) hnc hx0 hml (by grind)];rfl
   |some pa =>
    have hg:=run_append_grow (P:=P) c.w t type et i te.zero hu hi hzi pa 0 0 [] (by simp) (by simp) ⟨b,off,none⟩ xs.length cap news (by rw[hnl,hs']) hnc om (by grind) hfit
    simp_all
  ·simp only[Array.size_append,List.size_toArray,size_zeroCells,hzsz,hnl,<-Nat.add_mul]
   grind
  ·grind
  ·intro c' hc;have:X0m c' false (.ref id 0 xs.length) (.slice (some ⟨(c'.ρ id).blk,0*(c'.ρ id).esz,none⟩) xs.length ((c'.ρ id).cap - 0)):=.ref (by grind)
   grind
 |@appendZeros s x t tn ti tin et te k kn n hs hx h0 htn hkn ht hk hte hpos hlen hb =>
  have hsv:=hE s;rw[hs] at hsv;obtain⟨p,hp⟩:=hsv.nils_inv;obtain⟨hz,hzsz⟩:=X9e (c:=c) (M:=M) (hT et te hte).zs hpos n.toNat;obtain⟨i,d,hi,_,hzi,_,hs',hby⟩:=(hT et te hte).parts;have hu:=X1i (hT t ti ht) hk;have hun:=Xk4 (hT tn tin htn) hkn;have hfit:=growslice_fits (need:=0+n.toNat) (old:=0) (bytes:=i.bytes) om (by grind);have hge:=grownCap_ge c.w n.toNat 0 et;have hxn:σ x=.int k (n.toNat:Nat):=by grind
  have hml:((0+n.toNat:Nat):Int)<=9223372036854775807:=by simp only[maxLen] at hlen;omega
  have hrun:=Go.Lib.run_append_grow_zeros (P:=P) c.w t tn type et i te.zero k kn hu hun hi hzi p 0 0 [] (by cases p<;>simp[Builtin.firstCells,loadCells,loadCellsFrom]) n.toNat om om om hml (by grind) hfit;simp only[Nat.zero_add] at hrun;refine Xn2 hI hid (w':=c.w.drew.alloc (.cells (([]:List Value).toArray++Builtin.zeroCells te.zero.cells n.toNat++Builtin.zeroCells te.zero.cells (grownCap c.w n.toNat 0 et - n.toNat)) et)) (cap:=grownCap c.w n.toNat 0 et) (esz:=te.size)
   (v:=.slice (some ⟨c.w.heap.size,0,none⟩) n.toNat (grownCap c.w n.toNat 0 et)) (ety:=et) (cur:=([]:List Value).toArray++Builtin.zeroCells te.zero.cells n.toNat++Builtin.zeroCells te.zero.cells (grownCap c.w n.toNat 0 et - n.toNat))
   ?_ rfl rfl rfl ⟨rfl,by first|exact Nat.le_refl _|exact Xho (Nat.le_succ _)⟩ ?_ (Nat.pos_of_ne_zero hpos) rfl (by grind) ?_ ?_ (.ref (.inr rfl))
  ·simp only[execOp,resolve,invoke,builtin,List.map_toArray,List.map_cons,List.map_nil,hp,hxn,Sem.run_bind,Sem.run_pure,Result.andThen_ok];rw[hrun];rfl
  ·simp only[Array.size_append,List.size_toArray,List.length_nil,size_zeroCells,hzsz,Nat.zero_add,<-Nat.add_mul]
   grind
  ·intro j e he;obtain⟨g1,g2⟩:=hz.rel j e he
   grind [Builtin.zeroCells,Array.range,Array.getElem?_append_left,Array.getElem?_eq_some_iff]
  ·intro c' hc;have:X0m c' false (.ref id 0 n.toNat) (.slice (some ⟨(c'.ρ id).blk,0*(c'.ρ id).esz,none⟩) n.toNat ((c'.ρ id).cap - 0)):=.ref (by rw[hc];simpa using hge);rw[hc] at this;simpa using this
 |@append s x t ti et te xs o n y hs hH hn hsp hes hx hne ht hk hte hsz hlen hb =>
  have hH':=hsub _ _ hH;have hsv:=hE s;rw[hs] at hsv;obtain⟨hp,hle⟩:=hsv.ref_inv;simp only[Nat.zero_mul,Nat.sub_zero,Nat.zero_add] at hp hle;obtain⟨b,off,cap,esz,hxv,hel⟩:=Xpu hI (src hx) (hE x) hne;have hx0:0<xs.length:=List.length_pos_iff.2 hne;obtain⟨hMo,⟨⟨cur,hcb,hcs,hcr⟩,hfits,hpos',hsame⟩,hoks⟩:=hI.obj o y hH';have hte':te.size=(c.ρ o).esz:=by grind
  have hesz:esz=(c.ρ o).esz:=by
   rw[<-(hel 0 _ (List.getElem?_eq_getElem hx0)).1,hsz _ (List.getElem_mem hx0),hte']
  subst hesz;obtain⟨news,hnl,hnc,hn1,hnr⟩:=Xla hpos' hel;obtain⟨i,d,hi,_,hzi,_,hs',hby⟩:=(hT et te hte).parts;have hu:=X1i (hT t ti ht) hk;have hzsz:=(X9e (c:=c) (M:=M) (hT et te hte).zs om 0).2;have hml:((n+xs.length:Nat):Int)<=9223372036854775807:=by simp only[maxLen] at hlen;omega
  have hxsz:∀ (j:Nat) e,(y.es++xs)[j]?=some e->(j<n/\y.es[j]?=some e)\/(n<=j/\xs[j - n]?=some e):=by
   grind
  have hown:∀ (p:Pl) {w':World},(c.w.heap.size<=p.blk\/(c.ρ o).blk=p.blk)->Xaf c H ⟨w',upd c.ρ id p,c.Sa,c.So,c.B⟩ ((Eff.app o { es:=y.es++xs,esz:=te.size }).apply id H):=by
   intro p w' hp q z hz;by_cases hq:q=id
   ·grind [Xk,id]
   ·simp only[Eff.apply,Xm _ _ hq] at hz;simp only[Xm _ _ hq];by_cases hqo:q=o
    ·grind
    ·rw[Xm _ _ hqo] at hz;grind
  by_cases hroom:n+xs.length<=(c.ρ o).cap
  ·-- there is room
   have hfit:n*i.size+news.length<=cur.size:=by
    rw[hnl,<-hs',hte',hcs,<-Nat.add_mul];exact Nat.mul_le_mul_right _ hroom
   have hr:=Xcv (P:=P) c.w t type et (c.ρ o).ety i hu hi (c.ρ o).blk n (c.ρ o).cap cur hcb ⟨b,off,none⟩ xs.length cap news (by grind) hnc hn1 hroom hfit;have hi':i.size=(c.ρ o).esz:=by grind
   rw[hi'] at hr hfit;have hns:n*(c.ρ o).esz<=cur.toList.length:=by simp only[Array.length_toList];omega
   have hgrow:=hI.grow (id:=id) hid hH' hsp (x:={ es:=y.es++xs,esz:=te.size }) (new:=(cur.toList.take (n*(c.ρ o).esz)++news++cur.toList.drop (n*(c.ρ o).esz+news.length)).toArray) hcb
    (by grind)
    (by
     grind)
    hte' (by grind) (by simp) (by
     intro j e he;rcases hxsz j e he with ⟨hj,he⟩|⟨hj,he⟩
     ·obtain⟨g1,g2⟩:=hcr j e he;refine⟨g1,λk a ha=>?_⟩;obtain⟨v,h3,h4,h5⟩:=g2 k a ha;refine⟨hoks e (List.mem_of_getElem? he) a (List.mem_of_getElem? ha),v,?_,h4,h5⟩;have hk:k<(c.ρ o).esz:=by grind
      have h6:(j+1)*(c.ρ o).esz<=n*(c.ρ o).esz:=Nat.mul_le_mul_right _ hj
      grind
     ·refine⟨(hel _ e he).1,λk a ha=>?_⟩;obtain⟨r1,v,r2,r3⟩:=hnr _ e k a he ha;refine⟨r1,v,?_,r3⟩;have hk:k<(c.ρ o).esz:=by grind
      have hj2:j - n<xs.length:=(List.getElem?_eq_some_iff.1 he).1;have h6:(j - n+1)*(c.ρ o).esz<=xs.length*(c.ρ o).esz:=Nat.mul_le_mul_right _ hj2;have h7:j*(c.ρ o).esz=n*(c.ρ o).esz+(j - n)*(c.ρ o).esz:=by rw[<-Nat.add_mul];grind
      rw[Nat.add_mul] at h6;simp only[List.append_assoc,List.getElem?_toArray];rw[List.getElem?_append_right (by rw[List.length_take];omega),List.length_take,Nat.min_eq_left hns,h7,
       show n*(c.ρ o).esz+(j - n)*(c.ρ o).esz+k - n*(c.ρ o).esz=(j - n)*(c.ρ o).esz+k by omega,List.getElem?_append_left om]
      exact r2)
   obtain⟨h1,h2,h3⟩:=hgrow;refine⟨.slice (some ⟨(c.ρ o).blk,0,none⟩) (n+xs.length) (c.ρ o).cap,_,?_,h1,rfl,rfl,?_,.ref (.inr rfl),h2,h3,hown (c.ρ o) (.inr rfl)⟩
   ·simp only[execOp,resolve,invoke,builtin,List.map_toArray,List.map_cons,List.map_nil,hp,hxv,Sem.run_bind,Sem.run_pure,Result.andThen_ok,hr]
   ·have:=@X0m.ref ⟨c.w.setRow (c.ρ o).blk (cur.toList.take (n*(c.ρ o).esz)++news++cur.toList.drop (n*(c.ρ o).esz+news.length)).toArray,upd c.ρ id (c.ρ o),c.Sa,c.So,c.B⟩ id 0 (n+xs.length) (by simp only[Xk];omega);simpa[Xk] using this
  ·-- a new block
   let olds:List Value:=cur.toList.take (n*(c.ρ o).esz)
   have hi':i.size=(c.ρ o).esz:=by grind
   have hns:n*(c.ρ o).esz<=cur.size:=by simp_all [Nat.mul_le_mul_right]
   have hol:olds.length=n*(c.ρ o).esz:=by grind
   have holds:∀ (j:Nat) v,olds[j]?=some v->c.w.cell? ((⟨(c.ρ o).blk,0,none⟩:Addr).add j)=some v:=by
    intro j v hv;rw[Addr.add_lit,cell_of_row _ _ _ _ _ _ hcb,Nat.zero_add]
    grind
   have hfit:=growslice_fits (need:=n+xs.length) (old:=(c.ρ o).cap) (bytes:=i.bytes) om (by grind);have hr:=run_append_grow (P:=P) c.w t type et i te.zero hu hi hzi ⟨(c.ρ o).blk,0,none⟩ n (c.ρ o).cap olds (by rw[hol,hi']) holds ⟨b,off,none⟩ xs.length cap news (by rw[hnl,hi']) hnc om hml hfit;have hge:=grownCap_ge c.w (n+xs.length) (c.ρ o).cap et;have hIm:=hI.mark hH';have hadd:=hIm.addBlock (id:=id) hid (w':=c.w.drew.alloc (.cells (olds.toArray++news.toArray++Builtin.zeroCells te.zero.cells (grownCap c.w (n+xs.length) (c.ρ o).cap et - (n+xs.length))) et))
    (cur:=olds.toArray++news.toArray++Builtin.zeroCells te.zero.cells (grownCap c.w (n+xs.length) (c.ρ o).cap et - (n+xs.length))) (ety:=et) (cap:=grownCap c.w (n+xs.length) (c.ρ o).cap et) (esz:=te.size)
    rfl rfl rfl ⟨rfl,by first|exact Nat.le_refl _|exact Xho (Nat.le_succ _)⟩ (x:={ es:=y.es++xs,esz:=te.size,solo:=false })
    (by simp only[Array.size_append,List.size_toArray,size_zeroCells,hzsz,hnl,hol,<-hte',<-Nat.add_mul];grind)
    om rfl (by grind) (by
     intro j e he;rcases hxsz j e he with ⟨hj,he⟩|⟨hj,he⟩
     ·obtain⟨g1,g2⟩:=hcr j e he;refine⟨by rw[g1,hte'],λk a ha=>?_⟩;obtain⟨v,h3,h4,h5⟩:=g2 k a ha;refine⟨hoks e (List.mem_of_getElem? he) a (List.mem_of_getElem? ha),v,?_,h4,h5⟩;have hk:k<(c.ρ o).esz:=by grind
      have h6:(j+1)*(c.ρ o).esz<=n*(c.ρ o).esz:=Nat.mul_le_mul_right _ hj
      grind
     ·refine⟨by grind,λk a ha=>?_⟩;obtain⟨r1,v,r2,r3⟩:=hnr _ e k a he ha;refine⟨r1,v,?_,r3⟩;have hk:k<(c.ρ o).esz:=by grind
      have hj2:j - n<xs.length:=(List.getElem?_eq_some_iff.1 he).1;have h6:(j - n+1)*(c.ρ o).esz<=xs.length*(c.ρ o).esz:=Nat.mul_le_mul_right _ hj2;have h7:j*(c.ρ o).esz=n*(c.ρ o).esz+(j - n)*(c.ρ o).esz:=by rw[<-Nat.add_mul];grind
      rw[Nat.add_mul] at h6;rw[hte',Array.getElem?_append_left (by grind),Array.getElem?_append_right (by grind)];simp only[List.getElem?_toArray,List.size_toArray,hol];rw[show j*(c.ρ o).esz+k - n*(c.ρ o).esz=(j - n)*(c.ρ o).esz+k by omega];exact r2)
   obtain⟨h1,h2,h3⟩:=hadd;refine⟨.slice (some ⟨c.w.heap.size,0,none⟩) (n+xs.length) (grownCap c.w (n+xs.length) (c.ρ o).cap et),_,?_,h1,rfl,rfl,?_,.ref (.inr rfl),h2,?_,hown ⟨c.w.heap.size,grownCap c.w (n+xs.length) (c.ρ o).cap et,te.size,et⟩ (.inl (Nat.le_refl _))⟩
   ·simp only[execOp,resolve,invoke,builtin,List.map_toArray,List.map_cons,List.map_nil,hp,hxv,Sem.run_bind,Sem.run_pure,Result.andThen_ok,hr]
   ·have:=@X0m.ref ⟨c.w.drew.alloc (.cells (olds.toArray++news.toArray++Builtin.zeroCells te.zero.cells (grownCap c.w (n+xs.length) (c.ρ o).cap et - (n+xs.length))) et),
     upd c.ρ id ⟨c.w.heap.size,grownCap c.w (n+xs.length) (c.ρ o).cap et,te.size,et⟩,c.Sa,c.So,c.B⟩ id 0 (n+xs.length) (by simp only[Xk];omega)
    simpa[Xk] using this
   ·exact⟨h3.os,h3.tape,h3.output,h3.size,λq hq hn=>h3.block q hq λp z hz=>by
     by_cases hpo:p=o
     ·subst hpo;exact hn p y hH'
     ·rw[Xm _ _ hpo] at hz;exact hn p z hz⟩
 |@appendFull s x g t ti et te xs o n y hs hg hH hn hes hx hne ht hk hte hsz hlen hb =>
  have hH':=hsub _ _ hH;have hsv:=hE s;rw[hs] at hsv;obtain⟨hp,hle⟩:=hsv.ref_inv;simp only[Nat.zero_mul,Nat.sub_zero,Nat.zero_add] at hp hle;obtain⟨b,off,cap,esz,hxv,hel⟩:=Xpu hI (src hx) (hE x) hne;have hx0:0<xs.length:=List.length_pos_iff.2 hne;obtain⟨hMo,⟨⟨cur,hcb,hcs,hcr⟩,hfits,hpos',hsame⟩,hoks⟩:=hI.obj o y hH';have hte':te.size=(c.ρ o).esz:=by rw[<-hes,hsame]
  have hesz:esz=(c.ρ o).esz:=by
   rw[<-(hel 0 _ (List.getElem?_eq_getElem hx0)).1,hsz _ (List.getElem_mem hx0),hte']
  subst hesz;obtain⟨news,hnl,hnc,hn1,hnr⟩:=Xla hpos' hel;obtain⟨i,d,hi,_,hzi,_,hs',hby⟩:=(hT et te hte).parts;have hu:=X1i (hT t ti ht) hk;have hzsz:=(X9e (c:=c) (M:=M) (hT et te hte).zs om 0).2;have hml:((n+xs.length:Nat):Int)<=9223372036854775807:=by simp only[maxLen] at hlen;omega
  have hxsz:∀ (j:Nat) e,(y.es++xs)[j]?=some e->(j<n/\y.es[j]?=some e)\/(n<=j/\xs[j - n]?=some e):=by
   intro j e he;rw[List.getElem?_append] at he;split at he
   ·exact .inl ⟨by omega,he⟩
   ·exact .inr ⟨by omega,by rw[<-hn];exact he⟩
  have hown:∀ (p:Pl) {w':World},(c.w.heap.size<=p.blk\/(c.ρ o).blk=p.blk)->Xaf c H ⟨w',upd c.ρ id p,c.Sa,c.So,c.B⟩ ((Eff.new { es:=y.es++xs,esz:=te.size }).apply id H):=by
   intro p w' hp q z hz;by_cases hq:q=id
   ·subst hq;simp only[Xk];exact hp.imp id (λh=>⟨o,y,hH',h⟩)
   ·simp only[Eff.apply,Xm _ _ hq] at hz;simp only[Xm _ _ hq];exact .inr ⟨q,z,hz,rfl⟩
  have hgv:=hE g;rw[hg] at hgv;have hroom:¬ n+xs.length<=(c.ρ o).cap:=by
   cases hgv':σ g<;>rw[hgv'] at hgv<;>cases hgv<;>omega
  let olds:List Value:=cur.toList.take (n*(c.ρ o).esz)
  have hi':i.size=(c.ρ o).esz:=by rw[<-hs',hte']
  have hns:n*(c.ρ o).esz<=cur.size:=by rw[hcs];exact Nat.mul_le_mul_right _ hle
  have hol:olds.length=n*(c.ρ o).esz:=by simp only[olds,List.length_take,Array.length_toList];omega
  have holds:∀ (j:Nat) v,olds[j]?=some v->c.w.cell? ((⟨(c.ρ o).blk,0,none⟩:Addr).add j)=some v:=by
   intro j v hv;rw[Addr.add_lit,cell_of_row _ _ _ _ _ _ hcb,Nat.zero_add]
   grind
  have hfit:=growslice_fits (need:=n+xs.length) (old:=(c.ρ o).cap) (bytes:=i.bytes) om (by grind);have hr:=run_append_grow (P:=P) c.w t type et i te.zero hu hi hzi ⟨(c.ρ o).blk,0,none⟩ n (c.ρ o).cap olds (by rw[hol,hi']) holds ⟨b,off,none⟩ xs.length cap news (by rw[hnl,hi']) hnc om hml hfit;have hge:=grownCap_ge c.w (n+xs.length) (c.ρ o).cap et;have hadd:=hI.addBlock (id:=id) hid (w':=c.w.drew.alloc (.cells (olds.toArray++news.toArray++Builtin.zeroCells te.zero.cells (grownCap c.w (n+xs.length) (c.ρ o).cap et - (n+xs.length))) et))
   (cur:=olds.toArray++news.toArray++Builtin.zeroCells te.zero.cells (grownCap c.w (n+xs.length) (c.ρ o).cap et - (n+xs.length))) (ety:=et) (cap:=grownCap c.w (n+xs.length) (c.ρ o).cap et) (esz:=te.size)
   rfl rfl rfl ⟨rfl,by first|exact Nat.le_refl _|exact Xho (Nat.le_succ _)⟩ (x:={ es:=y.es++xs,esz:=te.size })
   (by simp only[Array.size_append,List.size_toArray,size_zeroCells,hzsz,hnl,hol,<-hte',<-Nat.add_mul];congr 1;omega)
   om rfl (by simp only[List.length_append];omega) (by
    intro j e he;rcases hxsz j e he with ⟨hj,he⟩|⟨hj,he⟩
    ·obtain⟨g1,g2⟩:=hcr j e he;refine⟨by rw[g1,hte'],λk a ha=>?_⟩;obtain⟨v,h3,h4,h5⟩:=g2 k a ha;refine⟨hoks e (List.mem_of_getElem? he) a (List.mem_of_getElem? ha),v,?_,h4,h5⟩;have hk:k<(c.ρ o).esz:=by grind
     have h6:(j+1)*(c.ρ o).esz<=n*(c.ρ o).esz:=Nat.mul_le_mul_right _ hj
     grind
    ·refine⟨by grind,λk a ha=>?_⟩;obtain⟨r1,v,r2,r3⟩:=hnr _ e k a he ha;refine⟨r1,v,?_,r3⟩;have hk:k<(c.ρ o).esz:=by grind
     have hj2:j - n<xs.length:=(List.getElem?_eq_some_iff.1 he).1;have h6:(j - n+1)*(c.ρ o).esz<=xs.length*(c.ρ o).esz:=Nat.mul_le_mul_right _ hj2;have h7:j*(c.ρ o).esz=n*(c.ρ o).esz+(j - n)*(c.ρ o).esz:=by rw[<-Nat.add_mul];grind
     rw[Nat.add_mul] at h6;rw[hte',Array.getElem?_append_left (by grind),Array.getElem?_append_right (by grind)];simp only[List.getElem?_toArray,List.size_toArray,hol];rw[show j*(c.ρ o).esz+k - n*(c.ρ o).esz=(j - n)*(c.ρ o).esz+k by omega];exact r2)
  obtain⟨h1,h2,h3⟩:=hadd;refine⟨.slice (some ⟨c.w.heap.size,0,none⟩) (n+xs.length) (grownCap c.w (n+xs.length) (c.ρ o).cap et),_,?_,h1,rfl,rfl,?_,.ref (.inr rfl),h2,h3,hown ⟨c.w.heap.size,grownCap c.w (n+xs.length) (c.ρ o).cap et,te.size,et⟩ (.inl (Nat.le_refl _))⟩
  ·simp only[execOp,resolve,invoke,builtin,List.map_toArray,List.map_cons,List.map_nil,hp,hxv,Sem.run_bind,Sem.run_pure,Result.andThen_ok,hr]
  ·have:=@X0m.ref ⟨c.w.drew.alloc (.cells (olds.toArray++news.toArray++Builtin.zeroCells te.zero.cells (grownCap c.w (n+xs.length) (c.ρ o).cap et - (n+xs.length))) et),
    upd c.ρ id ⟨c.w.heap.size,grownCap c.w (n+xs.length) (c.ρ o).cap et,te.size,et⟩,c.Sa,c.So,c.B⟩ id 0 (n+xs.length) (by simp only[Xk];omega)
   simpa[Xk] using this
end
end Go.Av


namespace Go.Av
variable [Gls]
def X5q (e:AV) (k:Nat) (x:AV):AV :=
 match e with
 |.agg cs=>match x with
  |.agg xs=>if k==0&&xs.length==cs.length then .agg xs else .agg (splice cs k xs)
  |_=>.agg (splice cs k [x])
 |_=>x.cells.headD e
inductive StR (T:Ty) (ev:Operand->AV) (H:Xz):Op->Xz->Prop
 |store {t p x o i k y e ti} (hp:ev p=.ptr o i k) (hH:H o=some y) (hs:y.solo=true) (he:y.es[i]?=some e) (ht:T t=some ti) (hw:(ev x).whole=true)
   (hsz:(ev x).cells.length=ti.size) (hle:k+ti.size<=e.cells.length) (hpos:ti.size≠0) :
   StR T ev H (.store t p x) (upd H o (some { y with es:=y.es.set i (X5q e k (ev x)) }))
section
variable {P:Program} {T:Ty} {c:Ctx} {H H':Xz} {M:Nat->Prop} {ev:Operand->AV} {σ:Operand->Value}
theorem X8s {e:AV} (h:∀ cs,e≠.agg cs):e.cells=[e]:=by
 cases e with
 |agg cs=>grind
 |_=>rfl
theorem Xqu {e x:AV} {k:Nat} (hle:k+x.cells.length<=e.cells.length) (hpos:x.cells.length≠0) (h1:∀ a∈x.cells,a.cells=[a]):(X5q e k x).cells=splice e.cells k x.cells:=by
 by_cases he:∃ cs,e=.agg cs
 ·obtain⟨cs,rfl⟩:=he;by_cases hx:∃ xs,x=.agg xs
  ·obtain⟨xs,rfl⟩:=hx;show(if k==0&&xs.length==cs.length then AV.agg xs else AV.agg (splice cs k xs)).cells=splice cs k xs;by_cases h:(k==0&&xs.length==cs.length)=true
   ·rw[if_pos h];simp only[Bool.and_eq_true,beq_iff_eq] at h;obtain⟨rfl,h⟩:=h;simp[splice,h,AV.cells]
   ·rw[if_neg h];rfl
  ·have hx':∀ xs,x≠.agg xs:=λxs h=>hx ⟨xs,h⟩;rw[X8s hx']
   cases x with
   |agg xs=>grind
   |_=>rfl
 ·have he':∀ cs,e≠.agg cs:=λcs h=>he ⟨cs,h⟩;have hec:=X8s he';rw[hec] at hle ⊢;simp only[List.length_singleton] at hle;obtain⟨y,hy⟩:∃ y,x.cells=[y]:=List.length_eq_one_iff.1 om
  simp_all [X5q,absurd,splice]
theorem X09v (hT:X7a P T) (hI:Inv c H M) (hE:∀ x,X0m c false (ev x) (σ x)) (hO:∀ x,(ev x).Ok M) {o:Oper} {H':Xz} (h:StR T ev H o.op H') :
  ∃ c',(execOp σ o).run P c.w=.ok .skip c'.w/\c.Le M c'/\c'.Sa=c.Sa/\c'.So=c.So/\Inv c' H' M/\Fr c H c'.w/\Xaf c H c' H':=by
 obtain⟨dst,op,type,pos,after,guard⟩:=o;simp only at h
 cases h with
 |@store t p x o i k y e ti hp hH hs he ht hw hsz hle hpos =>
 have hpv:=hE p;rw[hp] at hpv;have hcr:=Xbq (hE x) (hO x) hw;obtain⟨hMo,⟨⟨cur,hcb,hcs,hcc⟩,hfits,hpos',hsame⟩,hoks⟩:=hI.obj o y hH;obtain⟨hel,hecl⟩:=hcc i e he;have hi:i<y.es.length:=(List.getElem?_eq_some_iff.1 he).1;have hbound:(i+1)*(c.ρ o).esz<=(c.ρ o).cap*(c.ρ o).esz:=Nat.mul_le_mul_right _ om;rw[Nat.add_mul] at hbound;have hvl:(σ x).cells.size=ti.size:=by rw[<-hcr.len,hsz]
 have hone:∀ v∈(σ x).cells.toList,v.oneCell'=true:=by
  intro v hv;obtain⟨j,hj⟩:=List.getElem?_of_mem hv;have hj':(σ x).cells[j]?=some v:=by grind
  have hjl:j<(ev x).cells.length:=by grind
  exact(hcr.rel j _ v (List.getElem?_eq_getElem hjl) hj').2.1
 have hleaf:∀ a∈(ev x).cells,a.cells=[a]:=by
  intro a ha;obtain⟨j,hj⟩:=List.getElem?_of_mem ha;have hjl:j<(σ x).cells.size:=by grind
  obtain⟨r1,r2,_⟩:=hcr.rel j a _ hj (Array.getElem?_eq_getElem hjl)
  cases a with
  |agg cs=>obtain⟨us,hu⟩:=r1.agg_inv;grind [Value.oneCell']
  |_=>rfl
 have hcells:=Xqu (e:=e) (k:=k) (x:=ev x) (by grind) (by grind) hleaf;let new:Array Value:=(cur.toList.take (i*(c.ρ o).esz+k)++(σ x).cells.toList++cur.toList.drop (i*(c.ρ o).esz+k+(σ x).cells.toList.length)).toArray
 have hst:=run_storeCells_at P (c.ρ o).blk (i*(c.ρ o).esz+k) (c.ρ o).ety (σ x).cells.toList 0 cur c.w hcb (by grind) hone;simp only[Nat.add_zero] at hst;have hnsz:new.size=cur.size:=by
  grind
 have hget:∀ j,new[j]?=if i*(c.ρ o).esz+k<=j/\j<i*(c.ρ o).esz+k+ti.size then (σ x).cells[j - (i*(c.ρ o).esz+k)]? else cur[j]?:=by
  intro j;simp only[new,List.append_assoc,List.getElem?_toArray];rw[List.getElem?_append,List.getElem?_append]
  grind
 have hrow:(c.w.setRow (c.ρ o).blk new).heap[(c.ρ o).blk]?=some (.cells new (c.ρ o).ety (0,0)):=setRow_heap c.w _ cur new _ _ hcb;have hother:∀ b,b≠(c.ρ o).blk->(c.w.setRow (c.ρ o).blk new).heap[b]?=c.w.heap[b]?:=λb hb=>setRow_other c.w _ b new hb;have hstab:=hI.stab o y hH;have hle':c.Le M ⟨c.w.setRow (c.ρ o).blk new,c.ρ,c.Sa,c.So,c.B⟩ :=
  ⟨λ_ _=>rfl,λb hb=>hb,λb hb=>hb,λb hb=>hother b (λe=>by grind),rfl⟩
 have hM:∀ q z,upd H o (some { y with es:=y.es.set i (X5q e k (ev x)) }) q=some z->(q=o/\z={ y with es:=y.es.set i (X5q e k (ev x)) })\/(q≠o/\H q=some z):=by
  grind [Xk,Xm]
 have hne:∀ q z,q≠o->H q=some z->(c.ρ q).blk≠(c.ρ o).blk:=by
  intro q z hq hz hb;have:=(hI.sep o q y z hH hz (λe=>hq e.symm) hb.symm).1
  grind
 refine⟨⟨c.w.setRow (c.ρ o).blk new,c.ρ,c.Sa,c.So,c.B⟩,?_,hle',rfl,rfl,⟨?_,?_,?_,λb hb=>by simpa using hI.lt b hb,by simpa using hI.base,hI.own,?_,hI.glob.mono hle'⟩,⟨rfl,rfl,⟨rfl,Nat.le_refl _⟩,by simp,λb _ hb=>hother b (λe=>hb o y hH e.symm)⟩,λq z hz=>by
  grind⟩
 ·simp only[execOp,Instr.storeAt,hpv.ptr_inv,Instr.sureAddr,Sem.run_bind,Sem.run_pure,Result.andThen_ok,storeVar,X0w c.w (hT t ti ht),hvl,ne_eq,not_true_eq_false,if_false,hst];rfl
 ·intro q z hz;rcases hM q z hz with ⟨rfl,rfl⟩|⟨hq,hz⟩
  ·have hleE:k+(ev x).cells.length<=e.cells.length:=by grind
   have hgetE:∀ (j:Nat) e',(y.es.set i (X5q e k (ev x)))[j]?=some e'->(j=i/\e'=X5q e k (ev x))\/(j≠i/\y.es[j]?=some e'):=by
    grind
   refine⟨hMo,⟨⟨new,hrow,by grind,?_⟩,by grind,hpos',hsame⟩,?_⟩
   ·intro j e' he';rcases hgetE j e' he' with ⟨rfl,rfl⟩|⟨hj,he'⟩
    ·refine⟨?_,λk' a ha=>?_⟩
     ·grind [splice,List.length_append,List.length_take,List.length_drop]
     ·rw[hcells,getElem?_splice hleE] at ha;show ∃ v,new[j*(c.ρ q).esz+k']?=some v/\_;rw[hget];by_cases h1:k<=k'/\k'<k+(ev x).cells.length
      ·rw[if_pos h1] at ha;rw[if_pos om];have hkk:j*(c.ρ q).esz+k' - (j*(c.ρ q).esz+k)=k' - k:=by omega
       rw[hkk];have hlt:k' - k<(σ x).cells.size:=by omega
       obtain⟨r1,r2,_⟩:=hcr.rel (k' - k) a _ ha (Array.getElem?_eq_getElem hlt);exact⟨_,Array.getElem?_eq_getElem hlt,r1.mono hle' (.inr (by grind)),r2⟩
      ·rw[if_neg h1] at ha;rw[if_neg om];obtain⟨v,h3,h4,h5⟩:=hecl k' a ha;exact⟨v,h3,h4.mono hle' (.inr (hoks e (List.mem_of_getElem? he) a (List.mem_of_getElem? ha))),h5⟩
    ·obtain⟨g1,g2⟩:=hcc j e' he';refine⟨g1,λk' a ha=>?_⟩;obtain⟨v,h3,h4,h5⟩:=g2 k' a ha;have hk':k'<(c.ρ q).esz:=by grind
     refine⟨v,?_,h4.mono hle' (.inr (hoks e' (List.mem_of_getElem? he') a (List.mem_of_getElem? ha))),h5⟩;show new[j*(c.ρ q).esz+k']?=some v;rw[hget,if_neg ?_]
     ·exact h3
     ·rcases Nat.lt_or_gt_of_ne hj with hlt|hgt
      ·have:(j+1)*(c.ρ q).esz<=i*(c.ρ q).esz:=Nat.mul_le_mul_right _ hlt
       grind
      ·have:(i+1)*(c.ρ q).esz<=j*(c.ρ q).esz:=Nat.mul_le_mul_right _ hgt
       grind
   ·intro e' he' a ha;obtain⟨j,hj⟩:=List.getElem?_of_mem he';rcases hgetE j e' hj with ⟨rfl,rfl⟩|⟨_,hj⟩
    ·rw[hcells] at ha;unfold splice at ha;simp only[List.mem_append] at ha;rcases ha with (ha|ha)|ha
     ·grind
     ·obtain⟨m,hm⟩:=List.getElem?_of_mem ha;have hml:m<(σ x).cells.size:=by grind
      exact(hcr.rel m a _ hm (Array.getElem?_eq_getElem hml)).2.2
     grind
    grind
  ·obtain⟨g1,⟨⟨cu,hb,hs',hc⟩,hf,hpp,hse⟩,g3⟩:=hI.obj q z hz;refine⟨g1,⟨⟨cu,?_,hs',?_⟩,hf,hpp,hse⟩,g3⟩
   ·grind
   ·intro j e' he';obtain⟨h1,h2⟩:=hc j e' he';exact⟨h1,λk' a ha=>by obtain⟨v,h3,h4,h5⟩:=h2 k' a ha;exact⟨v,h3,h4.mono hle' (.inr (g3 e' (List.mem_of_getElem? he') a (List.mem_of_getElem? ha))),h5⟩⟩
 ·intro q q' z z' hz hz' hqq hb;rcases hM q z hz with ⟨h1,h2⟩|⟨hq,hzo⟩
  ·grind
  ·rcases hM q' z' hz' with ⟨h3,h4⟩|⟨hq',hzo'⟩
   ·grind
   ·exact hI.sep q q' z z' hzo hzo' hqq hb
 ·intro q z hz;rcases hM q z hz with ⟨h1,h2⟩|⟨hq,hz⟩
  ·grind
  ·exact hI.stab q z hz
 ·intro q z hz;rcases hM q z hz with ⟨h1,h2⟩|⟨hq,hz⟩
  ·subst h1;exact hI.low q y hH
  ·exact hI.low q z hz
end
end Go.Av


namespace Go.Av
variable [Gls]
section
variable {P:Program} {T:Ty} {c:Ctx} {H:Xz} {M:Nat->Prop} {ev:Operand->AV} {σ:Operand->Value}
theorem Xq1 (hI:Inv c H M) {o:Nat} {y:Obj} (hH:H o=some y) (hs:y.solo=true) {cur new:Array Value} (hcb:c.w.heap[(c.ρ o).blk]?=some (.cells cur (c.ρ o).ety (0,0)))
  (hnsz:new.size=cur.size) {es':List AV} (hlen:es'.length<=(c.ρ o).cap)
  (hrel:∀ (i:Nat) e,es'[i]?=some e->e.cells.length=(c.ρ o).esz/\∀ (k:Nat) a,e.cells[k]?=some a->a.Ok M/\∃ v,new[i*(c.ρ o).esz+k]?=some v/\X0m c false a v/\v.oneCell'=true) :
  let c':Ctx:=⟨c.w.setRow (c.ρ o).blk new,c.ρ,c.Sa,c.So,c.B⟩
  c.Le M c'/\Inv c' (upd H o (some { y with es:=es' })) M/\Fr c H c'.w/\Xaf c H c' (upd H o (some { y with es:=es' })):=by
 intro c';obtain⟨hMo,⟨⟨cur0,hcb0,hcs,hcc⟩,hfits,hpos',hsame⟩,hoks⟩:=hI.obj o y hH;obtain rfl:cur0=cur:=by grind
 have hrow:(c.w.setRow (c.ρ o).blk new).heap[(c.ρ o).blk]?=some (.cells new (c.ρ o).ety (0,0)):=setRow_heap c.w _ cur0 new _ _ hcb;have hother:∀ b,b≠(c.ρ o).blk->(c.w.setRow (c.ρ o).blk new).heap[b]?=c.w.heap[b]?:=λb hb=>setRow_other c.w _ b new hb;have hstab:=hI.stab o y hH;have hle':c.Le M c' :=
  ⟨λ_ _=>rfl,λb hb=>hb,λb hb=>hb,λb hb=>hother b (λe=>by grind),rfl⟩
 have hM:∀ q z,upd H o (some { y with es:=es' }) q=some z->(q=o/\z={ y with es:=es' })\/(q≠o/\H q=some z):=by
  intro q z hz;by_cases hq:q=o
  ·subst hq;rw[Xk] at hz;grind
  grind [Xm]
 have hne:∀ q z,q≠o->H q=some z->(c.ρ q).blk≠(c.ρ o).blk:=by
  intro q z hq hz hb;have:=(hI.sep o q y z hH hz (λe=>hq e.symm) hb.symm).1
  grind
 refine⟨hle',⟨?_,?_,?_,λb hb=>by simpa[c'] using hI.lt b hb,by simpa[c'] using hI.base,hI.own,?_,hI.glob.mono hle'⟩,⟨rfl,rfl,⟨rfl,Nat.le_refl _⟩,by simp[c'],λb _ hb=>hother b (λe=>hb o y hH e.symm)⟩,λq z hz=>by
  grind⟩
 ·intro q z hz;rcases hM q z hz with ⟨rfl,rfl⟩|⟨hq,hz⟩
  ·refine⟨hMo,⟨⟨new,hrow,by grind,λi e he=>?_⟩,hlen,hpos',hsame⟩,λe he a ha=>?_⟩
   ·obtain⟨h1,h2⟩:=hrel i e he;refine⟨h1,λk a ha=>?_⟩;obtain⟨h3,v,h4,h5,h6⟩:=h2 k a ha;exact⟨v,h4,h5.mono hle' (.inr h3),h6⟩
   grind [List.getElem?_of_mem]
  ·obtain⟨h1,⟨⟨cur1,g1,g2,g3⟩,g4,g5,g6⟩,h3⟩:=hI.obj q z hz;refine⟨h1,⟨⟨cur1,by grind,g2,λi e he=>?_⟩,g4,g5,g6⟩,h3⟩;obtain⟨k1,k2⟩:=g3 i e he;exact⟨k1,λk a ha=>by obtain⟨v,hv,hr,h7⟩:=k2 k a ha;exact⟨v,hv,hr.mono hle' (.inr (h3 e (List.mem_of_getElem? he) a (List.mem_of_getElem? ha))),h7⟩⟩
 ·intro q q' z z' hz hz' hqq hb;rcases hM q z hz with ⟨rfl,rfl⟩|⟨hq,hz1⟩
  ·grind
  ·rcases hM q' z' hz' with ⟨rfl,rfl⟩|⟨hq',hz2⟩
   ·grind
   ·exact hI.sep q q' z z' hz1 hz2 hqq hb
 ·intro q z hz;rcases hM q z hz with ⟨rfl,rfl⟩|⟨_,hz⟩
  ·exact hstab
  ·exact hI.stab q z hz
 ·intro q z hz;rcases hM q z hz with ⟨rfl,rfl⟩|⟨_,hz⟩
  ·exact hI.low q y hH
  ·exact hI.low q z hz
theorem X063 (hT:X7a P T) (hI:Inv c H M) (hE:∀ x,X0m c false (ev x) (σ x)) (hO:∀ x,(ev x).Ok M) {o:Oper} {s x g:Operand} {t et n m b:Nat} {ti te:TI} {xs:List AV} {y:Obj}
  (ho:o.op=.call { callee:=.builtin .append,args:=#[s,x],argTypes:=#[t,t] })
  (hs:ev s=.ref b 0 n) (hg:ev g=.mref b m) (hH:H b=some y) (hsolo:y.solo=true) (hn:n<=y.es.length) (hroom:n+xs.length<=m) (hes:y.esz=te.size)
  (hx:Xnb H (ev x) xs) (hne:xs≠[]) (ht:T t=some ti) (hk:ti.kind=.slice et) (hte:T et=some te) (hsz:∀ e∈xs,e.cells.length=te.size) :
  ∃ v c',(execOp σ o).run P c.w=.ok (.value v) c'.w/\c.Le M c'/\c'.Sa=c.Sa/\c'.So=c.So/\X0m c' false (.ref b 0 (n+xs.length)) v/\(AV.ref b 0 (n+xs.length)).Ok M /\
   Inv c' (upd H b (some { y with es:=y.es.take n++xs++y.es.drop (n+xs.length) })) M/\Fr c H c'.w/\Xaf c H c' (upd H b (some { y with es:=y.es.take n++xs++y.es.drop (n+xs.length) })):=by
 obtain⟨dst,op,type,pos,after,guard⟩:=o;simp only at ho;subst ho;have hsv:=hE s;rw[hs] at hsv;obtain⟨hp,hle⟩:=hsv.ref_inv;simp only[Nat.zero_mul,Nat.sub_zero,Nat.zero_add] at hp hle;have hgv:=hE g;rw[hg] at hgv;have hm:(c.ρ b).cap=m:=by cases hgv':σ g<;>rw[hgv'] at hgv<;>cases hgv<;>assumption
 obtain⟨b',off,cap,esz,hxv,hel⟩:=Xpu hI hx (hE x) hne;have hx0:0<xs.length:=List.length_pos_iff.2 hne;obtain⟨hMo,⟨⟨cur,hcb,hcs,hcr⟩,hfits,hpos',hsame⟩,hoks⟩:=hI.obj b y hH;have hte':te.size=(c.ρ b).esz:=by grind
 have hesz:esz=(c.ρ b).esz:=by
  rw[<-(hel 0 _ (List.getElem?_eq_getElem hx0)).1,hsz _ (List.getElem_mem hx0),hte']
 subst hesz;obtain⟨news,hnl,hnc,hn1,hnr⟩:=Xla hpos' hel;obtain⟨i,d,hi,_,hzi,_,hs',hby⟩:=(hT et te hte).parts;have hu:=X1i (hT t ti ht) hk;have hroom':n+xs.length<=(c.ρ b).cap:=by omega
 have hfit:n*i.size+news.length<=cur.size:=by
  rw[hnl,<-hs',hte',hcs,<-Nat.add_mul];exact Nat.mul_le_mul_right _ hroom'
 have hr:=Xcv (P:=P) c.w t type et (c.ρ b).ety i hu hi (c.ρ b).blk n (c.ρ b).cap cur hcb ⟨b',off,none⟩ xs.length cap news (by grind) hnc hn1 hroom' hfit;have hi':i.size=(c.ρ b).esz:=by grind
 rw[hi'] at hr hfit;have hns:n*(c.ρ b).esz<=cur.size:=by omega
 have hget:∀ j,(cur.toList.take (n*(c.ρ b).esz)++news++cur.toList.drop (n*(c.ρ b).esz+news.length)).toArray[j]? =
   if n*(c.ρ b).esz<=j/\j<n*(c.ρ b).esz+xs.length*(c.ρ b).esz then news[j - n*(c.ρ b).esz]? else cur[j]?:=by
  intro j;rw[List.getElem?_toArray,List.append_assoc]
  grind
 have hlen:(y.es.take n++xs++y.es.drop (n+xs.length)).length<=(c.ρ b).cap:=by
  grind
 have hge:∀ (j:Nat) e,(y.es.take n++xs++y.es.drop (n+xs.length))[j]?=some e->(n<=j/\j<n+xs.length/\xs[j - n]?=some e)\/(¬ (n<=j/\j<n+xs.length)/\y.es[j]?=some e):=by
  intro j e he;rw[List.append_assoc] at he;by_cases h1:j<n
  ·grind
  ·rw[List.getElem?_append_right (by grind),List.length_take,Nat.min_eq_left hn] at he
   grind [List.getElem?_append_left,List.getElem?_append_right]
 obtain⟨h1,h2,h3,h4⟩:=Xq1 hI hH hsolo (new:=(cur.toList.take (n*(c.ρ b).esz)++news++cur.toList.drop (n*(c.ρ b).esz+news.length)).toArray) hcb
  (by grind) hlen (by
   intro j e he;rcases hge j e he with ⟨ha,hb,he⟩|⟨hj,he⟩
   ·refine⟨(hel _ e he).1,λk a hka=>?_⟩;obtain⟨r1,v,r2,r3,r4⟩:=hnr _ e k a he hka;refine⟨r1,v,?_,r3,r4⟩;have hkk:k<(c.ρ b).esz:=by grind
    have h6:(j - n+1)*(c.ρ b).esz<=xs.length*(c.ρ b).esz:=Nat.mul_le_mul_right _ om;have h7:j*(c.ρ b).esz=n*(c.ρ b).esz+(j - n)*(c.ρ b).esz:=by rw[<-Nat.add_mul];grind
    rw[Nat.add_mul] at h6;rw[hget,if_pos om,h7,show n*(c.ρ b).esz+(j - n)*(c.ρ b).esz+k - n*(c.ρ b).esz=(j - n)*(c.ρ b).esz+k by omega];exact r2
   ·obtain⟨g1,g2⟩:=hcr j e he;refine⟨g1,λk a hka=>?_⟩;obtain⟨v,h3,h4,h5⟩:=g2 k a hka;refine⟨hoks e (List.mem_of_getElem? he) a (List.mem_of_getElem? hka),v,?_,h4,h5⟩;have hkk:k<(c.ρ b).esz:=by grind
    rw[hget,if_neg ?_]
    ·exact h3
    ·rintro⟨q1,q2⟩;by_cases hjn:j<n
     ·have h6:(j+1)*(c.ρ b).esz<=n*(c.ρ b).esz:=Nat.mul_le_mul_right _ hjn
      grind
     grind)
 refine⟨.slice (some ⟨(c.ρ b).blk,0,none⟩) (n+xs.length) (c.ρ b).cap,_,?_,h1,rfl,rfl,?_,.ref hMo,h2,h3,h4⟩
 ·simp only[execOp,resolve,invoke,builtin,List.map_toArray,List.map_cons,List.map_nil,hp,hxv,Sem.run_bind,Sem.run_pure,Result.andThen_ok,hr]
 ·have:=@X0m.ref ⟨c.w.setRow (c.ρ b).blk (cur.toList.take (n*(c.ρ b).esz)++news++cur.toList.drop (n*(c.ρ b).esz+news.length)).toArray,c.ρ,c.Sa,c.So,c.B⟩ b 0 (n+xs.length) (by grind)
  grind
end
end Go.Av


namespace Go.Av
variable [Gls]
def FR (R:Option Nat):Fence:={ fn:=λ_=>True,depth:=none,alive:=false,round:=R }
theorem Xql (P:Program) (R:Option Nat) (m:Machine):m.fenced P (FR R):=fenced_wide P m
theorem X064 (R:Option Nat) (n:Nat):(FR R).room n:=room_wide n
theorem Xv8 {R:Option Nat} {n:Nat} {P:Program} {f:FuncId} {args:Array Value} {w:World} {K:Ending->World->Prop} (h:Calls P f args w K):CallsIn (FR R) n P f args w K :=
 (callsIn_wide (n:=n)).2 h
theorem Xwf {R:Option Nat} {n:Nat} {P:Program} {row:String} {args:Array Value} {w:World} {K:Value->World->Prop} (h:Rows P row args w K):RowsIn (FR R) n P row args w K :=
 λc cs _=>let ⟨v,w',r,s⟩:=h c cs;⟨v,w',r,(stepsIn_wide (P:=P)).2 s⟩
theorem Oper.wpR1 {R:Option Nat} {P:Program} {o:Oper} {a:Act} {w:World} {K:Act->World->Prop} {Q:Exit->Act->World->Prop} (hd:∀ c,o.op≠.defer c) (h:o.wp P a w K Q):o.wpIn (FR R) 0 P a w K Q:=by
 refine⟨λ_ _=>trivial,?_⟩;rw[Oper.semAt_eq _ _ _ hd];unfold Oper.wp at h;generalize (execOp a.eval o).run P w=r at *
 cases r with
 |ok x w' =>
  cases x<;>simp only[Oper.uponIn,Oper.upon] at h ⊢ <;>
   first
    |exact h
    |exact⟨λhc=>Bool.noConfusion hc,CallsIn.mono (Xv8 h) (λe w'' he=>by cases e<;>exact he)⟩
    |exact⟨λhc=>Bool.noConfusion hc,RowsIn.mono (Xwf h) (λ_ _ he=>he)⟩
    |exact False.elim h
 |halt x w'=>cases x<;>simp only[Oper.uponIn,Oper.upon] at h ⊢<;>exact h
def Xl3 (o:Oper):Bool:=match o.op with|.defer _=>true|_=>false
def X2g:Code->Bool
 |.seq a b=>X2g a||X2g b
 |.cond _ a b=>X2g a||X2g b
 |.block _ c=>X2g c
 |.loop c=>X2g c
 |.scope _=>true
 |.region _ ops d=>d&&ops.toList.any Xl3
 |.rangeFunc ..=>true
 |_=>false
def RG (c:Code) (R:Option Nat):Prop:=X2g c=true->R=none
theorem RG.seq1 {a b:Code} {R:Option Nat} (h:RG (.seq a b) R):RG a R:=λha=>h (by simp[X2g,ha])
theorem RG.seq2 {a b:Code} {R:Option Nat} (h:RG (.seq a b) R):RG b R:=λha=>h (by simp[X2g,ha])
theorem RG.cond1 {x:Operand} {a b:Code} {R:Option Nat} (h:RG (.cond x a b) R):RG a R:=λha=>h (by simp[X2g,ha])
theorem RG.cond2 {x:Operand} {a b:Code} {R:Option Nat} (h:RG (.cond x a b) R):RG b R:=λha=>h (by simp[X2g,ha])
theorem RG.block {id:Nat} {c:Code} {R:Option Nat} (h:RG (.block id c) R):RG c R:=h
theorem RG.scope {c:Code} {R:Option Nat} (h:RG (.scope c) R):RG c R:=λ_=>h rfl
theorem RG.none {c:Code}:RG c none:=λ_=>rfl
abbrev wpR (R:Option Nat) (P:Program) (c:Code) (Q:Exit->Act->World->Prop) (a:Act) (w:World):Prop:=c.wpIn (FR R) 0 P Q a w
theorem Xnl {P:Program} {c:Code} {Q:Exit->Act->World->Prop} {a:Act} {w:World}:wpR none P c Q a w↔c.wp P Q a w:=wpIn_wide
theorem X04x {R:Option Nat} {P:Program} {ops:Array Oper} {Q:Exit->Act->World->Prop} (hno:∀ a w,¬ Q .outgrown a w) (hd:ops.toList.any Xl3=false) {i:Nat} {K:Act->World->Prop} {a:Act} {w:World} (h:wpOp P ops Q i K a w):wpOpIn (FR R) 0 P ops Q i K a w:=by
 unfold wpOp at h;unfold wpOpIn
 cases ho:ops[i]? with
 |none=>grind
 |some o =>
  rw[ho] at h;simp only at h ⊢;by_cases hw:Region.wanted o (yielded ops a.tmps)=true
  ·rw[if_pos hw] at h ⊢;refine Oper.wpR1 (λc hc=>?_) (h.resolve_right λ⟨_,a,w,hq⟩=>hno a w hq)
   grind [Array.mem_of_getElem?,List.any_eq_false,Xl3,absurd]
  ·rw[if_neg hw] at h ⊢;exact⟨λ_ _=>trivial,h⟩
theorem X00q {R:Option Nat} {P:Program} {md:Region.Mode} {ops:Array Oper} {Q:Exit->Act->World->Prop} (hno:∀ a w,¬ Q .outgrown a w) (hd:ops.toList.any Xl3=false):∀ (fuel:Nat) (listed:Array Bool) (a:Act) (w:World),wpAny P md ops Q fuel listed a w->wpAnyIn (FR R) 0 P md ops Q fuel listed a w:=by
 intro fuel
 induction fuel with
 |zero=>intro listed a w h;exact h
 |succ fuel ih=>intro listed a w h;exact⟨h.1,λi hi=>wpOpIn_mono (λa w=>ih _ a w) (X04x hno hd (h.2 i hi))⟩
theorem Xax {R:Option Nat} {P:Program} {id:Nat} {ops:Array Oper} {Q:Exit->Act->World->Prop} {a:Act} {w:World} (hm:P.follows .mixedOrders=true) (hR:RG (.region id ops true) R) (hno:∀ a w,¬ Q .outgrown a w)
  (h:wpAny P .any ops Q ops.size (Array.replicate ops.size false) a { w with drawn:=w.drawn+1 }):wpR R P (.region id ops true) Q a w:=by
 cases hd:ops.toList.any Xl3 with
 |true=>obtain rfl:=hR (by assumption);exact Xnl.2 (wp_region_any hm h)
 |false=>grind [wpIn_region_any,X00q]
def opW:Option (Option Nat)->Program->Oper->Act->World->(Act->World->Prop)->(Exit->Act->World->Prop)->Prop
 |none,P,o,a,w,K,Q=>o.wp P a w K Q
 |some R,P,o,a,w,K,Q=>o.wpIn (FR R) 0 P a w K Q
theorem Oper.wpR {R:Option (Option Nat)} {P:Program} {o:Oper} {a:Act} {w:World} {K:Act->World->Prop} {Q:Exit->Act->World->Prop} (hd:∀ c,o.op≠.defer c) (h:o.wp P a w K Q):opW R P o a w K Q:=by
 cases R with
 |none=>exact h
 |some R=>exact Oper.wpR1 hd h
def Xno:Option (Option Nat)->Program->Array Oper->(Exit->Act->World->Prop)->List Oper->Act->World->Prop
 |none,P,ops,Q,l,a,w=>wpList P ops Q l a w
 |some R,P,ops,Q,l,a,w=>wpListIn (FR R) 0 P ops Q l a w
section
variable {R:Option (Option Nat)} {P:Program} {ops:Array Oper} {Q:Exit->Act->World->Prop} {a:Act} {w:World} {rest:List Oper} {o:Oper}
theorem Xrc (h:Q .normal a w):Xno R P ops Q [] a w:=by
 cases R with
 |none=>exact h
 |some R=>exact h
theorem X4a (h:∀ K:Act->World->Prop,(∀ a w,Xno R P ops Q rest a w->K a w)->if Region.wanted o (yielded ops a.tmps) then opW R P o a w K Q else K (a.put o.dst undef) w):Xno R P ops Q (o::rest) a w:=by
 cases R with
 |none=>exact wpList_step h
 |some R =>
  refine wpListIn_step λK hK=>?_;have:=h K hK;by_cases hw:Region.wanted o (yielded ops a.tmps)=true
  ·rw[if_pos hw] at this ⊢;exact this
  ·rw[if_neg hw] at this ⊢;exact⟨λ_ _=>trivial,this⟩
end
@[simp] theorem put_defers (a:Act) (d:Option Nat) (v:Value):(a.put d v).defers=a.defers:=by cases d<;>rfl
end Go.Av


namespace Go.Av
variable [Gls]
structure St where
 A:Nat->AV
 H:Xz
 n:Nat
def X52:AV->AV
 |.cond b v=>bif b then v else .junk
 |x=>x
def evA (A:Nat->AV):Operand->AV
 |.tmp t=>X52 (A t)
 |.const v=>X1m v
 |.global g=>.sc (.pointer (some ⟨g,0,none⟩))
 |.func f=>.fn f []
structure Reach (c0:Ctx) (H0:Xz) (n0:Nat) (c:Ctx) (H:Xz):Prop where
 rho:∀ o,o<n0->c.ρ o=c0.ρ o
 os:c.w.os=c0.w.os
 tape:c.w.tape=c0.w.tape
 output:c.w.output=c0.w.output/\dr c0.w<=dr c.w
 size:c0.w.heap.size<=c.w.heap.size
 block:∀ b,b<c0.w.heap.size->(∀ o x,H0 o=some x->(c0.ρ o).blk≠b)->c.w.heap[b]?=c0.w.heap[b]?
 stable:∀ b,c0.Sa b\/c0.So b->c.w.heap[b]?=c0.w.heap[b]?
 sa:c.Sa=c0.Sa
 so1:∀ b,c0.So b->c.So b
 so2:∀ b,c.So b->c0.So b\/c0.w.heap.size<=b\/∃ o x,H0 o=some x/\(c0.ρ o).blk=b
 B:c.B=c0.B
 own:∀ o x,H o=some x->c0.w.heap.size<=(c.ρ o).blk\/∃ o' x',H0 o'=some x'/\(c0.ρ o').blk=(c.ρ o).blk
structure X38 (nt:Nat) (c0:Ctx) (H0:Xz) (n0:Nat) (c:Ctx) (s:St) (act:Act):Prop where
 inv:Inv c s.H (·<s.n)
 solo:∀ o x,s.H o=some x->x.solo=true/\x.spent=false
 frame:∀ t,X0m c false (s.A t) (act.tmps.getD t undef)
 ok:∀ t,(s.A t).Ok (·<s.n)
 size:act.tmps.size=nt
 reach:Reach c0 H0 n0 c s.H
 le0:n0<=s.n
theorem Reach.refl (c:Ctx) (H:Xz) (n0:Nat):Reach c H n0 c H :=
 ⟨λ_ _=>rfl,rfl,rfl,⟨rfl,Nat.le_refl _⟩,Nat.le_refl _,λ_ _ _=>rfl,λ_ _=>rfl,rfl,λ_ h=>h,λ_ h=>.inl h,rfl,λo x h=>.inr ⟨o,x,h,rfl⟩⟩
theorem Reach.step {c0 c c':Ctx} {H0 H H':Xz} {n0:Nat} {M:Nat->Prop} (h:Reach c0 H0 n0 c H) (hle:c.Le M c') (hM:∀ q,q<n0->M q) (hsa:c'.Sa=c.Sa) (hso:∀ b,c'.So b->c.So b\/c.w.heap.size<=b\/∃ o x,H o=some x/\(c.ρ o).blk=b)
  (hfr:Fr c H c'.w) (hown:Xaf c H c' H'):Reach c0 H0 n0 c' H':=by
 refine⟨λo ho=>(hle.rho o (hM o ho)).trans (h.rho o ho),hfr.os.trans h.os,hfr.tape.trans h.tape,⟨hfr.output.1.trans h.output.1,Nat.le_trans h.output.2 hfr.output.2⟩,Nat.le_trans h.size hfr.size,?_,?_,hsa.trans h.sa,λb hb=>hle.so b (h.so1 b hb),?_,hle.B.trans h.B,?_⟩
 ·intro b hb hn;rw[hfr.block b (Nat.lt_of_lt_of_le hb h.size) ?_]
  ·exact h.block b hb hn
  ·intro o x hx he;rcases h.own o x hx with h1|⟨o',x',h1,h2⟩
   ·omega
   ·exact hn o' x' h1 (h2.trans he)
 ·intro b hb;rw[hle.heap b ?_]
  ·exact h.stable b hb
  ·exact hb.imp (λx=>by rw[h.sa];exact x) (h.so1 b)
 ·intro b hb;rcases hso b hb with h1|h1|⟨q,y,h1,h2⟩
  ·exact h.so2 b h1
  ·exact .inr (.inl (Nat.le_trans h.size h1))
  ·rcases h.own q y h1 with h3|⟨q',y',h3,h4⟩
   ·exact .inr (.inl om)
   ·exact .inr (.inr ⟨q',y',h3,h4.trans h2⟩)
 ·intro o x hx;rcases hown o x hx with h1|⟨q,y,h1,h2⟩
  ·exact .inl (Nat.le_trans h.size h1)
  ·rw[<-h2];exact h.own q y h1
theorem Xpt {c:Ctx} {a:AV} {v:Value} (h:X0m c false a v):X0m c false (X52 a) v:=by
 unfold X52;split
 ·rename_i b x
  cases h with
  |cond h hn=>cases b with
   |true=>exact h rfl
   |false=>exact .junk
 ·exact h
theorem Xsn {M:Nat->Prop} {a:AV} (h:a.Ok M):(X52 a).Ok M:=by
 unfold X52;split
 ·rename_i b x
  cases h with
  |cond h=>cases b with
   |true=>exact h
   |false=>exact .junk
 ·exact h
section
variable {nt n0:Nat} {c0 c:Ctx} {H0:Xz} {s:St} {act:Act}
theorem X38.ev (g:X38 nt c0 H0 n0 c s act) (x:Operand):X0m c false (evA s.A x) (act.eval x):=by
 cases x with
 |tmp t=>exact Xpt (g.frame t)
 |const v=>exact X7r c false v
 |global k=>exact .sc
 |func f=>exact .fn (λ_=>rfl) (by simp) (λi a v ha _=>by simp at ha)
theorem X38.evOk (g:X38 nt c0 H0 n0 c s act) (x:Operand):(evA s.A x).Ok (·<s.n):=by
 cases x with
 |tmp t=>exact Xsn (g.ok t)
 |const v=>exact X9i _ v
 |global k=>exact .sc
 |func f=>exact .fn (λa ha=>by simp at ha)
end
def X65 (A:Nat->AV) (d:Option Nat) (a:AV):Nat->AV :=
 match d with
 |some d=>upd A d a
 |none=>A
theorem Xgk {tmps:Array Value} {d t:Nat} {v u:Value} (hd:d<tmps.size):(tmps.setIfInBounds d v).getD t u=if t=d then v else tmps.getD t u:=by
 by_cases h:t=d
 ·simp_all
 ·rw[if_neg h];simp only[Array.getD_eq_getD_getElem?]
  grind
theorem X38.next {nt n0:Nat} {c0 c c':Ctx} {H0:Xz} {s:St} {act:Act} (g:X38 nt c0 H0 n0 c s act) {H':Xz} {n':Nat} {dst:Option Nat} {a:AV} {v:Value}
  (hd:∀ d,dst=some d->d<nt) (hle:c.Le (·<s.n) c') (hsa:c'.Sa=c.Sa) (hso:∀ b,c'.So b->c.So b\/c.w.heap.size<=b\/∃ o x,s.H o=some x/\(c.ρ o).blk=b) (hfr:Fr c s.H c'.w) (hown:Xaf c s.H c' H')
  (hI:Inv c' H' (·<n')) (hs:∀ o x,H' o=some x->x.solo=true/\x.spent=false) (hn:s.n<=n') (hv:X0m c' false a v) (hok:a.Ok (·<n')) :
  X38 nt c0 H0 n0 c' ⟨X65 s.A dst a,H',n'⟩ (act.put dst v):=by
 refine⟨hI,hs,?_,?_,?_,g.reach.step hle (λq hq=>Nat.lt_of_lt_of_le hq g.le0) hsa hso hfr hown,Nat.le_trans g.le0 hn⟩
 ·intro t
  cases dst with
  |none=>exact(g.frame t).mono hle (.inr (g.ok t))
  |some d =>
   simp only[X65,Act.put];rw[Xgk (by rw[g.size];grind)];by_cases h:t=d
   ·subst h;rw[if_pos rfl,Xk];exact hv
   ·rw[if_neg h,Xm _ _ h];exact(g.frame t).mono hle (.inr (g.ok t))
 ·intro t
  cases dst with
  |none=>exact(g.ok t).mono (λq hq=>Nat.lt_of_lt_of_le hq hn)
  |some d =>
   simp only[X65];by_cases h:t=d
   ·subst h;rw[Xk];exact hok
   ·rw[Xm _ _ h];exact(g.ok t).mono (λq hq=>Nat.lt_of_lt_of_le hq hn)
 ·cases dst with
  |none=>exact g.size
  |some d=>simpa[Act.put] using g.size
def OpR (P:Program) (nt:Nat) (o:Oper) (s:St) (R:AV->Xz->Nat->Prop):Prop :=
 ∀ (c0:Ctx) (H0:Xz) (n0:Nat) (c:Ctx) (act:Act),X38 nt c0 H0 n0 c s act->∀ (K:Act->World->Prop) (Q:Exit->Act->World->Prop),
  (∀ c' a H' n' v,R a H' n'->(∀ dst:Option Nat,(∀ d,dst=some d->d<nt)->X38 nt c0 H0 n0 c' ⟨X65 s.A dst a,H',n'⟩ (act.put dst v))->K (act.put o.dst v) c'.w) ->
  ∀ R,opW R P o act c.w K Q
theorem OpR.mono {P:Program} {nt:Nat} {o:Oper} {s:St} {R R':AV->Xz->Nat->Prop} (h:OpR P nt o s R) (hr:∀ a H n,R a H n->R' a H n):OpR P nt o s R' :=
 λc0 H0 n0 c act g K Q hK R=>h c0 H0 n0 c act g K Q (λc' a H' n' v hR hg=>hK c' a H' n' v (hr _ _ _ hR) hg) R
section
variable {P:Program} {T:Ty} {nt:Nat} {o:Oper} {s:St}
theorem OpR.pu (hT:X7a P T) {a:AV} (h:Pu T (evA s.A) s.H o.op a):OpR P nt o s (λa' H' n'=>a'=a/\H'=s.H/\n'=s.n):=by
 intro c0 H0 n0 c act g K Q hK R;obtain⟨v,h1,h2,h3⟩:=X06b hT g.inv g.ev g.evOk h;refine Oper.wpR (λd hd=>by rw[hd] at h;cases h) ?_;unfold Oper.wp;rw[h1];exact hK c a s.H s.n v ⟨rfl,rfl,rfl⟩ λdst hd=>g.next hd (.refl c) rfl (λb hb=>.inl hb) (.refl c s.H) (λq x hx=>.inr ⟨q,x,hx,rfl⟩) g.inv g.solo (Nat.le_refl _) h2 h3
def glA:List (Nat×List Value)->Nat->AV
 |[],g=>.sc (.pointer (some ⟨g,0,none⟩))
 |(b,vs)::r,g=>bif Nat.beq b g then .elem false (.agg (vs.map .sc)) 0 else glA r g
def evG (A:Nat->AV):Operand->AV
 |.global g=>glA Gls.l g
 |x=>evA A x
theorem X07k {c:Ctx} (h:GF c) (d:Bool) (g:Nat):∀ l:List (Nat×List Value),(∀ p∈l,p∈Gls.l)->X0m c d (glA l g) (.pointer (some ⟨g,0,none⟩)):=by
 intro l
 induction l with
 |nil=>intro _;exact .sc
 |cons p r ih =>
  intro hl;obtain⟨b,vs⟩:=p;show X0m c d (bif Nat.beq b g then _ else glA r g) _
  cases hb:Nat.beq b g with
  |true =>
   have:=Nat.eq_of_beq_eq_true hb;subst this;exact h.rel (hl _ List.mem_cons_self) d
  |false=>grind
theorem X0bk (M:Nat->Prop) (g:Nat):∀ l:List (Nat×List Value),(glA l g).Ok M:=by
 intro l
 induction l with
 |nil=>exact .sc
 |cons p r ih =>
  obtain⟨b,vs⟩:=p;show(bif Nat.beq b g then _ else glA r g:AV).Ok M
  cases Nat.beq b g with
  |true=>exact .elem
  |false=>exact ih
theorem OpR.puG (hT:X7a P T) {a:AV} (h:Pu T (evG s.A) s.H o.op a):OpR P nt o s (λa' H' n'=>a'=a/\H'=s.H/\n'=s.n):=by
 intro c0 H0 n0 c act g K Q hK R;have hE:∀ x,X0m c false (evG s.A x) (act.eval x):=by
  intro x
  cases x with
  |global k=>exact X07k g.inv.glob false k Gls.l (λ_ h=>h)
  |tmp t=>exact g.ev (.tmp t)
  |const v=>exact g.ev (.const v)
  |func f=>exact g.ev (.func f)
 have hO:∀ x,(evG s.A x).Ok (·<s.n):=by
  intro x
  cases x with
  |global k=>exact X0bk _ k Gls.l
  |tmp t=>exact g.evOk (.tmp t)
  |const v=>exact g.evOk (.const v)
  |func f=>exact g.evOk (.func f)
 obtain⟨v,h1,h2,h3⟩:=X06b hT g.inv hE hO h;refine Oper.wpR (λd hd=>by rw[hd] at h;cases h) ?_;unfold Oper.wp;rw[h1];exact hK c a s.H s.n v ⟨rfl,rfl,rfl⟩ λdst hd=>g.next hd (.refl c) rfl (λb hb=>.inl hb) (.refl c s.H) (λq x hx=>.inr ⟨q,x,hx,rfl⟩) g.inv g.solo (Nat.le_refl _) h2 h3
def Eff.seq (id:Nat) (H:Xz):Eff->Xz
 |.none=>H
 |.new x=>upd H id (some x)
 |.app old x=>upd (upd H old Option.none) id (some x)
theorem Inv.forget {c:Ctx} {H H':Xz} {M:Nat->Prop} (hI:Inv c H M)
  (h:∀ o x,H' o=some x->∃ y,H o=some y/\y.es=x.es/\y.esz=x.esz/\(x.spent=false->y.spent=false))
  (hs:∀ o o' x x',H' o=some x->H' o'=some x'->o≠o'->(c.ρ o).blk=(c.ρ o').blk->x.solo=false/\(x.spent=false->x'.spent=true)):Inv c H' M:=by
 refine⟨?_,?_,?_,hI.lt,hI.base,hI.own,?_,hI.glob⟩
 ·intro o x hx;obtain⟨y,hy,he,hz,_⟩:=h o x hx;obtain⟨h1,⟨h2,h3,h4,h5⟩,h6⟩:=hI.obj o y hy;rw[he] at h2 h3 h6;rw[hz] at h5;exact⟨h1,⟨h2,h3,h4,h5⟩,h6⟩
 ·intro o o' x x' hx hx' hne hb;obtain⟨h1,h2⟩:=hs o o' x x' hx hx' hne hb;refine⟨h1,λhsp=>⟨h2 hsp,?_⟩⟩;obtain⟨y,hy,he,hz,hq⟩:=h o x hx;obtain⟨y',hy',he',hz',_⟩:=h o' x' hx';have:=((hI.sep o o' y y' hy hy' hne hb).2 (hq hsp)).2
  grind
 ·intro o x hx;obtain⟨y,hy,_⟩:=h o x hx;exact hI.stab o y hy
 ·intro o x hx;obtain⟨y,hy,_⟩:=h o x hx;exact hI.low o y hy
theorem OpR.mk (hT:X7a P T) {a:AV} {e:Eff} (h:Mk T (evA s.A) s.H s.n o.op a e) (hx:∀ old x,e=.app old x\/e=.new x->x.solo=true/\x.spent=false) :
  OpR P nt o s (λa' H' n'=>a'=a/\H'=e.seq s.n s.H/\n'=s.n+1):=by
 intro c0 H0 n0 c act g K Q hK R;obtain⟨v,c',h1,hle,hsa,hso,hv,hok,hI,hfr,hown⟩:=X0as hT g.inv (λq x h=>h) (Nat.lt_irrefl s.n) g.ev g.evOk h;refine Oper.wpR (λd hd=>by rw[hd] at h;cases h) ?_;unfold Oper.wp;rw[h1];have hlt:∀ q,(q<s.n\/q=s.n)->q<s.n+1:=λq hq=>by omega
 have hI1:Inv c' (e.apply s.n s.H) (·<s.n+1):=hI.more hlt;have key:Inv c' (e.seq s.n s.H) (·<s.n+1)/\(∀ o x,e.seq s.n s.H o=some x->x.solo=true/\x.spent=false)/\Xaf c s.H c' (e.seq s.n s.H):=by
  cases e with
  |none=>exact⟨hI1,g.solo,hown⟩
  |new x =>
   refine⟨hI1,λo y hy=>?_,hown⟩;simp only[Eff.seq] at hy;by_cases ho:o=s.n
   ·subst ho;rw[Xk] at hy;simp_all
   ·rw[Xm _ _ ho] at hy;exact g.solo o y hy
  |app old x =>
   have hxs:=hx old x (.inl rfl);have hcase:∀ o y,(Eff.app old x).seq s.n s.H o=some y->(o=s.n/\y=x)\/(o≠s.n/\o≠old/\s.H o=some y):=by
    intro o y hy;simp only[Eff.seq] at hy;by_cases ho:o=s.n
    ·subst ho;rw[Xk] at hy;grind
    grind [Xm,Xk]
   have hback:∀ o y,(Eff.app old x).seq s.n s.H o=some y->∃ z,(Eff.app old x).apply s.n s.H o=some z/\z.es=y.es/\z.esz=y.esz/\(y.spent=false->z.spent=false):=by
    intro o y hy;rcases hcase o y hy with ⟨rfl,rfl⟩|⟨h1,h2,h3⟩
    ·exact⟨_,Xk _ _ _,rfl,rfl,λh=>h⟩
    ·exact⟨y,by simp_all [Eff.apply,Xm],rfl,rfl,λh=>h⟩
   have hsep:∀ o o' y y',(Eff.app old x).seq s.n s.H o=some y->(Eff.app old x).seq s.n s.H o'=some y'->o≠o'->(c'.ρ o).blk≠(c'.ρ o').blk:=by
    intro o o' y y' hy hy' hne hb;obtain⟨z,hz,_,_,hsp⟩:=hback o y hy;obtain⟨z',hz',_,_,hsp'⟩:=hback o' y' hy';have hy0:y.spent=false:=by rcases hcase o y hy with ⟨_,rfl⟩|⟨_,_,h3⟩;exact hxs.2;exact(g.solo o y h3).2
    have hy0':y'.spent=false:=by rcases hcase o' y' hy' with ⟨_,rfl⟩|⟨_,_,h3⟩;exact hxs.2;exact(g.solo o' y' h3).2
    have:=((hI1.sep o o' z z' hz hz' hne hb).2 (hsp hy0)).1
    grind
   refine⟨hI1.forget hback λo o' y y' hy hy' hne hb=>absurd hb (hsep o o' y y' hy hy' hne),λo y hy=>?_,λo y hy=>?_⟩
   ·rcases hcase o y hy with ⟨_,rfl⟩|⟨_,_,h3⟩
    ·exact hxs
    ·exact g.solo o y h3
   ·obtain⟨z,hz,_⟩:=hback o y hy;exact hown o z hz
 exact hK c' a _ _ v ⟨rfl,rfl,rfl⟩ λdst hd=>g.next hd hle hsa (λb hb=>.inl (by grind)) hfr key.2.2 key.1 key.2.1 (Nat.le_succ _) hv (hok.mono hlt)
theorem StR.solo {T:Ty} {ev:Operand->AV} {H H':Xz} {op:Op} (h:StR T ev H op H') (hs:∀ o x,H o=some x->x.solo=true/\x.spent=false) :
  ∀ o x,H' o=some x->x.solo=true/\x.spent=false:=by
 cases h with
 |@store t p x o i k y e ti hp hH hs' he ht hw hsz hle hpos =>
  grind [Xk,Xm]
theorem OpR.st (hT:X7a P T) {H':Xz} (h:StR T (evA s.A) s.H o.op H'):OpR P nt o s (λa' H'' n'=>a'=.sc undef/\H''=H'/\n'=s.n):=by
 intro c0 H0 n0 c act g K Q hK R;obtain⟨c',h1,hle,hsa,hso,hI,hfr,hown⟩:=X09v hT g.inv g.ev g.evOk h;refine Oper.wpR (λd hd=>by rw[hd] at h;cases h) ?_;unfold Oper.wp;rw[h1];have hsolo:=h.solo g.solo;exact hK c' _ _ _ undef ⟨rfl,rfl,rfl⟩ λdst hd=>g.next hd hle hsa (λb hb=>.inl (by grind)) hfr hown hI hsolo (Nat.le_refl _) .sc .sc
end
end Go.Av


namespace Go.Av
variable [Gls]
inductive Xp where
 |normal
 |exit (id:Nat)
 |ret
def Xp.of:Xp->Exit
 |.normal=>.normal
 |.exit id=>.exit id
 |.ret=>.ret
def CQ (nt:Nat) (c0:Ctx) (H0:Xz) (n0:Nat) (ds:List Deferred) (Q:Xp->St->Prop):Exit->Act->World->Prop :=
 λe act w=>∃ c s ae,c.w=w/\X38 nt c0 H0 n0 c s act/\act.defers=ds/\ae.of=e/\Q ae s
def Xr1 (P:Program) (nt n0:Nat) (code:Code) (Q:Xp->St->Prop) (s:St):Prop :=
 ∀ (c0:Ctx) (H0:Xz) (c:Ctx) (act:Act),X38 nt c0 H0 n0 c s act->∀ R,RG code R->wpR R P code (CQ nt c0 H0 n0 act.defers Q) act c.w
section
variable {P:Program} {nt n0:Nat} {s:St} {Q:Xp->St->Prop}
theorem Xr1.skip (h:Q .normal s):Xr1 P nt n0 .skip Q s:=λ_ _ c _ g _ _=>wpIn_skip ⟨c,s,.normal,rfl,g,rfl,rfl,h⟩
theorem Xr1.label {l:Nat} (h:Q .normal s):Xr1 P nt n0 (.label l) Q s:=λ_ _ c _ g _ _=>wpIn_label ⟨c,s,.normal,rfl,g,rfl,rfl,h⟩
theorem Xr1.exit {id:Nat} (h:Q (.exit id) s):Xr1 P nt n0 (.exit id) Q s:=λ_ _ c _ g _ _=>wpIn_exit ⟨c,s,.exit id,rfl,g,rfl,rfl,h⟩
theorem Xr1.ret (h:Q .ret s):Xr1 P nt n0 .ret Q s:=λ_ _ c _ g _ _=>wpIn_ret ⟨c,s,.ret,rfl,g,rfl,rfl,h⟩
mutual
def AV.ren (θ:Nat->Nat):AV->AV
 |.agg cs=>.agg (AV.rens θ cs)
 |.tup cs=>.tup (AV.rens θ cs)
 |.ref o off len=>.ref (θ o) off len
 |.ptr o i k=>.ptr (θ o) i k
 |.mref o m=>.mref (θ o) m
 |.fn f caps=>.fn f (AV.rens θ caps)
 |.cond b v=>.cond b (AV.ren θ v)
 |.mv f v=>.mv f (AV.ren θ v)
 |.junk=>.junk
 |.sc v=>.sc v
 |.nils=>.nils
 |.list own es=>.list own es
 |.elem own e k=>.elem own e k
def AV.rens (θ:Nat->Nat):List AV->List AV
 |[]=>[]
 |a::r=>AV.ren θ a::AV.rens θ r
end
theorem Xnx (θ:Nat->Nat) (l:List AV):AV.rens θ l=l.map (AV.ren θ):=by
 induction l with
 |nil=>rfl
 |cons a r ih=>simp[AV.rens,ih]
theorem X0m.unren {c:Ctx} {θ:Nat->Nat}:∀ {d:Bool} {a:AV} {v:Value},X0m c d (a.ren θ) v->X0m { c with ρ:=λo=>c.ρ (θ o) } d a v:=by
 intro d a v h;generalize hb:a.ren θ=b at h
 induction h generalizing a with
 |junk=>cases a<;>simp[AV.ren] at hb;exact .junk
 |sc=>cases a<;>simp[AV.ren] at hb;subst hb;exact .sc
 |nils=>cases a<;>simp[AV.ren] at hb;exact .nils
 |@agg d cs vs hl h1 h ih =>
  cases a<;>simp[AV.ren] at hb
  rename_i cs';rw[Xnx] at hb;subst hb;refine .agg (by simpa using hl) h1 λi a v ha hv=>ih i (a.ren θ) v (by simp[ha]) hv rfl
 |@tup d cs vs hl h ih =>
  cases a<;>simp[AV.ren] at hb
  rename_i cs';rw[Xnx] at hb;subst hb;refine .tup (by simpa using hl) λi a v ha hv=>ih i (a.ren θ) v (by simp[ha]) hv rfl
 |listNil=>cases a<;>simp[AV.ren] at hb;obtain⟨rfl,rfl⟩:=hb;exact .listNil
 |list vf hne hS hn hcap hsz hcell h1 h ih =>
  cases a<;>simp[AV.ren] at hb
  obtain⟨rfl,rfl⟩:=hb;refine .list vf hne hS hn hcap hsz hcell h1 λi e k a he ha=>?_;have:=(h i e k a he ha);exact X0m.mono (M:=λ_=>False) (c:=c) (c':={ c with ρ:=λo=>c.ρ (θ o) }) ⟨λ_ h=>h.elim,λ_ h=>h,λ_ h=>h,λ_ _=>rfl,rfl⟩ this (.inl rfl)
 |@ref o off len hle =>
  cases a<;>simp[AV.ren] at hb
  obtain⟨rfl,rfl,rfl⟩:=hb;exact @X0m.ref { c with ρ:=λo=>c.ρ (θ o) } _ _ _ hle
 |@ptr o i k =>
  cases a<;>simp[AV.ren] at hb
  obtain⟨rfl,rfl,rfl⟩:=hb;exact @X0m.ptr { c with ρ:=λo=>c.ρ (θ o) } _ _ _
 |elem vf hS hcell h1 h ih =>
  cases a<;>simp[AV.ren] at hb
  obtain⟨rfl,rfl,rfl⟩:=hb;refine .elem vf hS hcell h1 λk a ha=>?_;exact X0m.mono (M:=λ_=>False) (c:=c) (c':={ c with ρ:=λo=>c.ρ (θ o) }) ⟨λ_ h=>h.elim,λ_ h=>h,λ_ h=>h,λ_ _=>rfl,rfl⟩ (h k a ha) (.inl rfl)
 |@fn d f caps vs hf hl h ih =>
  cases a<;>simp[AV.ren] at hb
  rename_i cs';rw[Xnx] at hb;obtain⟨rfl,rfl⟩:=hb;refine .fn (λh=>by have:=hf h;simpa using this) (by simpa using hl) λi a v ha hv=>ih i (a.ren θ) v (by simp[ha]) hv rfl
 |@cond b a' v h hn ih =>
  cases a<;>simp[AV.ren] at hb
  obtain⟨rfl,rfl⟩:=hb;exact .cond (λht=>ih ht rfl) hn
 |@mref o m h =>
  cases a<;>simp[AV.ren] at hb
  obtain⟨rfl,rfl⟩:=hb;exact @X0m.mref { c with ρ:=λo=>c.ρ (θ o) } _ _ h
 |@mv f a' u h ih =>
  cases a<;>simp[AV.ren] at hb
  obtain⟨rfl,rfl⟩:=hb;exact .mv (ih rfl)
end
end Go.Av


namespace Go.Av
variable [Gls]
structure Xtx (θ:Nat->Nat) (n0:Nat) (s s':St):Prop where
 fix:∀ o,o<n0->θ o=o
 frame:∀ t,s'.A t=.junk\/s.A t=(s'.A t).ren θ
 heap:∀ o x',s'.H o=some x'->∃ x,s.H (θ o)=some x/\x.esz=x'.esz/\x.es=x'.es.map (AV.ren θ)
 inj:∀ o o',s'.H o≠none->s'.H o'≠none->θ o=θ o'->o=o'
 ok:∀ t,(s'.A t).Ok (·<s'.n)
 okH:∀ o x',s'.H o=some x'->o<s'.n/\(∀ e∈x'.es,∀ a∈e.cells,a.Ok (·<s'.n))/\x'.solo=true/\x'.spent=false
 le:n0<=s'.n
def Weak (n0:Nat) (s s':St):Prop:=∃ θ,Xtx θ n0 s s'
theorem Xz1 (θ:Nat->Nat) (e:AV):(e.ren θ).cells=e.cells.map (AV.ren θ):=by
 cases e<;>simp[AV.ren,AV.cells,Xnx]
theorem X38.weakBy {nt n0:Nat} {c0 c:Ctx} {H0:Xz} {s s':St} {act:Act} {θ:Nat->Nat} (g:X38 nt c0 H0 n0 c s act) (hw:Xtx θ n0 s s') :
  X38 nt c0 H0 n0 { c with ρ:=λo=>c.ρ (θ o) } s' act:=by
 refine⟨⟨?_,?_,?_,g.inv.lt,g.inv.base,g.inv.own,?_,g.inv.glob.rho _⟩,?_,?_,hw.ok,g.size,?_,hw.le⟩
 ·intro o x' hx';obtain⟨x,hx,hz,he⟩:=hw.heap o x' hx';obtain⟨h1,⟨⟨cur,hb,hs,hc⟩,h3,h4,h5⟩,h6⟩:=g.inv.obj _ x hx;refine⟨(hw.okH o x' hx').1,⟨⟨cur,hb,hs,?_⟩,by grind,h4,by grind⟩,(hw.okH o x' hx').2.1⟩;intro i e hei;have:x.es[i]?=some (e.ren θ):=by grind
  obtain⟨g1,g2⟩:=hc i _ this;rw[Xz1] at g1 g2;refine⟨by grind,λk a ha=>?_⟩;obtain⟨v,hv,hr,h7⟩:=g2 k (a.ren θ) (by grind);exact⟨v,hv,hr.unren,h7⟩
 ·intro o o' x' y' hx' hy' hne hb;obtain⟨x,hx,hz,he⟩:=hw.heap o x' hx';obtain⟨y,hy,_,_⟩:=hw.heap o' y' hy';have hne':θ o≠θ o':=λh=>hne (hw.inj o o' (by grind) (by grind) h);have:=(g.inv.sep _ _ x y hx hy hne' hb).1;rw[(g.solo _ x hx).1] at this;cases this
 ·intro o x' hx';obtain⟨x,hx,_⟩:=hw.heap o x' hx';exact g.inv.stab _ x hx
 ·intro o x' hx';obtain⟨x,hx,_⟩:=hw.heap o x' hx';exact g.inv.low _ x hx
 ·intro o x' hx';exact(hw.okH o x' hx').2.2
 ·intro t;rcases hw.frame t with h|h
  ·rw[h];exact .junk
  ·have:=g.frame t;rw[h] at this;exact this.unren
 ·have r:=g.reach;refine⟨λo ho=>?_,r.os,r.tape,r.output,r.size,r.block,r.stable,r.sa,r.so1,r.so2,r.B,λo x' hx'=>?_⟩
  ·show c.ρ (θ o)=c0.ρ o;rw[hw.fix o ho];exact r.rho o ho
  ·obtain⟨x,hx,_⟩:=hw.heap o x' hx';exact r.own _ x hx
section
variable {P:Program} {nt n0:Nat} {s:St} {Q:Xp->St->Prop}
variable {ops:Array Oper} {l:List Oper} {o:Oper} {K:St->Prop}
end
end Go.Av


namespace Go.Av
variable [Gls]
structure Xbr (c:Ctx) (d:Bool) (as:List AV) (vs:Array Value):Prop where
 len:as.length=vs.size
 rel:∀ (i:Nat) a v,as[i]?=some a->vs[i]?=some v->X0m c d a v
structure Xmg (P:Program) (f:Nat) (fn:Func) (code:Code):Prop where
 here:P.funcs[f]?=some fn
 name : (fn.name == "runtime.NumGoroutine") = false
 body:fn.body=some code
def HC (P:Program) (f:Nat) (as:List AV) (H:Xz) (n:Nat) (K:AV->Xz->Nat->Prop):Prop :=
 (∃ fn code,Xmg P f fn code) /\
 ∀ (c:Ctx) (vs:Array Value),Inv c H (·<n)->(∀ o x,H o=some x->x.solo=true/\x.spent=false)->Xbr c false as vs->(∀ a∈as,a.Ok (·<n)) ->
  Calls P f vs c.w λe w'=>∃ v r H' n' c',K r H' n'/\e=.returned v/\c'.w=w'/\c.Le (·<n) c'/\c'.Sa=c.Sa/\(∀ b,c'.So b->c.So b\/c.w.heap.size<=b\/∃ o x,H o=some x/\(c.ρ o).blk=b) /\
   Fr c H w'/\Xaf c H c' H'/\Inv c' H' (·<n')/\(∀ o x,H' o=some x->x.solo=true/\x.spent=false)/\n<=n'/\X0m c' false r v/\r.Ok (·<n')
theorem HC.mono {P:Program} {f:Nat} {as:List AV} {H:Xz} {n:Nat} {K K':AV->Xz->Nat->Prop} (h:HC P f as H n K) (hk:∀ r H n,K r H n->K' r H n):HC P f as H n K' :=
 ⟨h.1,λc vs hI hs hv ho=>(h.2 c vs hI hs hv ho).mono λ_ _ ⟨v,r,H',n',c',h1,rest⟩=>⟨v,r,H',n',c',hk _ _ _ h1,rest⟩⟩
section
variable {P:Program} {nt n0:Nat} {s:St}
theorem OpR.call {o:Oper} {x:Operand} {args:Array Operand} {ts:Array Nat} {f:Nat} {caps:List AV} {K:AV->Xz->Nat->Prop}
  (ho:o.op=.call { callee:=.value x,args:=args,argTypes:=ts }) (hx:evA s.A x=.fn f caps) (h:HC P f (args.toList.map (evA s.A)++caps) s.H s.n K):OpR P nt o s K:=by
 intro c0 H0 n0 c act g Kc Q hK R;have hfx:=g.ev x;rw[hx] at hfx;have hfo:=g.evOk x;rw[hx] at hfo;obtain⟨cv,hcv,hcl,hcr⟩:=hfx.fn_inv;obtain⟨⟨fn,code,hfn⟩,hcall⟩:=h;let vs:Array Value:=args.map act.eval++cv
 have hrun:(execOp act.eval o).run P c.w=.ok (.enter f vs) c.w:=by
  simp only[execOp,ho,resolve,hcv,Deferred.ofValue,Sem.run_bind,Sem.run_pure,Result.andThen_ok,invoke,callFunc,run_program,hfn.here,hfn.name,hfn.body,Option.isNone_some,Bool.false_eq_true,if_false,Array.empty_append];rfl
 refine Oper.wpR (λd hd=>by grind) ?_;unfold Oper.wp;rw[hrun,Oper.upon_enter];have hrel:Xbr c false (args.toList.map (evA s.A)++caps) vs:=by
  refine⟨by grind,λi a v ha hv=>?_⟩;rw[List.getElem?_append] at ha;simp only[vs,Array.getElem?_append,Array.size_map] at hv;simp only[List.length_map,Array.length_toList] at ha;by_cases hi:i<args.size
  ·rw[if_pos hi] at ha hv;rw[List.getElem?_map] at ha;rw[Array.getElem?_map] at hv
   cases hq:args[i]? with
   |none=>grind
   |some q =>
    have hq':args.toList[i]?=some q:=by grind
    simp only[hq',Option.map_some,Option.some.injEq] at ha;simp only[hq,Option.map_some,Option.some.injEq] at hv;subst ha hv;exact g.ev q
  grind
 have hoks:∀ a∈args.toList.map (evA s.A)++caps,a.Ok (·<s.n):=by
  intro a ha;rcases List.mem_append.1 ha with ha|ha
  ·obtain⟨q,_,rfl⟩:=List.mem_map.1 ha;exact g.evOk q
  ·cases hfo with|fn hfo=>grind
 refine(hcall c vs g.inv g.solo hrel hoks).mono ?_;rintro e w' ⟨v,r,H',n',c',hk,rfl,rfl,hle,hsa,hso,hfr,hown,hI,hs,hn,hv,hok⟩;exact hK c' r H' n' v hk λdst hd=>g.next hd hle hsa hso hfr hown hI hs hn hv hok
theorem OpR.callM {o:Oper} {x:Operand} {args:Array Operand} {ts:Array Nat} {f:Nat} {ra:AV} {K:AV->Xz->Nat->Prop}
  (ho:o.op=.call { callee:=.value x,args:=args,argTypes:=ts }) (hx:evA s.A x=.mv f ra) (h:HC P f (ra::args.toList.map (evA s.A)) s.H s.n K):OpR P nt o s K:=by
 intro c0 H0 n0 c act g Kc Q hK R;have hfx:=g.ev x;rw[hx] at hfx;have hfo:=g.evOk x;rw[hx] at hfo;have hru:∃ u,act.eval x=.func (.func f) #[u] #[]/\X0m c false ra u:=by
  generalize act.eval x=q at hfx
  cases hfx with|mv h=>grind
 obtain⟨u,hcv,hru⟩:=hru;have hro:ra.Ok (·<s.n):=by cases hfo with|mv h=>exact h
 obtain⟨⟨fn,code,hfn⟩,hcall⟩:=h;let vs:Array Value:=#[u]++args.map act.eval
 have hrun:(execOp act.eval o).run P c.w=.ok (.enter f vs) c.w:=by
  simp only[execOp,ho,resolve,hcv,Deferred.ofValue,Sem.run_bind,Sem.run_pure,Result.andThen_ok,invoke,callFunc,run_program,hfn.here,hfn.name,hfn.body,Option.isNone_some,Bool.false_eq_true,if_false,Array.append_empty];rfl
 refine Oper.wpR (λd hd=>by grind) ?_;unfold Oper.wp;rw[hrun,Oper.upon_enter];have hrel:Xbr c false (ra::args.toList.map (evA s.A)) vs:=by
  refine⟨by grind,λi a v ha hv=>?_⟩
  cases i with
  |zero =>
   grind
  |succ i =>
   have hv':(args.map act.eval)[i]?=some v:=by
    grind
   simp only[List.getElem?_cons_succ] at ha;rw[List.getElem?_map] at ha;rw[Array.getElem?_map] at hv'
   cases hq:args[i]? with
   |none=>grind
   |some q =>
    have hq':args.toList[i]?=some q:=by grind
    simp only[hq',Option.map_some,Option.some.injEq] at ha;simp only[hq,Option.map_some,Option.some.injEq] at hv';subst ha hv';exact g.ev q
 have hoks:∀ a∈ra::args.toList.map (evA s.A),a.Ok (·<s.n):=by
  intro a ha;rcases List.mem_cons.1 ha with rfl|ha
  ·exact hro
  ·obtain⟨q,_,rfl⟩:=List.mem_map.1 ha;exact g.evOk q
 refine(hcall c vs g.inv g.solo hrel hoks).mono ?_;rintro e w' ⟨v,r,H',n',c',hk,rfl,rfl,hle,hsa,hso,hfr,hown,hI,hs,hn,hv,hok⟩;exact hK c' r H' n' v hk λdst hd=>g.next hd hle hsa hso hfr hown hI hs hn hv hok
inductive ResR (T:Ty) (s:St):ResultVar->AV->Prop
 |tmp {t}:ResR T s (.tmp t) (X52 (s.A t))
 |cell {p t ti e k a} (ht:T t=some ti) (hd:Xqw s.H (X52 (s.A p)) e k) (hl:Xgf ti e k=some a):ResR T s (.cell p t) a
inductive Xfo (T:Ty) (s:St):List ResultVar->List AV->Prop
 |nil:Xfo T s [] []
 |cons {r a rs as} (h:ResR T s r a) (hs:Xfo T s rs as):Xfo T s (r::rs) (a::as)
def Xei:List AV->AV
 |[a]=>a
 |l=>.tup l
theorem Xwl {T:Ty} (hT:X7a P T) {c0 c:Ctx} {H0:Xz} {act:Act} (g:X38 nt c0 H0 n0 c s act) {fn:Func} {as:List AV} (h:Xfo T s fn.results.toList as) :
  ∃ v,(results fn act.tmps).run P c.w=.ok v c.w/\X0m c false (Xei as) v/\(Xei as).Ok (·<s.n):=by
 have one:∀ r a,ResR T s r a->∃ v,((match r with
   |.tmp t=>pure (act.tmps.getD t undef)
   |.cell p t=>do loadVar t (<-asAddr (act.tmps.getD p undef)):Sem Value)).run P c.w=.ok v c.w/\X0m c false a v/\a.Ok (·<s.n):=by
  intro r a hr
  cases hr with
  |@tmp t=>exact⟨_,rfl,g.ev (.tmp t),g.evOk (.tmp t)⟩
  |@cell p t ti e k a ht hd hl =>
   obtain⟨b,off,hx,hat⟩:=Xtp g.inv hd (g.ev (.tmp p));obtain⟨hok,v,hr,hv⟩:=Xxf hat (hT t ti ht) hl
   grind [Act.eval,asAddr,Sem.run_bind,Sem.run_pure,Result.andThen_ok]
 have many:∀ (rs:List ResultVar) (as:List AV),Xfo T s rs as->∃ vs:List Value,(rs.mapM (m:=Sem) λr=>(match r with
   |.tmp t=>pure (act.tmps.getD t undef)
   |.cell p t=>do loadVar t (<-asAddr (act.tmps.getD p undef)):Sem Value)).run P c.w=.ok vs c.w/\as.length=vs.length/\∀ (i:Nat) a v,as[i]?=some a->vs[i]?=some v->X0m c false a v/\a.Ok (·<s.n):=by
  intro rs as h
  induction h with
  |nil=>exact⟨[],rfl,rfl,λi a v ha=>by simp at ha⟩
  |@cons r a rs as hr _ ih =>
   obtain⟨v,h1,h2,h3⟩:=one r a hr;obtain⟨vs,h4,h5,h6⟩:=ih;refine⟨v::vs,?_,by simp[h5],λi a' v' ha hv=>?_⟩
   ·rw[List.mapM_cons];simp only[Sem.run_bind,h1,Result.andThen_ok,h4,Sem.run_pure]
   ·cases i with
    |zero=>simp at ha hv;subst ha hv;exact⟨h2,h3⟩
    |succ i=>simp at ha hv;exact h6 i a' v' ha hv
 obtain⟨vs,h1,h2,h3⟩:=many _ _ h;have hm:(fn.results.mapM (m:=Sem) λr=>(match r with
   |.tmp t=>pure (act.tmps.getD t undef)
   |.cell p t=>do loadVar t (<-asAddr (act.tmps.getD p undef)):Sem Value)).run P c.w=.ok vs.toArray c.w:=by
  rw[Array.mapM_eq_mapM_toList,Sem.run_map,h1];rfl
 refine⟨if h:vs.toArray.size=1 then vs.toArray[0] else .tuple vs.toArray,?_,?_⟩
 ·unfold results;rw[Sem.run_bind];refine Eq.trans (congrArg (λr=>Result.andThen r _) hm) ?_;rfl
 ·by_cases hsz:vs.toArray.size=1
  ·rw[dif_pos hsz];have:vs.length=1:=by grind
   obtain⟨v,rfl⟩:=List.length_eq_one_iff.1 this;obtain⟨a,rfl⟩:=List.length_eq_one_iff.1 (h2.trans this);exact h3 0 a v rfl rfl
  ·rw[dif_neg hsz];have hp:Xei as=.tup as:=by
    cases as with
    |nil=>rfl
    |cons a l=>cases l with
     |nil=>grind
     |cons b l=>rfl
   rw[hp];refine⟨.tup (by grind) λi a v ha hv=>(h3 i a v ha (by grind)).1,.tup λa ha=>?_⟩;obtain⟨i,hi⟩:=List.getElem?_of_mem ha;have:i<vs.length:=by grind
   exact(h3 i a _ hi (List.getElem?_eq_getElem this)).2
end
end Go.Av


namespace Go.Av
variable [Gls]
def Xjl (as:List AV):Nat->AV:=λt=>(as[t]?).getD (.sc undef)
def retQ (T:Ty) (fn:Func) (K:AV->Xz->Nat->Prop):Xp->St->Prop
 |.exit _,_=>False
 |_,s=>∃ rs,Xfo T s fn.results.toList rs/\K (Xei rs) s.H s.n
theorem Xbl {c:Ctx} {d:Bool} {as:List AV} {vs:Array Value} (h:Xbr c d as vs) (m:Nat) (t:Nat):X0m c false (Xjl as t) ((vs++Array.replicate m undef).getD t undef):=by
 unfold Xjl;by_cases ht:t<vs.size
 ·have ht':t<as.length:=by rw[h.len];exact ht
  rw[List.getElem?_eq_getElem ht'];have:(vs++Array.replicate m undef).getD t undef=vs[t]:=by
   simp_all [Array.getD_eq_getD_getElem?,Array.getElem?_append_left,Array.getElem?_eq_getElem,Option.getD_some]
  rw[this];exact(h.rel t _ _ (List.getElem?_eq_getElem ht') (Array.getElem?_eq_getElem ht)).shallow
 ·have ht':as[t]?=none:=by rw[List.getElem?_eq_none_iff,h.len];omega
  rw[ht'];have:(vs++Array.replicate m undef).getD t undef=undef:=by
   simp only[Array.getD_eq_getD_getElem?,Array.getElem?_append_right (Nat.le_of_not_lt ht),Array.getElem?_replicate];split<;>rfl
  rw[this];exact .sc
theorem Xll {M:Nat->Prop} {as:List AV} (h:∀ a∈as,a.Ok M) (t:Nat):(Xjl as t).Ok M:=by
 unfold Xjl
 cases hq:as[t]? with
 |none=>exact .sc
 |some a=>grind
theorem Reach.le {c0 c:Ctx} {H0 H:Xz} {n0:Nat} (r:Reach c0 H0 n0 c H):c0.Le (·<n0) c :=
 ⟨r.rho,λb hb=>by rw[r.sa];exact hb,r.so1,r.stable,r.B⟩
theorem Reach.fr {c0 c:Ctx} {H0 H:Xz} {n0:Nat} (r:Reach c0 H0 n0 c H):Fr c0 H0 c.w:=⟨r.os,r.tape,r.output,r.size,r.block⟩
section
variable {P:Program} {T:Ty}
end
inductive Cv (m:Bool) (H:Xz):AV->AV->Prop
 |sc {v}:Cv m H (.sc v) (.sc v)
 |nils:Cv m H .nils (.list m [])
 |nils0:Cv m H .nils .nils
 |agg {cs cs':List AV} (hl:cs.length=cs'.length) (h:∀ (i:Nat) a b,cs[i]?=some a->cs'[i]?=some b->Cv m H a b):Cv m H (.agg cs) (.agg cs')
 |tup {cs cs':List AV} (hl:cs.length=cs'.length) (h:∀ (i:Nat) a b,cs[i]?=some a->cs'[i]?=some b->Cv m H a b):Cv m H (.tup cs) (.tup cs')
 |listS {own es} (hm:m=true):Cv m H (.list own es) (.list own es)
 |listD {own} {es es':List AV} (hm:m=false) (hl:es.length=es'.length) (hc:∀ (i:Nat) e e',es[i]?=some e->es'[i]?=some e'->e.cells.length=e'.cells.length)
   (h:∀ (i:Nat) e e' (k:Nat) a b,es[i]?=some e->es'[i]?=some e'->e.cells[k]?=some a->e'.cells[k]?=some b->Cv m H a b):Cv m H (.list own es) (.list false es')
 |fn0 {f}:Cv m H (.fn f []) (.fn f [])
 |weak {a es} (h:Cv m H a (.list true es)):Cv m H a (.list false es)
 |ref {o off len x} {es':List AV} (hH:H o=some x) (hle:off+len<=x.es.length) (hl:es'.length=len)
   (hc:∀ (i:Nat) e e',x.es[off+i]?=some e->es'[i]?=some e'->e.cells.length=e'.cells.length)
   (h:∀ (i:Nat) e e' (k:Nat) a b,x.es[off+i]?=some e->es'[i]?=some e'->e.cells[k]?=some a->e'.cells[k]?=some b->Cv m H a b):Cv m H (.ref o off len) (.list m es')
 |ptrL {o i k x} {e e':AV} (hm:m=false) (hH:H o=some x) (he:x.es[i]?=some e) (hc:e.cells.length=e'.cells.length)
   (h:∀ (k:Nat) a b,e.cells[k]?=some a->e'.cells[k]?=some b->Cv m H a b):Cv m H (.ptr o i k) (.elem false e' k)
 |elemD {own k} {e e':AV} (hm:m=false) (hc:e.cells.length=e'.cells.length)
   (h:∀ (k:Nat) a b,e.cells[k]?=some a->e'.cells[k]?=some b->Cv m H a b):Cv m H (.elem own e k) (.elem false e' k)
theorem X0m.deep {c c':Ctx} (hS:∀ own b,c.S own b->c'.S own b) (hh:∀ own b,c.S own b->c'.w.heap[b]?=c.w.heap[b]?) {d:Bool} {a:AV} {v:Value} (h:X0m c d a v):d=true->X0m c' true a v:=by
 have hcell:∀ {own b off v},c.S own b->c.w.cell? ⟨b,off,none⟩=some v->c'.w.cell? ⟨b,off,none⟩=some v:=by
  grind [World.cell?_of_block]
 induction h with
 |junk=>grind
 |sc=>intro _;exact .sc
 |nils=>intro _;exact .nils
 |agg hl h1 h ih=>intro hd;exact .agg hl h1 λi a v ha hv=>by grind
 |tup hl h ih=>intro hd;exact .tup hl λi a v ha hv=>by grind
 |listNil=>intro _;exact .listNil
 |list vf hne hS' hn hcap hsz hc h1 h ih =>
  intro _;exact .list vf hne (hS _ _ hS') hn hcap hsz (λi e k a he ha=>hcell hS' (hc i e k a he ha)) h1 (λi e k a he ha=>ih i e k a he ha rfl)
 |ref=>grind
 |ptr=>grind
 |elem vf hS' hcell' h1 h ih=>intro _;exact .elem vf (hS _ _ hS') (λk a ha=>hcell hS' (hcell' k a ha)) h1 (λk a ha=>ih k a ha rfl)
 |@fn d f caps vs hf hl h ih=>intro hd;have:=hf hd;subst this;exact .fn (λ_=>rfl) hl λi a v ha hv=>by simp at ha
 |cond=>grind
 |mref=>grind
 |mv=>grind
theorem Ctx.S_of_or {c:Ctx} {b:Nat} (h:c.Sa b\/c.So b):c.S false b:=h.imp (λx=>⟨rfl,x⟩) id
theorem Xyx {m : Bool} {H : Xz} {c c' : Ctx} {M : Nat -> Prop} (hI : Inv c H M) (hw : c'.w = c.w) (hsa : ∀ b, c.Sa b \/ c.So b -> c'.S false b) (hso : m = true -> ∀ b, c.So b -> c'.So b)
    (hob:∀ o x,H o=some x->c'.S m (c.ρ o).blk) {a b:AV} (h:Cv m H a b):∀ {v:Value},X0m c false a v->X0m c' true b v:=by
  induction h with
  |sc=>intro v hv;rw[hv.sc_inv];exact .sc
  |nils=>intro v hv;obtain⟨p,rfl⟩:=hv.nils_inv;exact .listNil
  |nils0=>intro v hv;obtain⟨p,rfl⟩:=hv.nils_inv;exact .nils
  |fn0=>intro v hv;obtain⟨vs,rfl,hl,_⟩:=hv.fn_inv;exact .fn (λ_=>rfl) hl λi a v ha _=>by simp at ha
  |weak h ih =>
    intro v hv;have:=ih hv
    cases this with
    |listNil=>exact .listNil
    |list vf hne hS hn hcap hsz hc h1 hr=>exact .list vf hne (.inr (hS.resolve_left λh=>by cases h.1)) hn hcap hsz hc h1 hr
  |@agg cs cs' hl h ih =>
    intro v hv
    cases hv with
    |agg hvl h1 hr =>
      refine .agg (by grind) h1 λi b v hb hv=>?_;have hlt:i<cs.length:=by grind
      have ha:=List.getElem?_eq_getElem hlt
      grind
  |@tup cs cs' hl h ih =>
    intro v hv
    cases hv with
    |tup hvl hr =>
      refine .tup (by grind) λi b v hb hv=>?_;have hlt:i<cs.length:=by grind
      have ha:=List.getElem?_eq_getElem hlt
      grind
  |@listS own es hm =>
    intro v hv;subst hm;have hS:∀ own b,c.S own b->c'.S own b:=by
      intro own b hb
      cases own with
      |false=>exact hsa b (Ctx.S_or hb)
      | true => rcases hb with ⟨h, _⟩ | hb
                · cases h
                · exact .inr (hso rfl b hb)
    have hh:∀ own b,c.S own b->c'.w.heap[b]?=c.w.heap[b]?:=λ_ _ _=>by rw[hw]
    cases hv with
    |listNil=>exact .listNil
    |list vf hne hS' hn hcap hsz hc h1 hr=>exact .list vf hne (hS _ _ hS') hn hcap hsz (λi e k a he ha=>by grind) h1 (λi e k a he ha=>(hr i e k a he ha).deep hS hh rfl)
  |@listD own es es' hm hl hc h ih =>
    intro v hv
    cases hv with
    |listNil =>
      have:es'=[]:=List.eq_nil_of_length_eq_zero (by grind);subst this;exact .listNil
    |@list _ _ _ _ _ _ esz _ vf hne hS' hn hcap hsz hcell h1 hr =>
      have hget:∀ (i:Nat) e',es'[i]?=some e'->∃ e,es[i]?=some e/\e.cells.length=e'.cells.length:=by
        grind
      have hcellk:∀ (i:Nat) e' (k:Nat) b,es'[i]?=some e'->e'.cells[k]?=some b->∃ e a,es[i]?=some e/\e.cells[k]?=some a/\Cv m H a b:=by
        grind
      refine .list (esz:=esz) vf (λh0=>hne (List.eq_nil_of_length_eq_zero (by grind))) (hsa _ (Ctx.S_or hS')) (by grind) (by grind) ?_ ?_ ?_ ?_
      · grind
      · grind
      · grind
      · intro i e' k b he' hb
        obtain⟨e,he,hlen⟩:=hget i e' he';have hlt:k<e.cells.length:=by grind
        exact ih i e e' k _ b he he' (List.getElem?_eq_getElem hlt) hb (hr i e k _ he (List.getElem?_eq_getElem hlt)).shallow
  |@ref o off len x es' hH hle hl hc h ih =>
    intro v hv;obtain⟨rfl,hcapl⟩:=hv.ref_inv;obtain⟨hM,⟨⟨cur,hb,hsz,hcc⟩,hf,hp,hs⟩,hok⟩:=hI.obj o x hH;have hget:∀ (i:Nat) e',es'[i]?=some e'->∃ e,x.es[off+i]?=some e/\e.cells.length=e'.cells.length:=by
      grind
    have hcellk:∀ (i:Nat) e' (k:Nat) b,es'[i]?=some e'->e'.cells[k]?=some b->∃ e a v,x.es[off+i]?=some e/\e.cells[k]?=some a/\cur[(off+i)*(c.ρ o).esz+k]?=some v/\X0m c false a v/\v.oneCell'=true:=by
      grind
    by_cases hne:es'=[]
    · subst hne
      have:len=0:=by grind
      subst this;exact .listNil
    · refine .list (esz:=(c.ρ o).esz) (λi k=>(cur[(off+i)*(c.ρ o).esz+k]?).getD undef) hne (hob o x hH) hl.symm (by rw[hl];omega) ?_ ?_ ?_ ?_
      · intro i e' he'
        obtain⟨e,he,hlen⟩:=hget i e' he';rw[<-hlen];exact(hcc _ e he).1
      · intro i e' k b he' hb'
        obtain⟨e,a,v,_,_,hv,_⟩:=hcellk i e' k b he' hb';rw[hw,cell_of_row _ _ _ _ _ _ hb,<-Nat.add_mul,hv];rfl
      · intro i e' k b he' hb'
        obtain⟨e,a,v,_,_,hv,_,h3⟩:=hcellk i e' k b he' hb';rw[hv];exact h3
      · intro i e' k b he' hb'
        obtain⟨e,a,v,he,ha,hv,hr,_⟩:=hcellk i e' k b he' hb';rw[hv];exact ih i e e' k a b he he' ha hb' hr
  |@ptrL o i k x e e' hm hH he hl h ih =>
    intro v hv;obtain rfl:=hv.ptr_inv;obtain⟨hM,⟨⟨cur,hb,hsz,hcc⟩,hf,hp,hs⟩,hok⟩:=hI.obj o x hH;obtain⟨g1,g2⟩:=hcc i e he;have hcellk:∀ (k:Nat) b,e'.cells[k]?=some b->∃ a v,e.cells[k]?=some a/\cur[i*(c.ρ o).esz+k]?=some v/\X0m c false a v/\v.oneCell'=true:=by
      intro k b hb';have hlt:k<e.cells.length:=by rw[hl];exact(List.getElem?_eq_some_iff.1 hb').1
      obtain⟨v,h1,h2,h3⟩:=g2 k _ (List.getElem?_eq_getElem hlt);exact⟨_,v,List.getElem?_eq_getElem hlt,h1,h2,h3⟩
    have hSb:=hob o x hH;rw[hm] at hSb;refine .elem (λk=>(cur[i*(c.ρ o).esz+k]?).getD undef) hSb ?_ ?_ ?_
    · intro k b hb'
      obtain⟨a,v,_,hv,_⟩:=hcellk k b hb';rw[hw,cell_of_row _ _ _ _ _ _ hb,hv];rfl
    · intro k b hb'
      obtain⟨a,v,_,hv,_,h3⟩:=hcellk k b hb';rw[hv];exact h3
    · intro k b hb'
      obtain⟨a,v,ha,hv,hr,_⟩:=hcellk k b hb';rw[hv];exact ih k a b ha hb' hr
  |@elemD own k e e' hm hl h ih =>
    intro v hv
    cases hv with
    |elem vf hS hcell h1 hr =>
      have hget:∀ (k:Nat) b,e'.cells[k]?=some b->∃ a,e.cells[k]?=some a:=by
        grind
      refine .elem vf (hsa _ (Ctx.S_or hS)) (λk b hb'=>?_) (λk b hb'=>?_) (λk b hb'=>?_)
      · grind
      · grind
      · obtain⟨a,ha⟩:=hget k b hb';exact ih k a b ha hb' (hr k a ha).shallow
end Go.Av


namespace Go.Av
variable [Gls]
structure X04q (B:Nat) (w w':World):Prop extends RowKit.Below B w w' where
 drawn:dr w<=dr w'
def pl0:Nat->Pl:=λ_=>⟨0,0,0,0⟩
def X8t (P:Program) (f:Nat) (as:List AV) (r:AV):Prop :=
 (∃ fn code,Xmg P f fn code) /\
 ∀ (w:World) (S:Nat->Prop) (vs:Array Value),(∀ b,S b->b<w.heap.size)->GF ⟨w,pl0,S,λ_=>False,w.heap.size⟩->Xbr ⟨w,pl0,S,λ_=>False,w.heap.size⟩ true as vs ->
  Calls P f vs w λe w'=>∃ v,e=.returned v/\X0m ⟨w',pl0,S,λb=>w.heap.size<=b/\b<w'.heap.size,w.heap.size⟩ true r v/\X04q w.heap.size w w'
def X0e2 (T:Ty) (fn:Func) (r:AV):Xp->St->Prop
 |.exit _,_=>False
 |_,s=>∃ rs,Xfo T s fn.results.toList rs/\Cv true s.H (Xei rs) r
inductive Xlm:AV->Prop
 |sc {v}:Xlm (.sc v)
 |nils:Xlm .nils
 |agg {cs} (h:∀ a∈cs,Xlm a):Xlm (.agg cs)
 |tup {cs} (h:∀ a∈cs,Xlm a):Xlm (.tup cs)
 |listNil {own}:Xlm (.list own [])
 |list {es} (h:∀ e∈es,∀ a∈e.cells,Xlm a):Xlm (.list true es)
theorem X0m.ownO {c c':Ctx} (hso:∀ b,c.So b->c'.So b) (hh:∀ b,c.So b->c'.w.heap[b]?=c.w.heap[b]?) {a:AV} (h:Xlm a):∀ {v:Value},X0m c true a v->X0m c' true a v:=by
 induction h with
 |sc=>intro v hv;rw[hv.sc_inv];exact .sc
 |nils=>intro v hv;obtain⟨p,rfl⟩:=hv.nils_inv;exact .nils
 |@agg cs h ih =>
  intro v hv
  cases hv with
  |agg hl h1 hr=>exact .agg hl h1 λi a v ha hv=>ih a (List.mem_of_getElem? ha) (hr i a v ha hv)
 |@tup cs h ih =>
  intro v hv
  cases hv with
  |tup hl hr=>exact .tup hl λi a v ha hv=>ih a (List.mem_of_getElem? ha) (hr i a v ha hv)
 |listNil=>intro v hv;cases hv with
  |listNil=>exact .listNil
  |list vf hne=>grind
 |@list es h ih =>
  intro v hv
  cases hv with
  |listNil=>exact .listNil
  |list vf hne hS hn hcap hsz hcell h1 hr =>
   have hS':=hS.resolve_left (λh=>by cases h.1);refine .list vf hne (.inr (hso _ hS')) hn hcap hsz (λi e k a he ha=>?_) h1 (λi e k a he ha=>ih e (List.mem_of_getElem? he) a (List.mem_of_getElem? ha) (hr i e k a he ha))
   grind [World.cell?_of_block]
section
variable {P:Program} {T:Ty}
structure Cvs (m:Bool) (H:Xz) (as bs:List AV):Prop where
 len:as.length=bs.length
 rel:∀ (i:Nat) a b,as[i]?=some a->bs[i]?=some b->Cv m H a b
theorem HC.of_pure {f:Nat} {as bs:List AV} {H Hr:Xz} {n:Nat} {r:AV} (hp:X8t P f bs r) (hcv:Cvs false Hr as bs) (hsub:∀ o x,Hr o=some x->H o=some x)
  (hr:Xlm r\/∀ o,Hr o=none):HC P f as H n (λr' H' n'=>r'=r/\H'=H/\n'=n):=by
 refine⟨hp.1,λc vs hI hs hv ho=>?_⟩;let S:Nat->Prop:=λb=>c.Sa b\/c.So b\/∃ o x,Hr o=some x/\(c.ρ o).blk=b
 have hblk:∀ o x,H o=some x->(c.ρ o).blk<c.w.heap.size:=by
  intro o x hx;obtain⟨_,⟨⟨cur,hcb,_⟩,_⟩,_⟩:=hI.obj o x hx
  grind
 have hS:∀ b,S b->b<c.w.heap.size:=by
  rintro b (hb|hb|⟨o,x,hx,rfl⟩)
  ·exact hI.lt b (.inl hb)
  ·exact hI.lt b (.inr hb)
  grind
 have hIr:Inv c Hr (·<n) :=
  hI.forget (λo x hx=>⟨x,hsub o x hx,rfl,rfl,λh=>h⟩) (λo o' x x' hx hx' hne hb=>by
   have:=hI.sep o o' x x' (hsub o x hx) (hsub o' x' hx') hne hb
   grind)
 have hrel:Xbr ⟨c.w,pl0,S,λ_=>False,c.w.heap.size⟩ true bs vs:=by
  refine⟨by rw[<-hcv.len];exact hv.len,λi b v hb hvv=>?_⟩;have hlt:i<as.length:=by rw[hcv.len];grind
  have ha:=List.getElem?_eq_getElem hlt;refine Xyx hIr (c':=⟨c.w,pl0,S,λ_=>False,c.w.heap.size⟩) rfl (λb hb=>?_) (λh=>by cases h) (λo x hx=>?_) (hcv.rel i _ b ha hb) (hv.rel i _ v ha hvv)
  ·exact .inl ⟨rfl,hb.elim .inl (λh=>.inr (.inl h))⟩
  ·exact .inl ⟨rfl,.inr (.inr ⟨o,x,hx,rfl⟩)⟩
 refine(hp.2 c.w S vs hS (hI.glob.of (λb hb=>.inl hb) λ_ _=>rfl) hrel).mono ?_;rintro e w' ⟨v,rfl,hvr,hbel⟩;let c':Ctx:=⟨w',c.ρ,c.Sa,λb=>c.So b\/(c.w.heap.size<=b/\b<w'.heap.size),c.B⟩
 have hold:∀ b,b<c.w.heap.size->w'.heap[b]?=c.w.heap[b]?:=λb hb=>hbel.block b hb;have hle:c.Le (·<n) c':=⟨λ_ _=>rfl,λb hb=>hb,λb hb=>.inl hb,λb hb=>hold b (hI.lt b hb),rfl⟩;have hI':Inv c' H (·<n):=by
  refine⟨λo x hx=>?_,hI.sep,λo x hx=>?_,λb hb=>?_,Nat.le_trans hI.base hbel.size,λb hb=>?_,hI.low,hI.glob.mono hle⟩
  ·obtain⟨h1,⟨⟨cur,hb,hss,hc⟩,h3,h4,h5⟩,h6⟩:=hI.obj o x hx;refine⟨h1,⟨⟨cur,by grind,hss,?_⟩,h3,h4,h5⟩,h6⟩;intro i e he;obtain⟨g1,g2⟩:=hc i e he;exact⟨g1,λk a ha=>by obtain⟨v,hv,hr,h7⟩:=g2 k a ha;exact⟨v,hv,hr.mono hle (.inr (h6 e (List.mem_of_getElem? he) a (List.mem_of_getElem? ha))),h7⟩⟩
  ·have h1:=hI.stab o x hx
   grind
  ·grind
  ·rcases hb with hb|hb
   ·exact hI.own b hb
   ·exact Nat.le_trans hI.base hb.1
 refine⟨v,r,H,n,c',⟨rfl,rfl,rfl⟩,rfl,rfl,hle,rfl,λb hb=>hb.imp id (λh=>.inl h.1),⟨hbel.os,hbel.tape,⟨hbel.output,hbel.drawn⟩,hbel.size,λb hb _=>hold b hb⟩,λo x hx=>.inr ⟨o,x,hx,rfl⟩,hI',hs,Nat.le_refl _,?_,hvr.okDeep⟩;rcases hr with hr|hr
 ·exact(X0m.ownO (c:=⟨w',pl0,S,λb=>c.w.heap.size<=b/\b<w'.heap.size,c.w.heap.size⟩) (c':=c') (λb hb=>.inr hb) (λb _=>rfl) hr hvr).shallow
 ·refine(X0m.deep (c:=⟨w',pl0,S,λb=>c.w.heap.size<=b/\b<w'.heap.size,c.w.heap.size⟩) (c':=c') (λown b hb=>?_) (λown b _=>rfl) hvr rfl).shallow;rcases hb with ⟨rfl,hb⟩|hb
  ·rcases hb with hb|hb|⟨o,x,hx,_⟩
   ·exact .inl ⟨rfl,hb⟩
   ·exact .inr (.inl hb)
   grind
  ·exact .inr (.inr hb)
end
end Go.Av


namespace Go.Av
instance X0i1:Gls:=⟨[],1⟩
def Xw0 (P:Program) (tot:Nat):Nat->List Field->Bool
 |off,[]=>off==tot
 |off,f::fs=>f.offset==off&&Xw0 P tot (off+P.cellsOf f.type) fs
def plainTy (P:Program):Nat->Nat->Bool
 |0,_=>false
 |n+1,t=>match P.underlying t with
  |some .bool|some (.int _)|some .string=>P.cellsOf t==1
  |some (.slice e)=>P.cellsOf t==1&&decide (0<P.cellsOf e)&&plainTy P n e
  |some (.struct fs)=>Xw0 P (P.cellsOf t) 0 fs.toList&&fs.toList.all λf=>plainTy P n f.type
  |some (.array m e)=>P.cellsOf t==m*P.cellsOf e&&plainTy P n e
  |_=>false
inductive Xr2 {α β:Type} (R:α->β->Prop):List α->List β->Prop
 |nil:Xr2 R [] []
 |cons {a b as bs} (h:R a b) (hs:Xr2 R as bs):Xr2 R (a::as) (b::bs)
def X3y (P:Program):Nat->Nat->AV->Prop
 |0,_,_=>False
 |n+1,t,a=>match P.underlying t with
  |some .bool=>∃ b,a=.sc (.bool b)
  |some (.int k)=>∃ z,a=.sc (.int k z)/\(Lit.int k z).wf=true
  |some .string=>∃ s,a=.sc (.string s)/\s.size<=maxLen
  |some (.slice e)=>∃ es,a=.list false es/\es.length<=maxLen/\∀ x∈es,X3y P n e x
  |some (.struct fs)=>∃ l:List AV,a=.agg (l.flatMap AV.cells)/\Xr2 (λf x=>X3y P n f.type x) fs.toList l
  |some (.array m e)=>∃ l:List AV,a=.agg (l.flatMap AV.cells)/\l.length=m/\∀ x∈l,X3y P n e x
  |_=>False
theorem Xku {α β:Type} {f:α->Option β}:∀ {l:List α} {ys:List β},l.mapM f=some ys->Xr2 (λx y=>f x=some y) l ys:=by
 intro l
 induction l with
 |nil=>intro ys h;simp at h;subst h;exact .nil
 |cons x l ih =>
  intro ys h;simp only[List.mapM_cons,Option.bind_eq_bind,Option.bind_eq_some_iff] at h;obtain⟨y,hy,zs,hz,h⟩:=h;simp at h;subst h;exact .cons hy (ih hz)
structure X7b (c:Ctx) (l:List AV) (cs:List Value):Prop where
 len:l.length=cs.length
 rel:∀ (i:Nat) x v,l[i]?=some x->cs[i]?=some v->X0m c true x v/\v.oneCell'=true
theorem X7b.append {c:Ctx} {l m:List AV} {cs ds:List Value} (h:X7b c l cs) (k:X7b c m ds):X7b c (l++m) (cs++ds):=by
 refine⟨by simp[h.len,k.len],λi x v hx hv=>?_⟩;rw[List.getElem?_append] at hx hv;by_cases hi:i<l.length
 ·rw[if_pos hi] at hx;rw[if_pos (by rw[<-h.len];exact hi)] at hv;exact h.rel i x v hx hv
 ·rw[if_neg hi] at hx;rw[if_neg (by rw[<-h.len];exact hi),<-h.len] at hv;exact k.rel _ x v hx hv
theorem X7b.agg {c:Ctx} {l:List AV} {cs:List Value} (h:X7b c l cs):X0m c true (.agg l) (.agg cs.toArray):=by
 refine .agg (by simpa using h.len) (λv hv=>?_) (λi a v ha hv=>(h.rel i a v ha (by simpa using hv)).1);obtain⟨i,hi⟩:=List.getElem?_of_mem (by simpa using hv:v∈cs);have:i<l.length:=by rw[h.len];exact(List.getElem?_eq_some_iff.1 hi).1
 exact(h.rel i _ v (List.getElem?_eq_getElem this) hi).2
section
variable {H:Type} {enc:TypeId×Value->H} {P:Program} {w:World}
def lawCtx (w:World):Ctx:=⟨w,pl0,λb=>b<w.heap.size,λ_=>False,w.heap.size⟩
theorem Xdt (cs:List Value) (off n tot:Nat) (_:cs.length=tot) (_:off+n<=tot):cs.drop off=(cs.drop off).take n++cs.drop (off+n):=by
 rw[<-List.drop_drop,List.take_append_drop]
theorem Xu6:∀ (n t:Nat),plainTy P n t=true->∀ (fuel:Nat) (cs:List Value) (d:DataW H) (ps:List MemPlace),DataW.trod enc P w 0 (λ_=>true) true fuel t cs=some (d,ps) ->
  ∃ a,X3y P n t a/\X7b (lawCtx w) a.cells cs/\cs.length=P.cellsOf t:=by
 intro n
 induction n with
 |zero=>intro t h;simp[plainTy] at h
 |succ n ih =>
  intro t hp fuel cs d ps h
  cases fuel with
  |zero=>simp[DataW.trod] at h
  |succ fuel =>
  have one:∀ {v:Value},v.oneCell'=true->X7b (lawCtx w) [AV.sc v] [v]:=λ{v} hv =>
   ⟨rfl,λi x u hx hu=>by cases i with
    |zero=>simp at hx hu;subst hx hu;exact⟨.sc,hv⟩
    |succ i=>simp at hx⟩
  unfold plainTy at hp;unfold X3y;unfold DataW.trod at h
  cases hu:P.underlying t with
  |none=>simp[hu] at hp
  |some td =>
   cases td with
   |bool =>
    simp only[hu] at h hp ⊢;split at h
    all_goals first|(rename_i b hx;cases hx;simp at hp;exact⟨.sc (.bool _),⟨_,rfl⟩,one rfl,by simp[hp]⟩)|simp_all
   |int k =>
    simp only[hu] at h hp ⊢;split at h<;>simp_all
    obtain⟨⟨h1,h2⟩,h3⟩:=h;subst h1;exact⟨.sc (.int _ _),⟨_,rfl,h2⟩,one rfl⟩
   |string =>
    simp only[hu] at h hp ⊢;split at h<;>simp_all
    obtain⟨h1,h2⟩:=h;exact⟨.sc (.string _),⟨_,rfl,h1⟩,one rfl⟩
   |slice e =>
    simp only[hu] at hp ⊢;simp only[Bool.and_eq_true,beq_iff_eq,decide_eq_true_eq] at hp;obtain⟨⟨hp1,hp2⟩,hp3⟩:=hp;have h':DataW.trod enc P w 0 (λ_=>true) true (fuel+1) t cs=some (d,ps):=by unfold DataW.trod;exact h
    rcases Go.Deep.open_slice hu h' with ⟨rfl,hx⟩|⟨a,len,cap,m,n',D,Pl,rfl,_,hlc,hcm,hm,hx,hel⟩
    ·refine⟨.list false [],⟨[],rfl,by simp,λx hx=>by simp at hx⟩,⟨rfl,λi x v hx hv=>?_⟩,by simp[hp1]⟩
     cases i with
     |zero=>simp[AV.cells] at hx hv;subst hx hv;exact⟨.listNil,rfl⟩
     |succ i=>simp[AV.cells] at hx
    ·have hmc:len<=m:=by rw[hm];split<;>omega
     have each:∀ i,i<len->∃ x cs',X3y P n e x/\X7b (lawCtx w) x.cells cs'/\cs'.length=P.cellsOf e/\w.cells? 0 (a.add (i*P.cellsOf e)) (P.cellsOf e)=some cs':=by
      intro i hi;obtain⟨cs',h1,h2⟩:=hel i om;obtain⟨x,h3,h4,h5⟩:=ih e hp3 n' cs' _ _ h2;exact⟨x,cs',h3,h4,h5,h1⟩
     let F:Nat->AV:=λi=>if hi:i<len then Classical.choose (each i hi) else .junk
     have hF:∀ i,i<len->∃ cs',X3y P n e (F i)/\X7b (lawCtx w) (F i).cells cs'/\cs'.length=P.cellsOf e/\w.cells? 0 (a.add (i*P.cellsOf e)) (P.cellsOf e)=some cs':=by
      intro i hi;have:=Classical.choose_spec (each i hi);simp only[F,dif_pos hi];exact this
     refine⟨.list false ((List.range len).map F),⟨_,rfl,by simp;omega,λx hx=>?_⟩,⟨rfl,λi x v hx hv=>?_⟩,by simp[hp1]⟩
     ·simp only[List.mem_map,List.mem_range] at hx;obtain⟨i,hi,rfl⟩:=hx;obtain⟨cs',h1,_⟩:=hF i hi;exact h1
     ·cases i with
      |succ i=>simp[AV.cells] at hx
      |zero =>
       simp[AV.cells] at hx hv;subst hx hv;refine⟨?_,rfl⟩;by_cases hl0:len=0
       ·subst hl0;exact .listNil
       ·obtain⟨blk,off,spot⟩:=a;have hget:∀ (i:Nat) x,((List.range len).map F)[i]?=some x->i<len/\x=F i:=by
         intro i x hx;rw[List.getElem?_map] at hx;by_cases hi:i<len
         ·simp[hi] at hx;exact⟨hi,hx.symm⟩
         ·simp[hi] at hx
        have hcells:∀ i,i<len->∀ k,k<P.cellsOf e->∃ cs' v,X7b (lawCtx w) (F i).cells cs'/\cs'.length=P.cellsOf e/\cs'[k]?=some v/\w.cell? ((⟨blk,off,spot⟩:Addr).add (i*P.cellsOf e+k))=some v:=by
         intro i hi k hk;obtain⟨cs',_,h2,h3,h4⟩:=hF i hi;unfold World.cells? at h4;rw[if_pos (Nat.zero_le _)] at h4;have h5:=Xku h4;have h6:∀ (l:List Nat) (ys:List Value),Xr2 (λj v=>w.cell? (((⟨blk,off,spot⟩:Addr).add (i*P.cellsOf e)).add j)=some v) l ys->∀ (j:Nat) (x:Nat),l[j]?=some x->∃ v,ys[j]?=some v/\w.cell? (((⟨blk,off,spot⟩:Addr).add (i*P.cellsOf e)).add x)=some v:=by
          intro l ys hr
          induction hr with
          |nil=>intro j x hx;simp at hx
          |cons h _ ih' =>
           intro j x hx
           cases j with
           |zero=>simp at hx;subst hx;exact⟨_,rfl,h⟩
           |succ j=>simp at hx;simpa using ih' j x hx
         obtain⟨v,h7,h8⟩:=h6 _ _ h5 k k (by simp[hk]);rw[Go.Deep.add_add] at h8;exact⟨cs',v,h2,h3,h7,h8⟩
        have hspot:spot=none:=by
         obtain⟨_,v,_,_,_,hv⟩:=hcells 0 om 0 hp2;simp only[Nat.zero_mul,Nat.zero_add,Addr.add_zero'] at hv;unfold World.cell? at hv;split at hv
         ·cases spot with
          |none=>rfl
          |some x=>simp at hv
         ·cases hv
        subst hspot;have hblk:blk<w.heap.size:=by
         obtain⟨_,v,_,_,_,hv⟩:=hcells 0 om 0 hp2;rw[Addr.add_lit] at hv;exact block_lt_of_cell hv
        refine .list (esz:=P.cellsOf e) (λi k=>(w.cell? ⟨blk,off+i*P.cellsOf e+k,none⟩).getD undef) ?_ (.inl ⟨rfl,hblk⟩) (by simp) (by simp;omega) ?_ ?_ ?_ ?_
        ·intro h0;simp at h0;exact hl0 h0
        ·intro i x hx;obtain⟨hi,rfl⟩:=hget i x hx;obtain⟨cs',_,h2,h3,_⟩:=hF i hi;rw[h2.len,h3]
        all_goals
         intro i x k y hx hy;obtain⟨hi,rfl⟩:=hget i x hx;have hk:k<P.cellsOf e:=by
          obtain⟨cs',_,h2,h3,_⟩:=hF i hi;rw[<-h3,<-h2.len];exact(List.getElem?_eq_some_iff.1 hy).1
         obtain⟨cs',v,h2,h3,h4,h5⟩:=hcells i hi k hk;rw[Addr.add_lit,<-Nat.add_assoc] at h5;obtain⟨h6,h7⟩:=h2.rel k y v hy h4
        ·show w.cell? _=_;rw[h5];rfl
        ·rw[h5];exact h7
        ·rw[h5];exact h6
   |struct fs =>
    simp only[hu] at h hp ⊢;simp only[Bool.and_eq_true,List.all_eq_true] at hp;obtain⟨hti,hall⟩:=hp;split at h
    ·rename_i hlen;simp only[Option.map_eq_some_iff] at h;obtain⟨xs,hxs,_⟩:=h;have hr:=Xku hxs;have key:∀ (l:List Field) (off:Nat) (xs:List (DataW H×List MemPlace)),(∀ f∈l,plainTy P n f.type=true)->Xw0 P (P.cellsOf t) off l=true->off<=P.cellsOf t ->
       Xr2 (λf y=>DataW.trod enc P w 0 (λ_=>true) true fuel f.type ((cs.drop f.offset).take (P.cellsOf f.type))=some y) l xs ->
       ∃ as:List AV,Xr2 (λf x=>X3y P n f.type x) l as/\X7b (lawCtx w) (as.flatMap AV.cells) (cs.drop off):=by
      intro l
      induction l with
      |nil =>
       intro off xs _ ht _ hr;simp[Xw0] at ht;subst ht;refine⟨[],.nil,?_,λi x v hx=>by simp at hx⟩;simp[hlen]
      |cons f l ihl =>
       intro off xs hpl ht hle hr;simp only[Xw0,Bool.and_eq_true,beq_iff_eq] at ht;obtain⟨hoff,ht⟩:=ht
       cases hr with
       |cons h1 hs =>
        obtain⟨x,h2,h3,h4⟩:=ih f.type (hpl f (List.mem_cons_self ..)) fuel _ _ _ h1;have hle':off+P.cellsOf f.type<=P.cellsOf t:=by
         simp only[List.length_take,List.length_drop,hlen,hoff] at h4;omega
        obtain⟨as,h5,h6⟩:=ihl _ _ (λg hg=>hpl g (List.mem_cons_of_mem _ hg)) ht hle' hs;refine⟨x::as,.cons h2 h5,?_⟩;rw[List.flatMap_cons,Xdt cs off (P.cellsOf f.type) (P.cellsOf t) hlen hle'];rw[hoff] at h3;exact h3.append h6
     obtain⟨as,h1,h2⟩:=key fs.toList 0 xs hall hti (Nat.zero_le _) hr;exact⟨.agg (as.flatMap AV.cells),⟨as,rfl,h1⟩,by simpa[AV.cells] using h2,hlen⟩
    ·cases h
   |array m e =>
    simp only[hu] at h hp ⊢;simp only[Bool.and_eq_true,beq_iff_eq] at hp;obtain⟨hce,hpe⟩:=hp;split at h
    ·rename_i hlen;simp only[Option.map_eq_some_iff] at h;obtain⟨xs,hxs,_⟩:=h;have hr:=Xku hxs;have key:∀ (q j:Nat) (xs:List (DataW H×List MemPlace)),j+q=m ->
       Xr2 (λi y=>DataW.trod enc P w 0 (λ_=>true) true fuel e ((cs.drop (i*P.cellsOf e)).take (P.cellsOf e))=some y) (List.range' j q) xs ->
       ∃ as:List AV,as.length=q/\(∀ x∈as,X3y P n e x)/\X7b (lawCtx w) (as.flatMap AV.cells) (cs.drop (j*P.cellsOf e)):=by
      intro q
      induction q with
      |zero =>
       intro j xs hj hr;refine⟨[],rfl,λx hx=>by simp at hx,?_,λi x v hx=>by simp at hx⟩;have:j=m:=by omega
       subst this;simp[hlen,hce]
      |succ q ihq =>
       intro j xs hj hr;rw[List.range'_succ] at hr
       cases hr with
       |cons h1 hs =>
        obtain⟨x,h2,h3,h4⟩:=ih e hpe fuel _ _ _ h1;obtain⟨as,h5,h6,h7⟩:=ihq (j+1) _ om hs;refine⟨x::as,by simp[h5],λy hy=>?_,?_⟩
        ·rcases List.mem_cons.1 hy with rfl|hy
         ·exact h2
         ·exact h6 y hy
        ·have hle:j*P.cellsOf e+P.cellsOf e<=P.cellsOf t:=by
          rw[hce];have:(j+1)*P.cellsOf e<=m*P.cellsOf e:=Nat.mul_le_mul_right _ om;rw[Nat.add_mul] at this;omega
         rw[List.flatMap_cons,Xdt cs (j*P.cellsOf e) (P.cellsOf e) (P.cellsOf t) hlen hle];rw[Nat.add_mul,Nat.one_mul] at h7;exact h3.append h7
     obtain⟨as,h1,h2,h3⟩:=key m 0 xs om (by rw[List.range_eq_range'] at hr;exact hr);exact⟨.agg (as.flatMap AV.cells),⟨as,rfl,h1,h2⟩,by simpa[AV.cells] using h3,hlen⟩
    ·cases h
   |_=>simp[hu] at hp
open Go.ChangeShapes Go.RowKit
theorem Xw9 {n t:Nat} {a:AV} {v:Value} {r:_root_.Go.Reach} {b:Nat} (hs:X3y P n t a) (hval:Value.okWide P w r b t v) (hd:X7b (lawCtx w) a.cells v.cells.toList):X0m (lawCtx w) true a v:=by
 have leaf:(∀ cs,a≠.agg cs)->v.oneCell'=true->X0m (lawCtx w) true a v:=by
  intro ha hv;have hc:v.cells=#[v]:=by cases v<;>first|rfl|simp[Value.oneCell'] at hv
  rw[X8s ha,hc] at hd;exact(hd.rel 0 a v rfl rfl).1
 have aggr:∀ l,a=.agg l->(∃ cs,v=.agg cs)->X0m (lawCtx w) true a v:=by
  rintro l rfl ⟨cs,rfl⟩;have:=hd.agg;simp only[Value.cells,Array.toArray_toList] at this;exact this
 cases n with
 |zero=>exact hs.elim
 |succ n =>
  unfold X3y at hs;unfold Value.okWide at hval
  cases hu:P.underlying t with
  |none=>simp[hu] at hs
  |some d =>
   cases d with
   |struct fs =>
    simp only[hu] at hs hval;obtain⟨l,hl,_⟩:=hs;obtain⟨cs,hcs,_⟩:=hval;exact aggr _ hl ⟨cs,hcs⟩
   |array m e =>
    simp only[hu] at hs hval;obtain⟨l,hl,_⟩:=hs;obtain⟨cs,hcs,_⟩:=hval;exact aggr _ hl ⟨cs,hcs⟩
   |bool =>
    simp only[hu] at hs hval;obtain⟨z,rfl⟩:=hs;refine leaf (λcs h=>by cases h) ?_;cases v<;>first|rfl|simp[Cell.okWide,Cell.ok,hu] at hval
   |int k =>
    simp only[hu] at hs hval;obtain⟨z,rfl,_⟩:=hs;refine leaf (λcs h=>by cases h) ?_;cases v<;>first|rfl|simp[Cell.okWide,Cell.ok,hu] at hval
   |string =>
    simp only[hu] at hs hval;obtain⟨z,rfl,_⟩:=hs;refine leaf (λcs h=>by cases h) ?_;cases v<;>first|rfl|simp[Cell.okWide,Cell.ok,hu] at hval
   |slice e =>
    simp only[hu] at hs hval;obtain⟨z,rfl,_⟩:=hs;refine leaf (λcs h=>by cases h) ?_;cases v<;>first|rfl|simp[Cell.okWide,Cell.ok,hu] at hval
   |_=>simp[hu] at hs
theorem Xfx {n:Nat}:∀ (ts:List Nat) (vs:List Value) (ds:List (DataW H)) (ps:List MemPlace),(∀ t∈ts,plainTy P n t=true) ->
  (∀ (j:Nat) t v,ts[j]?=some t->vs[j]?=some v->Value.okWide P w .any 0 t v)->DataW.TrodAll enc P w 0 (λ_=>true) true ts vs ds ps ->
  ∃ as,Xr2 (λt a=>X3y P n t a) ts as/\as.length=vs.length/\∀ (i:Nat) a v,as[i]?=some a->vs[i]?=some v->X0m (lawCtx w) true a v:=by
 intro ts
 induction ts with
 |nil =>
  intro vs ds ps _ _ h
  cases vs with
  |nil=>exact⟨[],.nil,rfl,λi a v ha=>by simp at ha⟩
  |cons v vs=>simp[DataW.TrodAll] at h
 |cons t ts ih =>
  intro vs ds ps hp hv h
  cases vs with
  |nil=>simp[DataW.TrodAll] at h
  |cons v vs =>
   cases ds with
   |nil=>simp[DataW.TrodAll] at h
   |cons d ds =>
    simp only[DataW.TrodAll] at h;obtain⟨p,q,⟨fuel,h1⟩,h2,_⟩:=h;obtain⟨as,h3,h4,h5⟩:=ih vs ds q (λu hu=>hp u (List.mem_cons_of_mem _ hu)) (λj u x hj hx=>hv (j+1) u x (by simpa using hj) (by simpa using hx)) h2;obtain⟨a,h6,h7,_⟩:=Xu6 n t (hp t (List.mem_cons_self ..)) fuel _ d p h1;have h8:=Xw9 h6 (hv 0 t v rfl rfl) h7;refine⟨a::as,.cons h6 h3,by simp[h4],λi x u hx hu=>?_⟩
    cases i with
    |zero=>simp at hx hu;subst hx hu;exact h8
    |succ i=>simp at hx hu;exact h5 i x u hx hu
theorem Xfw {W W':World} (hl:laidOutB P=true) (hb:Below W.heap.size W W'):∀ (ts:List Nat) (vs:List Value) (ds:List (DataW H)) (ps:List MemPlace),
  (∀ t∈ts,P.readableRec t=true/\t<P.types.size)->(∀ x∈ps,x.block<W.heap.size)->DataW.TrodAll enc P W 0 (λ_=>true) true ts vs ds ps ->
  DataW.TrodAll enc P W' 0 (λb=>decide (b<W.heap.size)) true ts vs ds ps:=by
 intro ts
 induction ts with
 |nil =>
  intro vs ds ps _ _ h;cases vs<;>cases ds<;>simp_all [DataW.TrodAll]
 |cons t ts ih =>
  intro vs ds ps hr hp h
  cases vs with
  |nil=>simp[DataW.TrodAll] at h
  |cons v vs =>
   cases ds with
   |nil=>simp[DataW.TrodAll] at h
   |cons d ds =>
    simp only[DataW.TrodAll] at h ⊢;obtain⟨p,q,h1,h2,rfl⟩:=h;have ht:=hr t (List.mem_cons_self ..);exact⟨p,q,Below.trod hl ht.1 ht.2 h1 hb (λx hx=>hp x (List.mem_append_left _ hx)),ih vs ds q (λu hu=>hr u (List.mem_cons_of_mem _ hu)) (λx hx=>hp x (List.mem_append_right _ hx)) h2,rfl⟩
theorem X03y {f:Nat} {fn:Func} {s:ChangeSpec} {n tb:Nat} (hl:laidOutB P=true) (hpl:∀ t∈fn.params.toList,plainTy P n t=true)
  (hrd:∀ t∈fn.params.toList,P.readableRec t=true/\t<P.types.size) (hres:fn.resultTypes=#[tb]) (htb:P.underlying tb=some .bool) (hsv:s.vars=[])
  (hs:∀ ds:List (DataW H),ds.length=fn.params.size->s.fn H ds={ results:=[.lit (.bool true)],args:=ds })
  (hp:∀ as,Xr2 (λt a=>X3y P n t a) fn.params.toList as->X8t P f as (.sc (.bool true)))
  (W:World) (base:Nat) (args:Array Value) (ds gs:List (DataW H)) (before:List MemPlace)
  (hval:∀ (j:Nat) t v,fn.params[j]?=some t->args[j]?=some v->Value.okWide P W .any base t v)
  (hW:DataW.Whole enc P fn.params.toList s.vars false W args.toList ds gs before) :
  Calls P f args W λe W'=>∃ v,e=.returned v/\s.post enc P fn false true false false W args v W':=by
 have hlt:=hW.lt;have hW0:=hW;obtain⟨p,q,hA,hV,rfl,hfz,hnd⟩:=hW;rw[hsv] at hV;obtain⟨rfl,rfl⟩:=trodVars_none hV;simp only[List.append_nil] at hlt hW0;have hlen:ds.length=fn.params.size:=by
  have:∀ (ts:List Nat) (vs:List Value) (ds:List (DataW H)) (ps:List MemPlace),DataW.TrodAll enc P W 0 (λ_=>true) true ts vs ds ps->ds.length=ts.length:=by
   intro ts
   induction ts with
   |nil=>intro vs ds ps h;cases vs<;>cases ds<;>simp_all [DataW.TrodAll]
   |cons t ts ih =>
    intro vs ds ps h
    cases vs with
    |nil=>simp[DataW.TrodAll] at h
    |cons v vs=>cases ds with
     |nil=>simp[DataW.TrodAll] at h
     |cons d ds=>simp only[DataW.TrodAll] at h;obtain⟨_,q,_,h2,_⟩:=h;simp[ih vs ds q h2]
  simpa using this _ _ _ _ hA
 obtain⟨as,h1,h2,h3⟩:=Xfx (n:=n) fn.params.toList args.toList ds p hpl (λj t v hj hv=>by
  have:=hval j t v (by simpa using hj) (by simpa using hv);exact Value.okWide_any_base this) hA
 have hrel:Xbr (lawCtx W) true as args:=⟨by simpa using h2,λi a v ha hv=>h3 i a v ha (by simpa using hv)⟩;refine((hp as h1).2 W (λb=>b<W.heap.size) args (λb hb=>hb) (λp hp=>by cases hp) hrel).mono ?_;rintro e W' ⟨v,rfl,hv,hb⟩;have hvt:v=.bool true:=hv.sc_inv;subst hvt;refine⟨_,rfl,ds,[],p,[],p,[],hW0,?_,?_,?_,?_,λh=>by cases h⟩
 ·rw[List.append_nil,hs ds hlen,hres];exact trodAll_cons_mk (shut_bool htb _) trodAll_mk0
 ·rw[List.append_nil,hs ds hlen];exact Xfw hl hb.toBelow _ _ _ _ hrd hlt hA
 ·rw[List.append_nil,hs ds hlen,hsv];simp[DataW.TrodVars]
 ·exact hb.frame _
end
theorem X19 {α β:Type} {R:α->β->Prop} {a:α} {as:List α} {bs:List β} (h:Xr2 R (a::as) bs):∃ b r,bs=b::r/\R a b/\Xr2 R as r:=by
 cases h with|cons h hs=>exact⟨_,_,rfl,h,hs⟩
theorem Xc2 {α β:Type} {R:α->β->Prop} {bs:List β} (h:Xr2 R [] bs):bs=[]:=by cases h;rfl
end Go.Av


namespace Go.Av
variable [Gls]
def Xen (nt:Nat):Option Nat->Bool
 |some d=>Nat.blt d nt
 |none=>true
theorem X5n {nt:Nat} {dst:Option Nat} (h:Xen nt dst=true):∀ d,dst=some d->d<nt:=by
 rintro d rfl;simpa[Xen] using h
section
variable {P:Program} {T:Ty} {nt n0:Nat} {s:St} {ops:Array Oper} {l:List Oper} {o:Oper} {K:St->Prop}
end
def fr:List (Nat×AV)->Nat->AV
 |[],_=>.junk
 |(d,v)::l,t=>bif Nat.beq t d then v else fr l t
end Go.Av


namespace Go.Av
variable [Gls]
def X1k {V:Type} (f:Nat->V->V) (S:Nat->Bool):Nat->V->V
 |0,v=>v
 |n+1,v=>bif S n then f n (X1k f S n v) else X1k f S n v
theorem X59 {V:Type} {f:Nat->V->V} {S S':Nat->Bool}:∀ (n:Nat) (v:V),(∀ k,k<n->(∀ u,f k u=u)\/S k=S' k)->X1k f S n v=X1k f S' n v:=by
 intro n
 induction n with
 |zero=>intro v _;rfl
 |succ n ih =>
  intro v h;have:=ih v (λk hk=>h k om);simp only[X1k,this];rcases h n om with h1|h1
  ·cases S n<;>cases S' n<;>simp[h1]
  ·rw[h1]
theorem Xi5 {V:Type} {f:Nat->V->V} {S:Nat->Bool} {i:Nat} (hi:S i=false):∀ (n:Nat) (v:V),i<n->(∀ k,k<n->S k=true->(∀ u,f k u=u)\/k<i) ->
  X1k f (λk=>S k||Nat.beq k i) n v=f i (X1k f S n v):=by
 intro n
 induction n with
 |zero=>intro v h;omega
 |succ n ih =>
  intro v hlt h;simp only[X1k];by_cases hn:n=i
  ·subst hn;have hb:Nat.beq n n=true:=by simp
   rw[hi,hb,Bool.false_or,cond_true,cond_false];congr 1
   refine X59 n v λk hk=>.inr ?_;have:Nat.beq k n=false:=by rw[<-Bool.not_eq_true,Nat.beq_eq];omega
   simp[this]
  ·have hb:Nat.beq n i=false:=by rw[<-Bool.not_eq_true,Nat.beq_eq];exact hn
   have:=ih v om (λk hk=>h k om);rw[this,hb,Bool.or_false]
   cases hs:S n with
   |false=>rfl
   |true =>
    rcases h n om hs with h1|h1
    ·simp[h1]
    ·omega
theorem X7w {V:Type} {f:Nat->V->V}:∀ (n:Nat) (v:V),X1k f (λ_=>false) n v=v
 |0,_=>rfl
 |n+1,v=>X7w n v
def X8e (o:Oper):List Nat:=(o.after.toList.filter (Region.binds .any)).map (·.on)
def Xfj:List Nat->List Oper->List Nat
 |done,[]=>done
 |done,o::r=>Xfj (done++[(X8e o).foldl (λm j=>m |||2 ^ j |||done.getD j 0) 0]) r
def X1h (ops:List Oper):List Nat:=Xfj [] ops
structure Xzh (l:List Oper) (ms:List Nat):Prop where
 len:ms.length=l.length
 step:∀ (i:Nat) o m,l[i]?=some o->ms[i]?=some m->(∀ j∈X8e o,j<i)->∀ q,m.testBit q=true->∃ j∈X8e o,q=j\/(ms.getD j 0).testBit q=true
theorem Xut (done:List Nat):∀ (l:List Nat) (m q:Nat),(l.foldl (λm j=>m ||| 2 ^ j ||| done.getD j 0) m).testBit q=true->m.testBit q=true\/∃ j∈l,q=j\/(done.getD j 0).testBit q=true:=by
 intro l
 induction l with
 |nil=>intro m q h;exact .inl h
 |cons a l ih =>
  intro m q h;rw[List.foldl_cons] at h;rcases ih _ q h with h1|⟨j,hj,h2⟩
  ·rw[Nat.testBit_or,Nat.testBit_or,Nat.testBit_two_pow] at h1;simp only[Bool.or_eq_true,decide_eq_true_eq] at h1;rcases h1 with (h1|h1)|h1
   ·exact .inl h1
   ·exact .inr ⟨a,List.mem_cons_self ..,.inl h1.symm⟩
   ·exact .inr ⟨a,List.mem_cons_self ..,.inr h1⟩
  ·exact .inr ⟨j,List.mem_cons_of_mem _ hj,h2⟩
theorem Xuk:∀ (r pre:List Oper) (done:List Nat),Xzh pre done->Xzh (pre++r) (Xfj done r):=by
 intro r
 induction r with
 |nil=>intro pre done h;simpa[Xfj] using h
 |cons o r ih =>
  intro pre done h;have:=ih (pre++[o]) (done++[(X8e o).foldl (λm j=>m ||| 2 ^ j ||| done.getD j 0) 0]) ?_
  ·simpa[Xfj] using this
  ·refine⟨by simp[h.len],λi o' m ho hm hlt q hq=>?_⟩;have hget:∀ j,j<done.length->(done++[(X8e o).foldl (λm j=>m ||| 2 ^ j ||| done.getD j 0) 0]).getD j 0=done.getD j 0:=by
    intro j hj;simp[List.getD,List.getElem?_append_left hj]
   by_cases hi:i<pre.length
   ·rw[List.getElem?_append_left hi] at ho;rw[List.getElem?_append_left (by rw[h.len];exact hi)] at hm;obtain⟨j,hj,h2⟩:=h.step i o' m ho hm hlt q hq;refine⟨j,hj,?_⟩;rw[hget j (by rw[h.len];have:=hlt j hj;omega)];exact h2
   ·have hie:i=pre.length:=by
     have:=(List.getElem?_eq_some_iff.1 ho).1;simp at this;omega
    subst hie;simp at ho;subst ho;rw[<-h.len] at hm;simp at hm;subst hm;rcases Xut done _ 0 q hq with h1|⟨j,hj,h2⟩
    ·simp at h1
    ·refine⟨j,hj,?_⟩;rw[hget j (by rw[h.len];exact hlt j hj)];exact h2
theorem Xge (l:List Oper):Xzh l (X1h l):=by
 have:=Xuk l [] [] ⟨rfl,λi o m h=>by simp at h⟩;simpa[X1h] using this
theorem Xi9 {l:List Oper} {S:Nat->Bool} (hpre:∀ (i:Nat) o,l[i]?=some o->∀ j∈X8e o,j<i) (hS:∀ (i:Nat) o,l[i]?=some o->S i=true->∀ j∈X8e o,S j=true) :
  ∀ (i:Nat) o,l[i]?=some o->(∀ j∈X8e o,S j=true)->∀ q,((X1h l).getD i 0).testBit q=true->S q=true/\q<i:=by
 intro i
 induction i using Nat.strongRecOn with
 |_ i ih =>
  intro o ho hj q hq;have hlt:i<(X1h l).length:=by rw[(Xge l).len];exact(List.getElem?_eq_some_iff.1 ho).1
  have hm:(X1h l)[i]?=some ((X1h l).getD i 0):=by simp[List.getD,hlt]
  obtain⟨j,hjm,h2⟩:=(Xge l).step i o _ ho hm (hpre i o ho) q hq;have hji:=hpre i o ho j hjm;rcases h2 with rfl|h2
  ·exact⟨hj q hjm,hji⟩
  ·have hjl:j<l.length:=by have:=(List.getElem?_eq_some_iff.1 ho).1;omega
   obtain⟨h3,h4⟩:=ih j hji l[j] (List.getElem?_eq_getElem hjl) (hS j _ (List.getElem?_eq_getElem hjl) (hj j hjm)) q h2;exact⟨h3,by omega⟩
end Go.Av
end
