/- slices.Insert of one entry, at the list of a store: what the library's own text does. -/
import Derived.Test.YtomaojndejpfgaaGreatDoorGlX
import Derived.Test.YtomaojndejpfgaaGreatDoorLowK
import Derived.Test.YtomaojndejpfgaaGreatDoorProg
set_option linter.all false

namespace Go.Proofs.Tryz
open Go.RowKit Go.Lib Go.Av
set_option maxHeartbeats 4000000 in
set_option maxRecDepth 100000 in
theorem Xqs (b n c i vb vc:Nat) (cur:Array Value) (ety:TypeId) (cs vs:List Value) (w:World) (hi:i<n) (hroom:n+1<=c) (hbig:n+1<=4611686018427387904) (hvb:vb≠b)
  (hcur:w.heap[b]?=some (.cells cur ety (0,0))) (hsz:cur.size=c*11) (hcl:cs.length=(n - i)*11) (hvl:vs.length=11) (hcs:∀ (j:Nat) v,cs[j]?=some v->cur[i*11+j]?=some v)
  (hvs:∀ (j:Nat) v,vs[j]?=some v->w.cell? ⟨vb,0+j,none⟩=some v) (h1c:∀ v∈cs,v.oneCell'=true) (h1v:∀ v∈vs,v.oneCell'=true)
  (tA tB:TypeId) (kA kB:Nat) (hsa:w.shape? vb=some (tA,kA)) (hsb:w.shape? b=some (tB,kB)) (hkB:kB≠0) (hfa:w.frozen? ⟨vb,0,none⟩=false) (hfe:w.frozen? ⟨vb,kA,none⟩=false) :
  Calls Tryz.prog 99 #[.slice (some ⟨b,0,none⟩) n c,.int .i64 i,.slice (some ⟨vb,0,none⟩) 1 vc] w λe w' =>
   e=.returned (.slice (some ⟨b,0,none⟩) (n+1) c)/\w'=(w.drew.setRow b (Xck cur ((i+1)*11) cs)).setRow b (Xck (Xck cur ((i+1)*11) cs) (i*11) vs):=by
 have t0:=Tryz.underlying71;have a0:=Tryz.isAgg71;have z0:=Tryz.sizeOf71;have v0:=Tryz.zeroValue71;have t3:=Tryz.underlying3;have a3:=Tryz.isAgg3;have z3:=Tryz.sizeOf3;have v3:=Tryz.zeroValue3;have t4:=Tryz.underlying4;have a4:=Tryz.isAgg4;have z4:=Tryz.sizeOf4;have v4:=Tryz.zeroValue4;have zE:=Tryz.sizeOf82;have u0:=run_underlying Tryz.underlying71;have u3:=run_underlying Tryz.underlying3;have u4:=run_underlying Tryz.underlying4;have hz2:¬ ((i:Int)=(n:Int)):=by omega
 have hov:∀ lb cb,(callFunc 144 #[.slice (some ⟨vb,0,none⟩) 1 vc,.slice (some ⟨b,(i+1)*11,none⟩) lb cb]).run Tryz.prog w=.ok (.value (.bool false)) w:=λlb cb=>by
  rw[run_callFunc_extern Tryz.func144 (by kernel_rfl) (by kernel_rfl) (by kernel_rfl) (e:=Extern.SlicesOverlaps.overlaps #[71,71] #[4]) (by kernel_rfl),
   Lib.run_overlaps_apart w 71 4 82 Tryz.underlying71 11 Tryz.sizeOf82 ⟨vb,0,none⟩ ⟨b,(i+1)*11,none⟩ 1 vc lb cb hvb tA tB kA kB hsa hsb hkB hfa hfe]
  rfl
 have hov2:∀ lb cb,(callFunc 144 #[.slice (some ⟨vb,0,none⟩) 1 vc,.slice (some ⟨b,i*11+11,none⟩) lb cb]).run Tryz.prog w=.ok (.value (.bool false)) w:=λlb cb=>by
  grind
 have mixed:Tryz.prog.follows .mixedOrders=true:=by kernel_rfl
 have hw1:IntKind.i64.wrap ((i:Int)+1)=(i:Int)+1:=by rw[IntKind.wrap_i64];omega
 have hw2:IntKind.i64.wrap ((n:Int)+1)=(n:Int)+1:=by rw[IntKind.wrap_i64];omega
 have hb1:(0:Int)<=(i:Int)+1:=by omega
 have hin:i<=n:=by omega
 have htn:((i:Int)+1).toNat=i+1:=by omega
 have htn2:((n:Int)+1).toNat=n+1:=by omega
 have hb2:¬ (c=i+1):=by omega
 have hb3:(i:Int)<=(n:Int)+1:=by omega
 have hb4:¬ (c=i):=by omega
 have hm1:min (n+1 - i) (n - i)=n - i:=by omega
 have hm2:min 1 (n+1 - i)=1:=by omega
 have e1:(n - i)*11+i*11=n*11:=by grind
 have e2:(n+1)*11<=c*11:=Nat.mul_le_mul_right _ hroom;have hbd:b<w.heap.size:=(Array.getElem?_eq_some_iff.1 hcur).1;have hcp1:∀ ty dc sc,(Builtin.copy_ #[71,71] ty #[.slice (some ⟨b,(i+1)*11,none⟩) (n - i) dc,.slice (some ⟨b,i*11,none⟩) (n+1 - i) sc]).run Tryz.prog w.drew=.ok (goInt (min (n+1 - i) (n - i):Nat)) (w.drew.setRow b (Xck cur ((i+1)*11) cs)):=λty dc sc =>
  Xfk Tryz.underlying71 Tryz.sizeOf82 (by grind) (λj v hj=>by
   rw[Addr.add_lit,cell_of_row w.drew b _ cur ety (0,0) hcur];grind) hcur om h1c
 obtain⟨R1,hR1⟩:∃ R1,R1=Xck cur ((i+1)*11) cs:=⟨_,rfl⟩;have hRs:R1.size=cur.size:=by grind [Xck,List.size_toArray,List.length_append,List.length_take,List.length_drop,Array.length_toList]
 rw[<-hR1] at hcp1 ⊢;have hW:(w.drew.setRow b R1).heap[b]?=some (.cells R1 ety (0,0)):=setRow_heap w.drew b cur R1 ety (0,0) hcur;have hWo:(w.drew.setRow b R1).heap[vb]?=w.heap[vb]?:=setRow_other w.drew b vb R1 hvb;have hcp2:∀ (W:World),W.heap=(w.drew.setRow b R1).heap->∀ ty dc,(Builtin.copy_ #[71,71] ty #[.slice (some ⟨b,i*11,none⟩) (n+1 - i) dc,.slice (some ⟨vb,0,none⟩) 1 vc]).run Tryz.prog W=.ok (goInt (min 1 (n+1 - i):Nat)) (W.setRow b (Xck R1 (i*11) vs)):=λW hWh ty dc =>
  Xfk Tryz.underlying71 Tryz.sizeOf82 (by rw[hm2,hvl]) (λj v hj=>by
   rw[Addr.add_lit,World.cell?_of_block (a:=⟨vb,0+j,none⟩) ((congrArg (·[vb]?) hWh).trans hWo)];grind) (by rw[hWh];exact hW) om h1v
 go_enter Tryz.func99,Tryz.ntmps99
 go_wp2_with (simp only[hov])
 go_region_law_o (refine Xmv rfl _ _ 71 71 rfl _ _ (by simp[Act.eval,Act.put]) (by simp[Act.eval,Act.put]) (hcp1 _ _ _) ?_)
 go_wp2_with (at_builtin;refine Xhj _ rfl _ _ 71 71 rfl _ _ rfl rfl (hcp2 _ rfl _ _) ?_)
 go_ret
 simp_all
set_option maxHeartbeats 4000000 in
set_option maxRecDepth 100000 in
theorem Xte (b n c i vb vc:Nat) (cur:Array Value) (ety:TypeId) (cs vs:List Value) (w:World) (hi:i<n) (hnc:n<=c) (hroom:c<n+1) (hbig:(n+1)*88<=140737488355328) (hvb:vb≠b)
  (hcur:w.heap[b]?=some (.cells cur ety (0,0))) (hsz:cur.size=c*11) (hcl:cs.length=(n - i)*11) (hvl:vs.length=11) (hcs:∀ (j:Nat) v,cs[j]?=some v->cur[i*11+j]?=some v)
  (hvs:∀ (j:Nat) v,vs[j]?=some v->w.cell? ⟨vb,0+j,none⟩=some v) (h1c:∀ v∈cs,v.oneCell'=true) (h1v:∀ v∈vs,v.oneCell'=true) (hvw:vb<w.heap.size) :
  Calls Tryz.prog 99 #[.slice (some ⟨b,0,none⟩) n c,.int .i64 i,.slice (some ⟨vb,0,none⟩) 1 vc] w λe w' =>
   ∃ (ROW:Array Value) (G:Nat),n+1<=G/\ROW.size=G*11/\(∀ j,j<i*11->ROW[j]?=cur[j]?) /\
   e=.returned (.slice (some ⟨w.heap.size,0,none⟩) (n+1) G)/\w'=(((w.alloc (.cells ROW 82)).drew.setRow w.heap.size (Xck ROW (i*11) vs)).drew).setRow w.heap.size (Xck (Xck ROW (i*11) vs) ((i+1)*11) cs):=by
 have t0:=Tryz.underlying71;have a0:=Tryz.isAgg71;have z0:=Tryz.sizeOf71;have v0:=Tryz.zeroValue71;have t3:=Tryz.underlying3;have a3:=Tryz.isAgg3;have z3:=Tryz.sizeOf3;have v3:=Tryz.zeroValue3;have t4:=Tryz.underlying4;have a4:=Tryz.isAgg4;have z4:=Tryz.sizeOf4;have v4:=Tryz.zeroValue4;have zE:=Tryz.sizeOf82;have u0:=run_underlying Tryz.underlying71;have u3:=run_underlying Tryz.underlying3;have u4:=run_underlying Tryz.underlying4;have mixed:Tryz.prog.follows .mixedOrders=true:=by kernel_rfl
 have hz2:¬ ((i:Int)=(n:Int)):=by omega
 have hz3:(c:Int)<(n:Int)+1:=by omega
 have hbd:b<w.heap.size:=(Array.getElem?_eq_some_iff.1 hcur).1;obtain⟨i0,hi0,hz0,hzs,hzb⟩:∃ i0,Tryz.prog.info? 82=some i0/\i0.zero=some (Value.agg (Array.replicate 11 (Value.int .i64 0)))/\i0.size=11/\i0.bytes=88:=⟨Tryz.t82,by kernel_rfl,by kernel_rfl,by kernel_rfl,by kernel_rfl⟩;have hkk:(n:Int)+1 - (i:Int)=((n+1 - i:Nat):Int):=by omega
 have hik:i+(n+1 - i)=n+1:=by omega
 have e1:(n - i)*11+i*11=n*11:=by grind
 have e2:n*11<=c*11:=Nat.mul_le_mul_right _ hnc;obtain⟨c0,hc0⟩:∃ c0:List Value,c0=cur.toList.take (i*11):=⟨_,rfl⟩;have hc0l:c0.length=i*11:=by grind
 have hold:(Builtin.firstCells i0.size i (.slice (some ⟨b,0,none⟩) i c)).run Tryz.prog w.drew=.ok c0.toArray w.drew:=by
  rw[hzs];exact run_firstCells_some w.drew 11 i ⟨b,0,none⟩ i c c0 (by rw[hc0l]) (λj v hj=>by
   rw[Addr.add_lit,cell_of_row w.drew b _ cur ety (0,0) hcur,Nat.zero_add]
   grind)
 have hrz:∀ ty,∃ ROW G,n+1<=G/\ROW.size=G*11/\(∀ j,j<i*11->ROW[j]?=cur[j]?)/\(Builtin.append_ #[71,3] ty #[.slice (some ⟨b,0,none⟩) i c,.int .i64 ((n:Int)+1 - (i:Int))]).run Tryz.prog w =
   .ok (.slice (some ⟨w.heap.size,0,none⟩) (n+1) G) (w.drew.alloc (.cells ROW 82)):=λty=>by
  have h:=Lib.run_append_grow_zeros w 71 3 ty 82 i0 _ .i64 .i64 Tryz.underlying71 Tryz.underlying3 hi0 hz0 (some ⟨b,0,none⟩) i c c0 hold (n+1 - i) om om om om (by grind) (by simp_all [growslice_fits]);rw[hik] at h;rw[hkk];refine⟨_,_,grownCap_ge w _ _ _,?_,λj hj=>?_,h⟩
  ·grind [grownCap_ge,Array.size_append,List.size_toArray,size_zeroCells,Value.cells,Array.size_replicate,Nat.add_mul]
  grind
 obtain⟨ROW,G,hGn,hRs,hRk,hrz'⟩:=hrz 90;have hrz:∀ ty,(Builtin.append_ #[71,3] ty #[.slice (some ⟨b,0,none⟩) i c,.int .i64 ((n:Int)+1 - (i:Int))]).run Tryz.prog w =
   .ok (.slice (some ⟨w.heap.size,0,none⟩) (n+1) G) (w.drew.alloc (.cells ROW 82)):=λty=>hrz'
 clear hrz' hold;have hbN:b≠w.heap.size:=by omega
 have hvN:vb≠w.heap.size:=by omega
 have e3:(n+1)*11<=G*11:=Nat.mul_le_mul_right _ hGn;have e4:(i+1)*11<=n*11:=Nat.mul_le_mul_right _ hi;have hm1:min 1 (n+1 - i)=1:=by omega
 have hm2:min (n - i) (n - i)=n - i:=by omega
 obtain⟨R1,hR1⟩:∃ R1,Xck ROW (i*11) vs=R1:=⟨_,rfl⟩;have hRs1:R1.size=ROW.size:=by grind [Xck,List.size_toArray,List.length_append,List.length_take,List.length_drop,Array.length_toList]
 have hN:(w.alloc (.cells ROW 82)).heap[w.heap.size]?=some (.cells ROW 82 (0,0)):=by
  show(w.heap.push _)[w.heap.size]?=_;simp
 have hOb:∀ q,q<w.heap.size->(w.alloc (.cells ROW 82)).heap[q]?=w.heap[q]?:=λq hq=>by
  show(w.heap.push _)[q]?=_
  grind
 have hcpA:∀ (W:World),W.heap=(w.alloc (.cells ROW 82)).heap->∀ ty dc,(Builtin.copy_ #[71,71] ty #[.slice (some ⟨w.heap.size,i*11,none⟩) (n+1 - i) dc,.slice (some ⟨vb,0,none⟩) 1 vc]).run Tryz.prog W=.ok (goInt (min 1 (n+1 - i):Nat)) (W.setRow w.heap.size R1):=λW hWh ty dc=>by
  rw[<-hR1];exact Xfk Tryz.underlying71 Tryz.sizeOf82 (by rw[hm1,hvl]) (λj v hj=>by
   rw[Addr.add_lit,World.cell?_of_block (a:=⟨vb,0+j,none⟩) ((congrArg (·[vb]?) hWh).trans (hOb vb hvw))];grind) (by rw[hWh];exact hN) om h1v
 have hcpB:∀ (W:World),W.heap=((w.alloc (.cells ROW 82)).setRow w.heap.size R1).heap->∀ ty dc sc,(Builtin.copy_ #[71,71] ty #[.slice (some ⟨w.heap.size,(i+1)*11,none⟩) (n - i) dc,.slice (some ⟨b,i*11,none⟩) (n - i) sc]).run Tryz.prog W=.ok (goInt (min (n - i) (n - i):Nat)) (W.setRow w.heap.size (Xck R1 ((i+1)*11) cs)):=λW hWh ty dc sc=>by
  refine Xfk Tryz.underlying71 Tryz.sizeOf82 (by grind) (λj v hj=>?_) (by rw[hWh];exact setRow_heap _ _ ROW R1 82 (0,0) hN) om h1c
  grind [setRow_other,Addr.add_lit,cell_of_row]
 have hw1:IntKind.i64.wrap ((i:Int)+1)=(i:Int)+1:=by rw[IntKind.wrap_i64];omega
 have hw2:IntKind.i64.wrap ((n:Int)+1)=(n:Int)+1:=by rw[IntKind.wrap_i64];omega
 have hw3:IntKind.i64.wrap ((n:Int)+1 - (i:Int))=(n:Int)+1 - (i:Int):=by rw[IntKind.wrap_i64];omega
 have hb1:(0:Int)<=(i:Int)+1:=by omega
 have hin:i<=n:=by omega
 have htn:((i:Int)+1).toNat=i+1:=by omega
 have hb3:(i:Int)<=(n:Int):=by omega
 have hGi:¬ (G=i):=by omega
 have hGim:¬ (G=i+1):=by omega
 have hci:¬ (c=i):=by omega
 clear hkk hik;have hcpA':=hcpA (w.alloc (.cells ROW 82)).drew rfl;have hcpB':=hcpB (((w.alloc (.cells ROW 82)).drew.setRow w.heap.size R1).drew) rfl;refine Calls.mono (R:=λe w'=>e=.returned (.slice (some ⟨w.heap.size,0,none⟩) (n+1) G)/\w'=(((w.alloc (.cells ROW 82)).drew.setRow w.heap.size R1).drew).setRow w.heap.size (Xck R1 ((i+1)*11) cs)) ?_ (λe w' ⟨h1,h2⟩=>⟨ROW,G,hGn,hRs,hRk,h1,by grind⟩)
 go_enter Tryz.func99,Tryz.ntmps99
 go_wp2_with (first
  |(at_builtin;refine Lib.wpList_append_run _ rfl _ _ _ _ rfl _ _ rfl rfl _ _ (hrz _) ?_)
  |(at_builtin;refine Xhj _ rfl _ _ 71 71 rfl _ _ rfl rfl (hcpA (w.alloc (.cells ROW 82)).drew rfl _ _) ?_))
 go_region_law_o (refine Xmv rfl _ _ 71 71 rfl (.slice (some ⟨w.heap.size,(i+1)*11,none⟩) (n - i) (G - (i+1))) (.slice (some ⟨b,i*11,none⟩) (n - i) (c - i)) (by simp[Act.eval,Act.put]) (by simp[Act.eval,Act.put]) (hcpB' _ _ _) ?_)
 go_wp2
 go_ret
 simp_all
set_option maxHeartbeats 4000000 in
set_option maxRecDepth 100000 in
theorem insert_mid {H:Xz} {n o p i:Nat} {es:List AV} {x:AV} (hfn:∃ fn code,Xiy Tryz.prog 99 fn code) (ho:H o=some { es:=es,esz:=11 }) (hp:H p=some { es:=[x],esz:=11 }) (hop:o≠p) (hi:i<es.length)
  (hb:(es.length+1)*88<=140737488355328) :
  HC Tryz.prog 99 [.ref o 0 es.length,.sc (.int .i64 i),.ref p 0 1] H n (λr H' n'=>r=.ref n 0 (es.length+1)/\H'=upd (upd H o none) n (some { es:=es.take i++x::es.drop i,esz:=11 })/\n'=n+1):=by
 refine⟨hfn,λc vs hI hs hv hok=>?_⟩;obtain⟨v0,v1,v2,hvs⟩:∃ v0 v1 v2,vs=#[v0,v1,v2]:=by
  have:=hv.len;obtain⟨l⟩:=vs;simp only[List.length_cons,List.length_nil,List.size_toArray] at this
  match l,this with
  |[a,b,d],_=>grind
 subst hvs;have r0:=hv.rel 0 _ _ rfl rfl;have r1:=hv.rel 1 _ _ rfl rfl;have r2:=hv.rel 2 _ _ rfl rfl;obtain⟨e0,hle0⟩:=r0.ref_inv;obtain⟨e2,hle2⟩:=r2.ref_inv;have e1:=r1.sc_inv;rw[Nat.zero_mul,Nat.sub_zero] at e0 e2;subst e0 e1 e2;obtain⟨hMo,⟨⟨cur,hcb,hcs,hcc⟩,hfits,hpos,hsame⟩,hoks⟩:=hI.obj o _ ho;obtain⟨hMp,⟨⟨curp,hcbp,hcsp,hccp⟩,hfitsp,hposp,hsamep⟩,hoksp⟩:=hI.obj p _ hp;have hne:(c.ρ p).blk≠(c.ρ o).blk:=λe=>by
  have:=(hI.sep p o _ _ hp ho (λe=>hop e.symm) e).1;cases this
 simp only at hsame hsamep hfits hfitsp hcc hccp;rw[<-hsame] at hcs hcc;rw[<-hsamep] at hcsp hccp;have hsrc:∀ (ii:Nat) e,(es.drop i)[ii]?=some e->e.cells.length=11/\EAt c (·<n) e (c.ρ o).blk (i*11+ii*11):=by
  intro ii e he;rw[List.getElem?_drop] at he;obtain⟨g1,g2⟩:=hcc _ e he;refine⟨g1,λk a ha=>⟨hoks e (List.mem_of_getElem? he) a (List.mem_of_getElem? ha),?_⟩⟩
  grind [cell_of_row,Nat.add_mul]
 obtain⟨cs,hcl,hcn,hc1,hcr⟩:=Xdd om hsrc;have hsrcp:∀ (ii:Nat) e,[x][ii]?=some e->e.cells.length=11/\EAt c (·<n) e (c.ρ p).blk (0+ii*11):=by
  intro ii e he;obtain⟨g1,g2⟩:=hccp ii e he;refine⟨g1,λk a ha=>⟨hoksp e (List.mem_of_getElem? he) a (List.mem_of_getElem? ha),?_⟩⟩;obtain⟨v,hv,hr,h1⟩:=g2 k a ha;refine⟨v,?_,hr,h1⟩;rw[cell_of_row c.w _ _ _ _ _ hcbp,Nat.zero_add];exact hv
 obtain⟨us,hul,hun,hu1,hur⟩:=Xdd om hsrcp;have hcl':cs.length=(es.length - i)*11:=by grind
 have hul':us.length=11:=by rw[hul];rfl
 have hcsj:∀ (j:Nat) v,cs[j]?=some v->cur[i*11+j]?=some v:=by
  grind [Addr.add_lit,cell_of_row]
 have husj:∀ (j:Nat) v,us[j]?=some v->c.w.cell? ⟨(c.ρ p).blk,0+j,none⟩=some v:=by
  grind [Addr.add_lit]
 have hx11:x.cells.length=11:=(hsrcp 0 x rfl).1;have hel:∀ (j:Nat) e,(es.take i++x::es.drop i)[j]?=some e->(j<i/\es[j]?=some e)\/(j=i/\e=x)\/(i<j/\(es.drop i)[j - i - 1]?=some e):=by
  grind
 have q1:(es.length - i)*11+i*11=es.length*11:=by grind
 have hl':(es.take i++x::es.drop i).length=es.length+1:=by simp;omega
 have fill:∀ (ROW:Array Value),i*11+11+cs.length<=ROW.size->(∀ j,j<i*11->ROW[j]?=cur[j]?)->(∀ j,j<11->ROW[i*11+j]?=us[j]?)->(∀ j,j<cs.length->ROW[(i+1)*11+j]?=cs[j]?) ->
   ∀ (j:Nat) e,(es.take i++x::es.drop i)[j]?=some e->e.cells.length=11/\∀ (k:Nat) a,e.cells[k]?=some a->a.Ok (·<n)/\∃ v,ROW[j*11+k]?=some v/\X0h c false a v/\v.oneCell'=true:=by
  intro ROW _ k1 k2 k3 j e he;rcases hel j e he with ⟨h,he⟩|⟨rfl,rfl⟩|⟨h,he⟩
  ·grind
  ·refine⟨hx11,λk a ha=>?_⟩;obtain⟨r1,v,hv,hr⟩:=hur 0 e k a rfl ha
   grind
  ·refine⟨(hsrc _ e he).1,λk a ha=>?_⟩;obtain⟨r1,v,hv,hr⟩:=hcr _ e k a he ha;have hk:(j - i - 1)*11+k<cs.length:=(List.getElem?_eq_some_iff.1 hv).1;exact⟨r1,v,by rw[show j*11+k=(i+1)*11+((j - i - 1)*11+k) by omega,k3 _ hk];exact hv,hr⟩
 by_cases hroom:es.length+1<=(c.ρ o).cap
 ·have q2:(es.length+1)*11<=(c.ρ o).cap*11:=Nat.mul_le_mul_right _ hroom;have hcall:=Xqs (c.ρ o).blk es.length ((c.ρ o).cap) i (c.ρ p).blk ((c.ρ p).cap) cur (c.ρ o).ety cs us c.w hi hroom om hne hcb hcs hcl' hul' hcsj husj hc1 hu1 (c.ρ p).ety (c.ρ o).ety curp.size cur.size
   (by simp[World.shape?,hcbp]) (by simp[World.shape?,hcb]) om (by simp[World.frozen?,hcbp]) (by simp[World.frozen?,hcbp])
  have s1:(Xck cur ((i+1)*11) cs).size=cur.size:=X9i om;have s2:(Xck (Xck cur ((i+1)*11) cs) (i*11) us).size=cur.size:=by rw[X9i om,s1]
  have key:=fill (Xck (Xck cur ((i+1)*11) cs) (i*11) us) om
   (λj hj=>by rw[X4t om,if_neg om,X4t om,if_neg om])
   (λj hj=>by rw[X4t om,if_pos om,Nat.add_sub_cancel_left])
   (λj hj=>by rw[X4t om,if_neg om,X4t om,if_pos om,Nat.add_sub_cancel_left])
  refine Calls.mono hcall λe w' ⟨h1,h2⟩=>?_;obtain⟨c',hρ,hE⟩:=Xge (w':=w') (es':=es.take i++x::es.drop i) hI hs ho hcb s2 (by grind) (by rw[<-hsame];exact key)
   (by rw[h2];exact Xhn hcb) (by rw[h2];rfl) (by rw[h2];rfl) (by rw[h2];exact⟨rfl,by first|exact Nat.le_refl _|exact Nat.le_succ _|(simp[World.drew];done)|(simp[World.drew];omega)|exact Xaw (Nat.le_refl c.w.drawn)|exact Xaw (Nat.le_add_right c.w.drawn 1)|exact Xaw (Nat.le_add_right c.w.drawn 2)|exact Xaw (Nat.le_add_right c.w.drawn 3)|exact Nat.le_add_right _ _⟩)
  obtain⟨z1,z2,z3,z4,z5,z6,z7,z8⟩:=hE;refine⟨_,_,_,_,c',⟨rfl,rfl,rfl⟩,h1,z1,z2,z3,z4,z5,z6,z7,z8,Nat.le_succ n,?_,.ref (Nat.lt_succ_self n)⟩;have:=@X0h.ref c' n 0 (es.length+1) (by grind)
  grind
 ·have hnc:es.length<=(c.ρ o).cap:=hfits;have hcall:=Xte (c.ρ o).blk es.length ((c.ρ o).cap) i (c.ρ p).blk ((c.ρ p).cap) cur (c.ρ o).ety cs us c.w hi hnc om hb hne hcb hcs hcl' hul' hcsj husj hc1 hu1 (Array.getElem?_eq_some_iff.1 hcbp).1;refine Calls.mono hcall λe w' ⟨ROW,G,g1,g2,g3,h1,h2⟩=>?_;have q2:(es.length+1)*11<=G*11:=Nat.mul_le_mul_right _ g1;have s1:(Xck ROW (i*11) us).size=ROW.size:=X9i om;have s2:(Xck (Xck ROW (i*11) us) ((i+1)*11) cs).size=ROW.size:=by rw[X9i om,s1]
  have key:=fill (Xck (Xck ROW (i*11) us) ((i+1)*11) cs) om
   (λj hj=>by rw[X4t om,if_neg om,X4t om,if_neg om];exact g3 j hj)
   (λj hj=>by rw[X4t om,if_neg om,X4t om,if_pos om,Nat.add_sub_cancel_left])
   (λj hj=>by rw[X4t om,if_pos om,Nat.add_sub_cancel_left])
  obtain⟨c',hρ,hE⟩:=Xtt (o:=o) (w':=w') (es':=es.take i++x::es.drop i) (cap:=G) (esz:=11) (ety:=82) hI hs (by grind) om (by grind) key
   (by rw[h2];exact Xvw) (by rw[h2];rfl) (by rw[h2];rfl) (by rw[h2];exact⟨rfl,by first|exact Nat.le_refl _|exact Nat.le_succ _|(simp[World.drew];done)|(simp[World.drew];omega)|exact Xaw (Nat.le_refl c.w.drawn)|exact Xaw (Nat.le_add_right c.w.drawn 1)|exact Xaw (Nat.le_add_right c.w.drawn 2)|exact Xaw (Nat.le_add_right c.w.drawn 3)|exact Nat.le_add_right _ _⟩)
  obtain⟨z1,z2,z3,z4,z5,z6,z7,z8⟩:=hE;refine⟨_,_,_,_,c',⟨rfl,rfl,rfl⟩,h1,z1,z2,z3,z4,z5,z6,z7,z8,Nat.le_succ n,?_,.ref (Nat.lt_succ_self n)⟩;have:=@X0h.ref c' n 0 (es.length+1) (by grind)
  grind
end Go.Proofs.Tryz
namespace Go.Av.Tryz
open Go.Proofs Go.D
theorem Xv3 {α:Type} {G:List (Nat×Obj)} {n o p ln:Nat} {z:Int} {l m:List α} {x:α} {f:α->AV} (hfn:∃ fn code,Xiy Tryz.prog 99 fn code) (h:Xwx l z x 88=some m) (ho:hp G o=some { es:=l.map f,esz:=11 }) (hpp:hp G p=some { es:=[f x],esz:=11 })
  (hop:Nat.beq o p=false) (hln:ln=l.length):HC Tryz.prog 99 [.ref o 0 ln,.sc (.int .i64 z),.ref p 0 1] (hp G) n (λr2 H2 n2=>r2=.ref n 0 m.length/\H2=hp ((n,{ es:=m.map f,esz:=11 })::Xxt o G)/\n2=n+1):=by
 obtain⟨h1,h2,h3,rfl⟩:=X0au h;obtain⟨q,rfl⟩:∃ q:Nat,z=(q:Int):=⟨z.toNat,(Int.toNat_of_nonneg h1).symm⟩;simp only[Int.toNat_natCast] at *;have hne:o≠p:=λe=>by simp_all
 have:=Go.Proofs.Tryz.insert_mid (i:=q) (n:=n) hfn ho hpp hne (by grind) (by grind)
 grind [List.length_map,Xd5,Xlf,List.map_take,List.map_drop]
end Go.Av.Tryz
