/- slices.Delete of one entry, from the list of a store: what the library's own text does. -/
import Derived.Test.YtomaojndejpfgaaGreatDoorGlX
import Derived.Test.YtomaojndejpfgaaGreatDoorLowK
import Derived.Test.YtomaojndejpfgaaGreatDoorProg
set_option linter.all false

namespace Go.Proofs.Tryz
open Go.RowKit Go.Lib Go.Av
set_option maxHeartbeats 4000000 in
set_option maxRecDepth 100000 in
theorem Xty (b n c i:Nat) (cur:Array Value) (ety:TypeId) (cs:List Value) (w:World) (hi:i<n) (hnc:n<=c) (hbig:n+1<=4611686018427387904)
  (hcur:w.heap[b]?=some (.cells cur ety (0,0))) (hsz:cur.size=c*11) (hcl:cs.length=(n - (i+1))*11) (hcs:∀ (j:Nat) v,cs[j]?=some v->cur[(i+1)*11+j]?=some v) (h1c:∀ v∈cs,v.oneCell'=true) :
  Calls Tryz.prog 95 #[.slice (some ⟨b,0,none⟩) n c,.int .i64 i,.int .i64 ((i:Int)+1)] w λe w' =>
   e=.returned (.slice (some ⟨b,0,none⟩) (n - 1) c)/\∃ zs:List Value,zs.length=11/\w'=(w.drew.setRow b (Xck cur (i*11) cs)).setRow b (Xck (Xck cur (i*11) cs) ((n - 1)*11) zs):=by
 have t0:=Tryz.underlying71;have a0:=Tryz.isAgg71;have z0:=Tryz.sizeOf71;have v0:=Tryz.zeroValue71;have t3:=Tryz.underlying3;have a3:=Tryz.isAgg3;have z3:=Tryz.sizeOf3;have v3:=Tryz.zeroValue3;have t4:=Tryz.underlying4;have a4:=Tryz.isAgg4;have z4:=Tryz.sizeOf4;have v4:=Tryz.zeroValue4;have zE:=Tryz.sizeOf82;have u0:=run_underlying Tryz.underlying71;have u3:=run_underlying Tryz.underlying3;have u4:=run_underlying Tryz.underlying4;have mixed:Tryz.prog.follows .mixedOrders=true:=by kernel_rfl
 obtain⟨i0,hi0,hz0,hzs⟩:∃ i0,Tryz.prog.info? 82=some i0/\i0.zero=some (Value.agg (Array.replicate 11 (Value.int .i64 0)))/\i0.size=11:=⟨Tryz.t82,by kernel_rfl,by kernel_rfl,by kernel_rfl⟩;have hne:¬ ((i:Int)=(i:Int)+1):=by omega
 have e1:(n - (i+1))*11+(i+1)*11=n*11:=by grind
 have e2:n*11<=c*11:=Nat.mul_le_mul_right _ hnc;have e3:(n - 1)*11+11=n*11:=by omega
 have e4:(i+1)*11<=n*11:=Nat.mul_le_mul_right _ hi;have hm:i+(n - (i+1))=n - 1:=by omega
 obtain⟨A,hA,hsrc⟩:∃ A:Addr,(if c=i+1 then some (⟨b,0,none⟩:Addr) else some ⟨b,(i+1)*11,none⟩)=some A/\∀ (j:Nat) u,cs[j]?=some u->w.drew.cell? (A.add j)=some u:=by
  by_cases h:c=i+1
  ·simp_all
  ·refine⟨⟨b,(i+1)*11,none⟩,by simp[h],λj u hu=>?_⟩;rw[Addr.add_lit,cell_of_row w.drew b _ cur ety (0,0) hcur];grind
 have happ:∀ ty,(Builtin.append_ #[71,71] ty #[.slice (some ⟨b,0,none⟩) i c,.slice (some A) (n - (i+1)) (c - (i+1))]).run Tryz.prog w.drew=.ok (.slice (some ⟨b,0,none⟩) (n - 1) c) (w.drew.setRow b (Xck cur (i*11) cs)):=λty=>by
  have:=X8g (P:=Tryz.prog) w.drew 71 ty 82 ety i0 Tryz.underlying71 hi0 b i c cur hcur A (n - (i+1)) (c - (i+1)) cs (by grind) hsrc h1c om (by grind);rw[hm,hzs] at this;exact this
 obtain⟨R1,hR1⟩:∃ R1,Xck cur (i*11) cs=R1:=⟨_,rfl⟩;have hRs:R1.size=cur.size:=by rw[<-hR1];exact X9i om
 rw[hR1] at happ ⊢;have hW:(w.drew.setRow b R1).heap[b]?=some (.cells R1 ety (0,0)):=setRow_heap w.drew b cur R1 ety (0,0) hcur;obtain⟨zs,hzs'⟩:∃ zs:List Value,zs=(Builtin.zeroCells (Value.agg (Array.replicate 11 (Value.int .i64 0))).cells 1).toList:=⟨_,rfl⟩;have hzl:zs.length=11:=by grind [Builtin.zeroCells,Value.cells]
 have hz1:∀ v∈zs,v.oneCell'=true:=by
  intro v hv;rw[hzs'] at hv;simp[Builtin.zeroCells,Value.cells] at hv;obtain⟨a,ha,rfl⟩:=hv;rw[Array.getElem!_eq_getD,Array.getD_eq_getD_getElem?,Array.getElem?_replicate];split<;>rfl
 have hv0:∀ w,(zeroValue 82).run Tryz.prog w=.ok (Value.agg (Array.replicate 11 (Value.int .i64 0))) w:=Tryz.zeroValue82;have hclr:∀ ty dc,(Builtin.clear_ #[71] ty #[.slice (some ⟨b,(n - 1)*11,none⟩) (n - (n - 1)) dc]).run Tryz.prog (w.drew.setRow b R1)=.ok (.tuple #[]) ((w.drew.setRow b R1).setRow b (Xck R1 ((n - 1)*11) zs)):=λty dc=>by
  rw[show n - (n - 1)=1 by omega];have:=Xvy (P:=Tryz.prog) (ty:=ty) (cap:=dc) (n:=1) (o:=(n - 1)*11) Tryz.underlying71 hv0 om hW (by grind) (by grind);rw[<-hzs'] at this;exact this
 have hic:i<=c:=by omega
 have hjc:i+1<=c:=by omega
 have hin:i<=n:=by omega
 have htn:((i:Int)+1).toNat=i+1:=by omega
 have hb1:(0:Int)<=(i:Int)+1:=by omega
 have hb3:(i:Int)+1<=(n:Int):=by omega
 have hb4:¬ (c=n - 1):=by omega
 refine Calls.mono (R:=λe w'=>e=.returned (.slice (some ⟨b,0,none⟩) (n - 1) c)/\w'=(w.drew.setRow b R1).setRow b (Xck R1 ((n - 1)*11) zs)) ?_ (λe w' ⟨h1,h2⟩=>⟨h1,zs,hzl,h2⟩);clear hzs' hcs hsz hz1 hv0 hzl hRs hsrc
 go_enter Tryz.func95,Tryz.ntmps95
 go_wp2_with fail
 go_region_law_o (refine Xpz rfl (.tmp 22) (.tmp 25) 71 71 rfl (.slice (some ⟨b,0,none⟩) i c) (.slice (some A) (n - (i+1)) (c - (i+1))) (by rfl) (by rfl) (happ _) ?_)
 go_wp2
 go_ret
 simp_all
set_option maxHeartbeats 4000000 in
set_option maxRecDepth 100000 in
theorem delete_hc {H:Xz} {n o i:Nat} {es:List AV} (hfn:∃ fn code,Xiy Tryz.prog 95 fn code) (ho:H o=some { es:=es,esz:=11 }) (hi:i<es.length) (hb:es.length+1<=4611686018427387904) :
  HC Tryz.prog 95 [.ref o 0 es.length,.sc (.int .i64 i),.sc (.int .i64 ((i:Int)+1))] H n (λr H' n'=>r=.ref n 0 (es.length - 1)/\H'=upd (upd H o none) n (some { es:=es.take i++es.drop (i+1),esz:=11 })/\n'=n+1):=by
 refine⟨hfn,λc vs hI hs hv hok=>?_⟩;obtain⟨v0,v1,v2,hvs⟩:∃ v0 v1 v2,vs=#[v0,v1,v2]:=by
  have:=hv.len;obtain⟨l⟩:=vs;simp only[List.length_cons,List.length_nil,List.size_toArray] at this
  match l,this with
  |[a,b,d],_=>grind
 subst hvs;have r0:=hv.rel 0 _ _ rfl rfl;have r1:=hv.rel 1 _ _ rfl rfl;have r2:=hv.rel 2 _ _ rfl rfl;obtain⟨e0,hle0⟩:=r0.ref_inv;have e1:=r1.sc_inv;have e2:=r2.sc_inv;rw[Nat.zero_mul,Nat.sub_zero] at e0;subst e0 e1 e2;obtain⟨hMo,⟨⟨cur,hcb,hcs,hcc⟩,hfits,hpos,hsame⟩,hoks⟩:=hI.obj o _ ho;simp only at hsame hfits hcc;rw[<-hsame] at hcs hcc;have hsrc:∀ (ii:Nat) e,(es.drop (i+1))[ii]?=some e->e.cells.length=11/\EAt c (·<n) e (c.ρ o).blk ((i+1)*11+ii*11):=by
  intro ii e he;rw[List.getElem?_drop] at he;obtain⟨g1,g2⟩:=hcc _ e he;refine⟨g1,λk a ha=>⟨hoks e (List.mem_of_getElem? he) a (List.mem_of_getElem? ha),?_⟩⟩
  grind [cell_of_row,Nat.add_mul]
 obtain⟨cs,hcl,hcn,hc1,hcr⟩:=Xdd om hsrc;have hcl':cs.length=(es.length - (i+1))*11:=by grind
 have hcsj:∀ (j:Nat) v,cs[j]?=some v->cur[(i+1)*11+j]?=some v:=by
  grind [Addr.add_lit,cell_of_row]
 have q1:(es.length - (i+1))*11+(i+1)*11=es.length*11:=by grind
 have q2:es.length*11<=(c.ρ o).cap*11:=Nat.mul_le_mul_right _ hfits;have hl':(es.take i++es.drop (i+1)).length=es.length - 1:=by simp;omega
 have hcall:=Xty (c.ρ o).blk es.length ((c.ρ o).cap) i cur (c.ρ o).ety cs c.w hi hfits hb hcb hcs hcl' hcsj hc1;refine Calls.mono hcall λe w' ⟨h1,zs,hz,h2⟩=>?_;have s1:(Xck cur (i*11) cs).size=cur.size:=X9i om;have s2:(Xck (Xck cur (i*11) cs) ((es.length - 1)*11) zs).size=cur.size:=by rw[X9i om,s1]
 obtain⟨c',hρ,hE⟩:=Xge (w':=w') (es':=es.take i++es.drop (i+1)) hI hs ho hcb s2 (by grind) (by
   rw[<-hsame];intro j e he;have hjl:j<es.length - 1:=by grind
   rw[List.getElem?_append,List.length_take,Nat.min_eq_left (Nat.le_of_lt hi)] at he;split at he
   ·rename_i h;rw[List.getElem?_take,if_pos h] at he;obtain⟨g1,g2⟩:=hcc j e he;refine⟨g1,λk a ha=>⟨hoks e (List.mem_of_getElem? he) a (List.mem_of_getElem? ha),?_⟩⟩;obtain⟨v,hv,hr⟩:=g2 k a ha;have hk:k<11:=by grind
    exact⟨v,by rw[X4t om,if_neg om,X4t om,if_neg om];exact hv,hr⟩
   ·rename_i h;refine⟨(hsrc _ e he).1,λk a ha=>?_⟩;obtain⟨r1,v,hv,hr⟩:=hcr _ e k a he ha;have hk:(j - i)*11+k<cs.length:=(List.getElem?_eq_some_iff.1 hv).1;have hk2:k<11:=by grind
    exact⟨r1,v,by rw[X4t om,if_neg om,X4t om,if_pos om,show j*11+k - i*11=(j - i)*11+k by omega];exact hv,hr⟩)
  (by rw[h2];exact Xhn hcb) (by rw[h2];rfl) (by rw[h2];rfl) (by rw[h2];exact⟨rfl,by first|exact Nat.le_refl _|exact Nat.le_succ _|(simp[World.drew];done)|(simp[World.drew];omega)|exact Nat.le_add_right _ _⟩)
 obtain⟨z1,z2,z3,z4,z5,z6,z7,z8⟩:=hE;refine⟨_,_,_,_,c',⟨rfl,rfl,rfl⟩,h1,z1,z2,z3,z4,z5,z6,z7,z8,Nat.le_succ n,?_,.ref (Nat.lt_succ_self n)⟩;have:=@X0h.ref c' n 0 (es.length - 1) (by grind)
 grind
end Go.Proofs.Tryz
namespace Go.Av.Tryz
open Go.Proofs Go.D
theorem X06n {α:Type} {G:List (Nat×Obj)} {n o ln:Nat} {z z':Int} {l m:List α} {f:α->AV} (hfn:∃ fn code,Xiy Tryz.prog 95 fn code) (h:delI l z=some m) (ho:hp G o=some { es:=l.map f,esz:=11 })
  (hz:z'=IntKind.i64.wrap (z+1)) (hln:ln=l.length):HC Tryz.prog 95 [.ref o 0 ln,.sc (.int .i64 z),.sc (.int .i64 z')] (hp G) n (λr2 H2 n2=>r2=.ref n 0 m.length/\H2=hp ((n,{ es:=m.map f,esz:=11 })::Xxt o G)/\n2=n+1):=by
 obtain⟨h1,h2,h3,rfl⟩:=X0bm h;obtain⟨q,rfl⟩:∃ q:Nat,z=(q:Int):=⟨z.toNat,(Int.toNat_of_nonneg h1).symm⟩;have hz':z'=(q:Int)+1:=by grind [IntKind.wrap_i64,Int.toNat_natCast]
 grind [Int.toNat_natCast,Go.Proofs.Tryz.delete_hc,List.length_map,Xd5,Xlf,List.map_take,List.map_drop]
end Go.Av.Tryz
