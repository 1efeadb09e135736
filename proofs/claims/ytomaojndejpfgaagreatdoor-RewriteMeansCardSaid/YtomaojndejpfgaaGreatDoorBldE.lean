/- printer.Expr and strings.Join as pure functions. -/
import Derived.Test.YtomaojndejpfgaaGreatDoorBldW
import Derived.Test.YtomaojndejpfgaaGreatDoorAvd
set_option linter.all false

set_option maxRecDepth 100000
namespace Go.Proofs.Tryz
open Go.RowKit Go.Lib Go.Av
variable [Gls]
def ndA (p:Nd):AV:=.agg [.sc (.int .u8 p.1),.sc (.int .i64 p.2.1),.sc (.int .i64 p.2.2.1),.sc (.int .i64 p.2.2.2.1),.sc (.int .i64 p.2.2.2.2)]
theorem X0ea {c:Ctx} {l:List Nd} {v:Value} (hne:l≠[]) (hso:∀ b,¬ c.So b) (h:X0h c true (.list false (l.map ndA)) v):∃ b0 off cap,v=.slice (some ⟨b0,off,none⟩) l.length cap/\c.Sa b0/\Xy0 c.w b0 off l:=by
  generalize ha:AV.list false (l.map ndA)=a at h
  cases h with
  |listNil=>simp at ha;exact absurd ha.2 hne
  |sc=>cases ha
  |nils=>cases ha
  |agg=>cases ha
  |tup=>cases ha
  |elem=>cases ha
  |fn=>cases ha
  |list vf hne2 hS hn hcap hsz hcell h1 hr =>
    rename_i own es b off cap esz n;cases ha
    have hesz:esz=5:=by
      cases l with
      |nil=>exact absurd rfl hne
      |cons p r=>have:=hsz 0 (ndA p) rfl;rw[<-this];rfl
    subst hesz;refine⟨b,off,cap,by rw[hn,List.length_map],?_,?_⟩
    · rcases hS with h|h
      · exact h.2
      · exact absurd h (hso _)
    · intro i k n' x y z hi
      have he:(l.map ndA)[i]?=some (ndA (k,n',x,y,z)):=by rw[List.getElem?_map,hi];rfl
      have key:∀ (j:Nat) u,(ndA (k,n',x,y,z)).cells[j]?=some (.sc u)->c.w.cell? ⟨b,off+i*5+j,none⟩=some u:=λj u hj=>by
        rw[hcell i _ j _ he hj,(hr i _ j _ he hj).sc_inv]
      exact⟨key 0 _ rfl,key 1 _ rfl,key 2 _ rfl,key 3 _ rfl,key 4 _ rfl⟩
set_option maxHeartbeats 4000000 in
theorem X0ba {l : List Nd} {txt : List UInt8} (hdk : Gls.dk = 0) (hne : l ≠ []) (hl : l.length < 1000) (hc : X76 Tryz.prog 65 [.list false (l.map ndA)] (.sc (.int .i64 0))) (hw : WrOk l ((l.length : Int) - 1) 0 txt) (ht : txt.length <= 1000) :
    X76 Tryz.prog 43 [.list false (l.map ndA)] (.tup [.sc (.string ⟨txt.toArray⟩),.sc (.int .i64 0)]):=by
  refine⟨⟨Tryz.f43,_,⟨Tryz.func43,by kernel_rfl,rfl⟩⟩,λw S vs hS hG hv=>?_⟩;obtain⟨v,rfl⟩:∃ v,vs=#[v]:=by
    have h1:vs.size=1:=by have:=hv.len;simpa using this.symm
    exact⟨vs[0]' om,by apply Array.ext (by simp[h1]);intro i hi _;have:i=0:=(by omega);subst this;rfl⟩
  obtain⟨b0,off,cap,rfl,hb0,hN⟩:=X0ea hne (λ_ h=>h) (hv.rel 0 _ _ rfl rfl);have hbl:b0<w.heap.size:=hS b0 hb0;have H1:=hc.2 w S _ hS hG hv;have t23:=Tryz.underlying22;have a23:=Tryz.isAgg22;have z23:=Tryz.sizeOf22;have v23:=Tryz.zeroValue22;have t29:=Tryz.underlying35;have a29:=Tryz.isAgg35;have z29:=Tryz.sizeOf35;have v29:=Tryz.zeroValue35;have u29:=run_underlying Tryz.underlying35;have t9:=Tryz.underlying9;have a9:=Tryz.isAgg9;have z9:=Tryz.sizeOf9;have v9:=Tryz.zeroValue9;have u9:=run_underlying Tryz.underlying9;have t87:=Tryz.underlying152;have a87:=Tryz.isAgg152;have z87:=Tryz.sizeOf152;have v87:=Tryz.zeroValue152;have u87:=run_underlying Tryz.underlying152;have t4:=Tryz.underlying4;have a4:=Tryz.isAgg4;have z4:=Tryz.sizeOf4;have v4:=Tryz.zeroValue4;have u4:=run_underlying Tryz.underlying4;have t90:=Tryz.underlying155;have a90:=Tryz.isAgg155;have z90:=Tryz.sizeOf155;have v90:=Tryz.zeroValue155;have t3:=Tryz.underlying3;have a3:=Tryz.isAgg3;have z3:=Tryz.sizeOf3;have v3:=Tryz.zeroValue3;have e44:∀ args w,(callFunc 65 args).run Tryz.prog w=.ok (.enter 65 args) w:=enters_of Tryz.func65 (by kernel_rfl) rfl;have e48:∀ args w,(callFunc 75 args).run Tryz.prog w=.ok (.enter 75 args) w:=enters_of Tryz.func75 (by kernel_rfl) rfl;have e47:∀ args w,(callFunc 74 args).run Tryz.prog w=.ok (.enter 74 args) w:=enters_of Tryz.func74 (by kernel_rfl) rfl;have u23:=run_underlying Tryz.underlying22;have u90:=run_underlying Tryz.underlying155;have u3:=run_underlying Tryz.underlying3;have mixed:Tryz.prog.follows .mixedOrders=true:=by kernel_rfl
  have hw1:IntKind.i64.wrap ((l.length:Int) - 1)=(l.length:Int) - 1:=by rw[IntKind.wrap_i64];omega
  go_enter Tryz.func43,Tryz.ntmps43
  go_wp2_with (go_at_fn 65;refine H1.mono ?_;rintro e w1 ⟨v1,rfl,hv1,hb1⟩;obtain rfl:=hv1.sc_inv)
  have hbw:Below w.heap.size w w1:=hb1.toBelow;have hN1:=hN.below hbw hbl;have h0:IsBuilderF 155 5 w1.heap.size w1.heap.size [] (w1.alloc (.cells #[.pointer none,.slice none 0 0] 155)):=IsBuilderF.of (Lib.fresh_isBuilder 155 5 w1);have b0':Below w1.heap.size w1 (w1.alloc (.cells #[.pointer none,.slice none 0 0] 155)):=X4d w1 _;have hl1:b0<w1.heap.size:=Nat.lt_of_lt_of_le hbl hbw.size
  go_wp2_with (go_at_fn 74;refine(hw b0 off cap w1.heap.size w1.heap.size [] _ hl1 (hN1.below b0' hl1) h0 (by simp;omega) b0'.size).mono ?_;rintro e w2 ⟨rfl,h2,h3,h4⟩;rw[List.nil_append] at h2)
  go_wp2_with (go_at_fn 75;refine(Any.Builder_String_any_k Tryz.lays169 Tryz.bextra w1.heap.size w1.heap.size txt _ (.inr h2) (Nat.le_trans b0'.size h3.size)).mono ?_;rintro e w3 ⟨rfl,h5,h6,h7⟩)
  have hB:Below w.heap.size w w3:=hbw.trans (((b0'.trans h3).trans h6).mono hbw.size);refine bodyPost_ret (v:=.tuple #[.string ⟨txt.toArray⟩,.int .i64 0]) (by simp[results,Tryz.f43]) rfl ?_;refine⟨_,rfl,.tup rfl ?_,hB,by simp[dr,hdk]⟩;intro i a v ha hv
  match i,ha,hv with
  |0,ha,hv=>cases ha;cases hv;exact .sc
  |1,ha,hv=>cases ha;cases hv;exact .sc
theorem X0ac {xs : List ByteArray} {sep : ByteArray} (hdk : Gls.dk = 0) (hne : xs ≠ []) (hl : xs.length < 1000) (ht : (Lib.join (xs.map (·.data.toList)) sep.data.toList).length <= 100000) :
    X76 Tryz.prog 46 [.list false (xs.map λx=>.sc (.string x)),.sc (.string sep)] (.sc (.string ⟨(Lib.join (xs.map (·.data.toList)) sep.data.toList).toArray⟩)):=by
  refine⟨⟨Tryz.f46,_,⟨Tryz.func46,by kernel_rfl,rfl⟩⟩,λw S vs hS hG hv=>?_⟩;obtain⟨v,u,rfl⟩:∃ v u,vs=#[v,u]:=by
    have h1:vs.size=2:=by have:=hv.len;simpa using this.symm
    exact⟨vs[0]' om,vs[1]' om,by
      apply Array.ext (by simp[h1]);intro i hi _;have:i=0\/i=1:=by omega
      rcases this with rfl|rfl<;>rfl⟩
  have hu:=(hv.rel 1 _ _ rfl rfl).sc_inv;subst hu;have h:=hv.rel 0 _ _ rfl rfl;generalize ha:AV.list false (xs.map λx=>.sc (.string x))=a at h
  cases h with
  |listNil=>simp at ha;exact absurd ha.2 hne
  |sc=>cases ha
  |nils=>cases ha
  |agg=>cases ha
  |tup=>cases ha
  |elem=>cases ha
  |fn=>cases ha
  |list vf hne2 hS2 hn hcap hsz hcell h1 hr =>
    rename_i own es b off cap esz n;cases ha
    have hesz:esz=1:=by
      cases xs with
      |nil=>exact absurd rfl hne
      |cons p r=>have:=hsz 0 (.sc (.string p)) rfl;rw[<-this];rfl
    subst hesz;subst hn;rw[List.length_map] at hcap ⊢;have hSb:S b:=by
      rcases hS2 with h|h
      · exact h.2
      · exact absurd h λh=>h
    have H:=Any.strings_Join Tryz.lays156 Tryz.bextra b off cap xs sep w (λj x hj=>by
      have he:(xs.map λx=>AV.sc (.string x))[j]?=some (.sc (.string x)):=by rw[List.getElem?_map,hj];rfl
      have h2:=hcell j _ 0 _ he rfl;rw[(hr j _ 0 _ he rfl).sc_inv,Nat.mul_one] at h2;exact h2) (hS b hSb) om hcap om
    refine H.mono ?_;rintro e w' ⟨rfl,hB⟩;exact⟨_,rfl,.sc,hB,by simp[dr,hdk]⟩
theorem expr_at {l : List Nd} {n : Int} {txt : List UInt8} (hdk : Gls.dk = 0) (hne : l ≠ []) (hl : l.length < 1000) (hc : X76 Tryz.prog 65 [.list false (l.map ndA)] (.sc (.int .i64 0))) (hn : (l.length : Int) - 1 = n) (hw : WrOk l n 0 txt) (ht : txt.length <= 1000) :
    X76 Tryz.prog 43 [.list false (l.map ndA)] (.tup [.sc (.string ⟨⟨txt⟩⟩),.sc (.int .i64 0)]):=X0ba hdk hne hl hc (hn▸hw) ht
theorem join_at {xs : List ByteArray} {sep : ByteArray} {out : List UInt8} (hdk : Gls.dk = 0) (hne : xs ≠ []) (hl : xs.length < 1000) (hj : Lib.join (xs.map (·.data.toList)) sep.data.toList = out) (ht : out.length <= 100000) :
    X76 Tryz.prog 46 [.list false (xs.map λx=>.sc (.string x)),.sc (.string sep)] (.sc (.string ⟨⟨out⟩⟩)):=by
  subst hj;exact X0ac hdk hne hl ht
end Go.Proofs.Tryz
namespace Go.Proofs.Tryz
section
open Go.RowKit Go.Lib Go.Av
abbrev gl0:Gls:=⟨[],0⟩
attribute [local instance] gl0
theorem num_at {n:Int} {s:ByteArray} (h:X76 Tryz.prog 45 [.sc (.int .i64 n)] (.sc (.string s))) (w:World):Calls Tryz.prog 45 #[.int .i64 n] w λe w'=>e=.returned (.string s)/\Below w.heap.size w w':=by
  refine(h.2 w (λ_=>False) #[.int .i64 n] (λb h=>h.elim) (λp hp=>by cases hp) ?_).mono ?_
  · constructor
    · rfl
    · intro i a v ha hv
      match i,ha,hv with
      |0,ha,hv=>cases ha;cases hv;exact .sc
  · rintro e w' ⟨v,rfl,hv,hB⟩
    exact⟨by rw[hv.sc_inv],hB.toBelow⟩
end
end Go.Proofs.Tryz
