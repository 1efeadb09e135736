/- Parts of the proof, laid together. -/
import Derived.Test.YtmodjehiebcejaaGreatDoorAvc
import Derived.MapKept
import Derived.RangeFuncIn
import Derived.KernelRfl
import Derived.WideKeyEntry
import Derived.Maps.RangeRun
import Derived.DeepKeys4
import GoSem.ClaimGoes
import Derived.LaidMore
import Derived.LaidSub
set_option linter.all false

namespace Go.Av.X
variable [Gls]
open Go.Av
noncomputable def gd1 (nt:Nat) (ops:Array Oper) (A:Nat->AV) (run skip:Prop) (p:Nat×Bool):Prop :=
 match (ops[p.1]?).bind (·.dst) with
  |some t=>Bool.rec (motive:=λ_=>Prop) (stk 51) (match X24 (A t) with
   |.sc v=>Bool.rec (motive:=λ_=>Prop) skip run (X47 p.2 v)
   |_=>stk 52) (Nat.blt t nt)
  |none=>stk 53
noncomputable def gdX (nt:Nat) (ops:Array Oper) (A:Nat->AV) (o:Oper) (run skip:Prop):Prop :=
 Option.rec (motive:=λ_=>Prop) run (gd1 nt ops A run skip) o.guard
theorem X075 {nt:Nat} {ops:Array Oper} {A:Nat->AV} {o:Oper} {run skip:Prop} (h:gdX nt ops A o run skip) :
  (run/\(o.guard=none\/∃ j want t,o.guard=some (j,want)/\(ops[j]?).bind (·.dst)=some t/\Nat.blt t nt=true/\X24 (A t)=.sc (.bool want))) \/
  (skip/\∃ j want t v,o.guard=some (j,want)/\(ops[j]?).bind (·.dst)=some t/\Nat.blt t nt=true/\X24 (A t)=.sc v/\X47 want v=false):=by
 unfold gdX at h
 cases hg:o.guard with
 |none=>rw[hg] at h;exact .inl ⟨h,.inl rfl⟩
 |some p =>
  obtain⟨j,want⟩:=p;rw[hg] at h;have h:gd1 nt ops A run skip (j,want):=h;unfold gd1 at h;split at h
  ·rename_i t hj
   cases ht:Nat.blt t nt with
   |false=>rw[ht] at h;cases h
   |true =>
    rw[ht] at h;have h:(match X24 (A t) with
     |.sc v=>Bool.rec (motive:=λ_=>Prop) skip run (X47 want v)
     |_=>stk 52):=h
    split at h
    ·rename_i v hv
     cases hb:X47 want v with
     |false=>rw[hb] at h;exact .inr ⟨h,j,want,t,v,rfl,hj,ht,hv,hb⟩
     |true =>
      rw[hb] at h;have:v=.bool want:=by
       cases v<;>simp[X47] at hb
       rw[hb]
      subst this;exact .inl ⟨h,.inr ⟨j,want,t,rfl,hj,ht,hv⟩⟩
    ·cases h
  ·cases h
theorem Xky {m:Bool} {H:X3} {a b:AV} (h:Cv m H a b) (M:Nat->Prop):b.Ok M:=by
 induction h with
 |sc=>exact .sc
 |nils=>exact .list
 |nils0=>exact .nils
 |agg hl h ih =>
  refine .agg λb hb=>?_;obtain⟨i,hi⟩:=List.getElem?_of_mem hb;have hlt:=(List.getElem?_eq_some_iff.1 hi).1;exact ih i _ b (List.getElem?_eq_getElem om) hi
 |tup hl h ih =>
  refine .tup λb hb=>?_;obtain⟨i,hi⟩:=List.getElem?_of_mem hb;have hlt:=(List.getElem?_eq_some_iff.1 hi).1;exact ih i _ b (List.getElem?_eq_getElem om) hi
 |listS=>exact .list
 |listD=>exact .list
 |fn0=>exact .fn λa ha=>by cases ha
 |weak=>exact .list
 |ref=>exact .list
 |ptrL=>exact .elem
 |elemD=>exact .elem
def cvZ (H:X3):Nat->AV->Option AV
 |0,_=>none
 |n+1,a=>match a with
  |.nils=>some .nils
  |.agg cs=>match Xbl (cvZ H n) cs with
   |some r=>some (.agg r)
   |none=>none
  |.tup cs=>match Xbl (cvZ H n) cs with
   |some r=>some (.tup r)
   |none=>none
  |a=>cvF true H (n+1) a
theorem Xh5 {H:X3}:∀ (n:Nat) (a b:AV),cvZ H n a=some b->Cv true H a b:=by
 intro n
 induction n with
 |zero=>intro a b h;cases h
 |succ n ih =>
  intro a b h;unfold cvZ at h;split at h
  ·cases h;exact .nils0
  ·split at h
   ·rename_i hm;cases h
    obtain⟨h1,h2⟩:=X3d hm;exact .agg h1 λi a b ha hb=>ih a b (h2 i a b ha hb)
   ·cases h
  ·split at h
   ·rename_i hm;cases h
    obtain⟨h1,h2⟩:=X3d hm;exact .tup h1 λi a b ha hb=>ih a b (h2 i a b ha hb)
   ·cases h
  ·exact X56 _ _ _ h
noncomputable def noH:X3:=λ_=>none
def Xo6 (a:AV):Bool:=match a with
 |.sc _=>true
 |.nils=>true
 |.list _ _=>true
 |_=>false
theorem Xiq {a:AV} (h:Xo6 a=true) (M:Nat->Prop):a.Ok M:=by
 cases a<;>first|exact .sc|exact .nils|exact .list|cases h
def newR (r:AV) (H:X3):Option (Nat×Nat×Obj):=match r with
 |.ref q 0 len=>match H q with
  |some y=>bif y.solo&&(!y.spent&&y.es.all λe=>e.cells.all Xo6) then some (q,len,y) else none
  |none=>none
 |_=>none
theorem Xnq {r:AV} {H:X3} {q len:Nat} {y:Obj} (h:newR r H=some (q,len,y)):r=.ref q 0 len/\H q=some y/\y.solo=true/\y.spent=false/\∀ e∈y.es,∀ a∈e.cells,∀ M,a.Ok M:=by
 unfold newR at h;split at h
 ·split at h
  ·rename_i y' hy
   cases hc:(y'.solo&&(!y'.spent&&y'.es.all λe=>e.cells.all Xo6)) with
   |false=>rw[hc,cond_false] at h;cases h
   |true =>
    rw[hc,cond_true] at h;cases h;simp only[Bool.and_eq_true,Bool.not_eq_true',List.all_eq_true] at hc;exact⟨rfl,hy,hc.1,hc.2.1,λe he a ha M=>Xiq (hc.2.2 e he a ha) M⟩
  ·cases h
 ·cases h
def X0l3:AV->List Nat
 |.ref q _ _=>[q]
 |.ptr q _ _=>[q]
 |_=>[]
def Xie (a:AV):List Nat:=a.cells.flatMap X0l3
def okA (H:X3):AV->Bool
 |.sc _=>true
 |.nils=>true
 |.list _ _=>true
 |.ref q _ _=>(H q).isSome
 |.ptr q _ _=>(H q).isSome
 |_=>false
theorem X02n {H:X3} {a:AV} (h:okA H a=true):a.Ok (λq=>∃ z,H q=some z):=by
 cases a<;>first|exact .sc|exact .nils|exact .list|(exact .ref (Option.isSome_iff_exists.1 h))|(exact .ptr (Option.isSome_iff_exists.1 h))|cases h
def okC (H:X3) (a:AV):Bool:=a.cells.all (okA H)
theorem Xd0 {H:X3} {a:AV} (h:okC H a=true):(∀ b∈a.cells,b.Ok (λq=>∃ z,H q=some z))/\a.Ok (λq=>∃ z,H q=some z):=by
 have h1:∀ b∈a.cells,b.Ok (λq=>∃ z,H q=some z):=λb hb=>X02n (List.all_eq_true.1 h b hb);refine⟨h1,?_⟩
 cases a with
 |agg cs=>exact .agg h1
 |_=>exact h1 _ (by simp[AV.cells])
noncomputable def colX (V:X3) (id:Nat) (f:Nat):List Nat->HX->List Nat->(HX->List Nat->Prop)->Prop :=
 Nat.rec (motive:=λ_=>List Nat->HX->List Nat->(HX->List Nat->Prop)->Prop) (λ_ _ _ _=>stk 77) (λ_ ih ws Hs L k=>match ws with
  |[]=>k Hs L
  |w::ws=>match hpX Hs w with
   |some _=>ih ws Hs L k
   |none=>match V w with
    |some y=>Bool.rec (motive:=λ_=>Prop) (stk 78) (fO sh y λy=>X1o Hs w (some y) λHs=>ih (y.es.flatMap Xie++ws) Hs (w::L) k) (Nat.blt w id)
    |none=>stk 79) f
theorem Xsy {V:X3} {id:Nat}:∀ (f:Nat) (ws:List Nat) (Hs:HX) (L:List Nat) (k:HX->List Nat->Prop),(∀ o x,hpX Hs o=some x->o∈L/\V o=some x/\o<id)->colX V id f ws Hs L k ->
  ∃ Hs' L',k Hs' L'/\∀ o x,hpX Hs' o=some x->o∈L'/\V o=some x/\o<id:=by
 intro f
 induction f with
 |zero=>intro ws Hs L k _ h;cases h
 |succ f ih =>
  intro ws Hs L k hI h
  cases ws with
  |nil=>exact⟨Hs,L,h,hI⟩
  |cons w ws =>
   have h:(match hpX Hs w with
    |some _=>colX V id f ws Hs L k
    |none=>match V w with
     |some y=>Bool.rec (motive:=λ_=>Prop) (stk 78) (fO sh y λy=>X1o Hs w (some y) λHs=>colX V id f (y.es.flatMap Xie++ws) Hs (w::L) k) (Nat.blt w id)
     |none=>stk 79):=h
   split at h
   ·exact ih _ _ _ _ hI h
   ·split at h
    ·rename_i y hy
     cases hb:Nat.blt w id with
     |false=>rw[hb] at h;cases h
     |true =>
      rw[hb] at h;have h:fO sh y (λy=>X1o Hs w (some y) λHs=>colX V id f (y.es.flatMap Xie++ws) Hs (w::L) k):=h;rw[X58 X3k] at h;obtain⟨H1,e1,h⟩:=X1j h;refine ih _ _ _ _ (λo x hx=>?_) h;rw[e1] at hx;by_cases ho:o=w
      ·subst ho;rw[X1] at hx;cases hx;exact⟨List.mem_cons_self,hy,by simpa using hb⟩
      ·rw[X0 _ _ ho] at hx;obtain⟨g1,g2,g3⟩:=hI o x hx;exact⟨List.mem_cons_of_mem _ g1,g2,g3⟩
    ·cases h
def eqB (a b:Bool):Bool:=bif a then b else !b
theorem Xgo {a b:Bool} (h:eqB a b=true):a=b:=by cases a<;>cases b<;>first|rfl|cases h
def Xoo (eq:AV->AV->Bool):Option Obj->Option Obj->Bool
 |some a,some b=>Nat.beq a.esz b.esz&&(eqB a.solo b.solo&&(eqB a.spent b.spent&&(eqB a.gone b.gone&&all2e eq a.es b.es)))
 |none,none=>true
 |_,_=>false
where all2e (eq:AV->AV->Bool):List AV->List AV->Bool
 |[],[]=>true
 |a::l,b::m=>eq a b&&all2e eq l m
 |_,_=>false
theorem Xjv {eq:AV->AV->Bool} (he:∀ a b,eq a b=true->a=b):∀ (l m:List AV),Xoo.all2e eq l m=true->l=m:=by
 intro l
 induction l with
 |nil=>intro m h;cases m with
  |nil=>rfl
  |cons b m=>cases h
 |cons a l ih=>intro m h;cases m with
  |nil=>cases h
  |cons b m =>
   simp only[Xoo.all2e,Bool.and_eq_true] at h;rw[he _ _ h.1,ih _ h.2]
theorem Xon {eq:AV->AV->Bool} (he:∀ a b,eq a b=true->a=b) {a b:Option Obj} (h:Xoo eq a b=true):a=b:=by
 cases a with
 |none=>cases b with
  |none=>rfl
  |some b=>cases h
 |some a=>cases b with
  |none=>cases h
  |some b =>
   obtain⟨e1,z1,s1,p1,g1⟩:=a;obtain⟨e2,z2,s2,p2,g2⟩:=b;simp only[Xoo,Bool.and_eq_true,Nat.beq_eq] at h;obtain⟨h1,h2,h3,h4,h5⟩:=h;rw[Xjv he _ _ h5,h1,Xgo h2,Xgo h3,Xgo h4]
def Xim (r:AV) (H:X3):Option (Nat×Nat×Obj):=match r with
 |.ref q 0 len=>match H q with
  |some y=>bif y.solo&&!y.spent then some (q,len,y) else none
  |none=>none
 |_=>none
theorem Xil {r:AV} {H:X3} {q len:Nat} {y:Obj} (h:Xim r H=some (q,len,y)):r=.ref q 0 len/\H q=some y/\y.solo=true/\y.spent=false:=by
 unfold Xim at h;split at h
 ·split at h
  ·rename_i y' hy
   cases hc:(y'.solo&&!y'.spent) with
   |false=>rw[hc,cond_false] at h;cases h
   |true =>
    rw[hc,cond_true] at h;cases h;simp only[Bool.and_eq_true,Bool.not_eq_true'] at hc;exact⟨rfl,hy,hc.1,hc.2⟩
  ·cases h
 ·cases h
noncomputable def Xux (rec:X4o) (V:X3) (id f:Nat) (as:List AV) (k:AV->X1k->Prop):Prop :=
 colX V id 300 (as.flatMap Xie) g8 [] λHs L =>
  Bool.rec (motive:=λ_=>Prop) (stk 80) (fDs as λas=>rec f as Hs id λr H' _=>match Xim r (hpX H') with
   |some (q,len,y)=>Bool.rec (motive:=λ_=>Prop) (stk 83) (fN len λlen=>fO sh y λy=>k (.ref id 0 len) (.new y)) (Nat.ble id q&&(y.es.all (okC (hpX Hs))&&L.all λw=>Xoo (eqA 60) (hpX H' w) (hpX Hs w)))
   |none=>stk 84) (as.all (okC (hpX Hs))&&L.all λw=>match hpX Hs w with
    |some y=>y.es.all (okC (hpX Hs))
    |none=>true)
theorem Xa4 {P : Program} {rec : X4o} {T : Ty} {A : Nat -> AV} {V : X3} {id f : Nat} {o : Oper} {x : Operand} {args : Array Operand} {ts : Array Nat} {caps : List AV} {k : AV -> X1k -> Prop} (hr : X3n P rec)
    (ho:o.op=.call { callee:=.value x,args:=args,argTypes:=ts }) (hx:evA A x=.fn f caps) (h:Xux rec V id f (args.toList.map (evA A)++caps) k):∃ a e,DOp P T A V id o a e/\k a e:=by
  unfold Xux at h;obtain⟨Hs,L,h,hI⟩:=Xsy _ _ _ _ _ (λo x hx=>by rw[X7o] at hx;cases hx) h;generalize hc:((args.toList.map (evA A)++caps).all (okC (hpX Hs))&&L.all λw=>match hpX Hs w with
        |some y=>y.es.all (okC (hpX Hs))
        |none=>true)=cc at h
  cases cc with
  |false=>cases h
  |true =>
    have h:fDs (args.toList.map (evA A)++caps) (λas=>rec f as Hs id λr H' _=>match Xim r (hpX H') with
      |some (q,len,y)=>Bool.rec (motive:=λ_=>Prop) (stk 83) (fN len λlen=>fO sh y λy=>k (.ref id 0 len) (.new y)) (Nat.ble id q&&(y.es.all (okC (hpX Hs))&&L.all λw=>Xoo (eqA 60) (hpX H' w) (hpX Hs w)))
      |none=>stk 84):=h
    rw[X9q] at h;obtain⟨r,H',n',hcall,h⟩:=hr _ _ _ _ _ h;split at h
    · rename_i q len y hnew
      obtain⟨e1,e2,e3,e4⟩:=Xil hnew;generalize hc2:(Nat.ble id q&&(y.es.all (okC (hpX Hs))&&L.all λw=>Xoo (eqA 60) (hpX H' w) (hpX Hs w)))=c2 at h
      cases c2 with
      |false=>cases h
      |true =>
        have h:fN len (λlen=>fO sh y λy=>k (.ref id 0 len) (.new y)):=h;rw[X2o,X58 X3k] at h;simp only[Bool.and_eq_true,Nat.ble_eq,List.all_eq_true] at hc hc2;obtain⟨hc1,hc3⟩:=hc;obtain⟨g1,g2,g3⟩:=hc2;refine⟨_,_,.callNewV (V':=hpX Hs) (n:=id) ho hx (λo z hz=>⟨(hI o z hz).2.1,(hI o z hz).2.2,λe he a ha=>?_⟩) (λa ha=>(Xd0 (hc1 a ha)).2) (hcall.mono λr2 H2 n2 hq=>⟨hq.1.trans e1,by rw[hq.2.1];exact e2,g1,λo z hz=>?_⟩) (λe he a ha=>(Xd0 (g2 e he)).1 a ha) e3 e4,h⟩
        · have:=hc3 o (hI o z hz).1
          rw[hz] at this;exact(Xd0 (List.all_eq_true.1 this e he)).1 a ha
        · rw[hq.2.1,Xon (Xgp 60) (g3 o (hI o z hz).1)];exact hz
    · cases h
noncomputable def setR (r:AV) (H:X3):Option (Value×Obj):=match r with
 |.sc v=>match H 0 with
  |some y=>bif (y.solo&&!y.spent)&&y.es.all (okC noH) then some (v,y) else none
  |none=>none
 |_=>none
theorem Xly {r:AV} {H:X3} {v:Value} {y:Obj} (h:setR r H=some (v,y)):r=.sc v/\H 0=some y/\y.solo=true/\y.spent=false/\y.es.all (okC noH)=true:=by
 unfold setR at h;split at h
 ·split at h
  ·rename_i y' hy
   cases hc:((y'.solo&&!y'.spent)&&y'.es.all (okC noH)) with
   |false=>rw[hc,cond_false] at h;cases h
   |true =>
    rw[hc,cond_true] at h;cases h;simp only[Bool.and_eq_true,Bool.not_eq_true'] at hc;exact⟨rfl,hy,hc.1.1,hc.1.2,hc.2⟩
  ·cases h
 ·cases h
noncomputable def X71 (rec:X4o) (V:X3) (f:Nat) (as:List AV) (no:Prop) (k:AV->X1k->Prop):Prop :=
 match as with
 |.ptr q i j::bs=>match V q with
  |some y=>Bool.rec (motive:=λ_=>Prop) no (fDs (.ptr 0 i j::bs) λas=>fO sh y λy=>X1o g8 0 (some y) λH0=>rec f as H0 1 λr H' _=>match setR r (hpX H') with
   |some (v,y')=>fN q λq=>fO sh y' λy'=>k (.sc v) (.set q y')
   |none=>stk 85) (bs.all (okC noH)&&y.es.all (okC noH))
  |none=>no
 |_=>no
theorem Xc0 {a:AV} (h:okC noH a=true):(∀ b∈a.cells,∀ M,b.Ok M)/\∀ M,a.Ok M:=by
 obtain⟨h1,h2⟩:=Xd0 h;exact⟨λb hb M=>(h1 b hb).mono (λq h=>by obtain⟨z,hz⟩:=h;cases hz),λM=>h2.mono (λq h=>by obtain⟨z,hz⟩:=h;cases hz)⟩
theorem Xlx {P:Program} {rec:X4o} {T:Ty} {A:Nat->AV} {V:X3} {id f:Nat} {o:Oper} {x:Operand} {args:Array Operand} {ts:Array Nat} {caps:List AV} {no:Prop} {k:AV->X1k->Prop} (hr:X3n P rec)
  (ho:o.op=.call { callee:=.value x,args:=args,argTypes:=ts }) (hx:evA A x=.fn f caps) (h:X71 rec V f (args.toList.map (evA A)++caps) no k):no\/∃ a e,DOp P T A V id o a e/\k a e:=by
 generalize hL:args.toList.map (evA A)++caps=L at h;unfold X71 at h;split at h
 ·rename_i q i j bs;split at h
  ·rename_i y hy;generalize hc:(bs.all (okC noH)&&y.es.all (okC noH))=cc at h
   cases cc with
   |false=>exact .inl h
   |true =>
    have h:fDs (.ptr 0 i j::bs) (λas=>fO sh y λy=>X1o g8 0 (some y) λH0=>rec f as H0 1 λr H' _=>match setR r (hpX H') with
     |some (v,y')=>fN q λq=>fO sh y' λy'=>k (.sc v) (.set q y')
     |none=>stk 85):=h
    rw[X9q,X58 X3k] at h;obtain⟨H0,e0,h⟩:=X1j h;obtain⟨r,H',n',hcall,h⟩:=hr _ _ _ _ _ h;split at h
    ·rename_i v y' hs;rw[X2o,X58 X3k] at h;obtain⟨e1,e2,e3,e4,e5⟩:=Xly hs;simp only[Bool.and_eq_true,List.all_eq_true] at hc e5;rw[e0,X7o] at hcall;have hH:upd noH 0 (some y)=λp=>bif Nat.beq p 0 then some y else none:=by
      funext p
      cases p with
      |zero=>rw[X1];rfl
      |succ p=>rw[X0 _ _ om];rfl
     refine .inr ⟨_,_,.callSet ho hx hy .ptr hL (λa ha=>(Xc0 (hc.1 a ha)).2) (λe he a ha=>(Xc0 (hc.2 e he)).1 a ha) (λe he a ha=>(Xc0 (e5 e he)).1 a ha) (hH▸hcall.mono λr2 H2 n2 hq=>⟨hq.1.trans e1,by rw[hq.2.1];exact e2⟩) e3 e4,h⟩
    ·cases h
  ·exact .inl h
 ·exact .inl h
noncomputable def dopX (T:Ty) (rec:X4o) (A:Nat->AV) (V:X3) (id:Nat) (o:Oper) (k:AV->X1k->Prop):Prop :=
 match o.op with
 |.move x=>sh (evA A x) λa=>k a .none
 |.assign x=>sh (evA A x) λa=>k a .none
 |.store t p x=>match o.dst with
  |none=>match stF T (evA A) V t p x with
   |some (q,z)=>fN q λq=>fO fA z λz=>k (.sc undef) (.set q z)
   |none=>fD (evA A p) λa=>fD (evA A x) λb=>Xtb 71 (.agg [a,b])
  |some _=>stk 72
 |.call { callee:=.value x,args:=args,argTypes:=_ }=>match evA A x with
  |.fn f caps=>match Xbl (cvF false noH 100) (args.toList.map (evA A)++caps) with
   |some bs=>fDs bs λbs=>rec f bs g8 0 λr H' _=>match newR r (hpX H') with
    |some (_,len,y)=>fN len λlen=>fO sh y λy=>k (.ref id 0 len) (.new y)
    |none=>match cvZ (hpX H') 100 r with
     |some r'=>fD r' λr'=>k r' .none
     |none=>stk 74
   |none=>X71 rec V f (args.toList.map (evA A)++caps) (match Xbl (cvF false V 100) (args.toList.map (evA A)++caps) with
    |some bs=>fDs bs λbs=>rec f bs g8 0 λr H' _=>match newR r (hpX H') with
     |some _=>Xux rec V id f (args.toList.map (evA A)++caps) k
     |none=>match cvZ (hpX H') 100 r with
      |some r'=>fD r' λr'=>Bool.rec (motive:=λ_=>Prop) (Xux rec V id f (args.toList.map (evA A)++caps) k) (k r' .none) (Xhs 100 r')
      |none=>Xux rec V id f (args.toList.map (evA A)++caps) k
    |none=>Xux rec V id f (args.toList.map (evA A)++caps) k) k
  |a=>Xtb 76 a
 |op=>match pX T (evA A) V op with
  |some a=>fA a λa=>k a .none
  |none=>match mkF T (evA A) V id op with
   |some (a,.none)=>fA a λa=>k a .none
   |some (a,.new x)=>fA a λa=>fO fA x λx=>k a (.new x)
   |some (a,.app old x)=>fA a λa=>fN old λold=>fO sh x λx=>k a (.app old x)
   |none=>StkO id op
theorem Xsn {P:Program} {T:Ty} {rec:X4o} {A:Nat->AV} {V:X3} {id:Nat} {o:Oper} {k:AV->X1k->Prop} (hr:X3n P rec) (h:dopX T rec A V id o k):∃ a e,DOp P T A V id o a e/\k a e:=by
 unfold dopX at h;split at h
 ·rename_i x ho;rw[X3k] at h;exact⟨_,_,.pu (by rw[ho];exact .move),h⟩
 ·rename_i x ho;rw[X3k] at h;exact⟨_,_,.pu (by rw[ho];exact .assign),h⟩
 ·rename_i t p x ho;split at h
  ·rename_i hd;split at h
   ·rename_i hs;rw[X2o,X58 X4m] at h;obtain⟨i,k,y,e,ti,g1,g2,g3,g4,g5,g6,g7,g8,g9,rfl⟩:=Xcv hs;exact⟨_,_,.store ho hd g1 g2 g4 g5 g6 g7 g8 g9,h⟩
   ·rw[Xeb,Xeb] at h;cases h
  ·cases h
 ·rename_i x args ts ho;split at h
  ·rename_i f caps hx;split at h
   ·rename_i bs hm;rw[X9q] at h;obtain⟨r,H',n',hc,h⟩:=hr _ _ _ _ _ h;split at h
    ·rename_i q len y hnew;rw[X2o,X58 X3k] at h;obtain⟨e1,e2,e3,e4,e5⟩:=Xnq hnew;obtain⟨m1,m2⟩:=X3d hm;rw[X7o] at hc;refine⟨_,_,.callNew (y:=y) ho hx ⟨m1,λi a b ha hb=>X56 _ _ _ (m2 i a b ha hb)⟩ (λb hb M=>?_) (hc.mono λr2 H2 n2 hq=>⟨hq.1.trans e1,by rw[hq.2.1];exact e2⟩) e5 e3 e4,h⟩;obtain⟨i,hi⟩:=List.getElem?_of_mem hb;have hlt:i<(args.toList.map (evA A)++caps).length:=by rw[m1];exact(List.getElem?_eq_some_iff.1 hi).1
     exact Xky (X56 _ _ _ (m2 i _ b (List.getElem?_eq_getElem hlt) hi)) M
    split at h
    ·rename_i r' hcv;rw[Xeb] at h;obtain⟨m1,m2⟩:=X3d hm;rw[X7o] at hc;exact⟨_,_,.pure ho hx ⟨m1,λi a b ha hb=>X56 _ _ _ (m2 i a b ha hb)⟩ (X32.of_hc hc (Xh5 _ _ _ hcv)) (λ_ _ h=>by cases h) (.inr ⟨λ_=>rfl,Xky (Xh5 _ _ _ hcv)⟩),h⟩
    ·cases h
   rcases Xlx (id:=id) hr ho hx h with h|h
   case inr=>exact h
   split at h
   ·rename_i bs hm;rw[X9q] at h;obtain⟨r,H',n',hc,h⟩:=hr _ _ _ _ _ h;split at h
    ·exact Xa4 hr ho hx h
    split at h
    ·rename_i r' hcv;rw[Xeb] at h
     cases hown:Xhs 100 r' with
     |false=>rw[hown] at h;exact Xa4 hr ho hx h
     |true =>
      rw[hown] at h;obtain⟨m1,m2⟩:=X3d hm;rw[X7o] at hc;exact⟨_,_,.pure ho hx ⟨m1,λi a b ha hb=>X56 _ _ _ (m2 i a b ha hb)⟩ (X32.of_hc hc (Xh5 _ _ _ hcv)) (λ_ _ h=>h) (.inl (Xbz _ _ hown)),h⟩
    ·exact Xa4 hr ho hx h
   ·exact Xa4 hr ho hx h
  ·cases h
 ·split at h
  ·rename_i hp;rw[X4m] at h;exact⟨_,_,.pu (X02h hp),h⟩
  ·split at h
   ·rename_i hm;rw[X4m] at h;exact⟨_,_,.zero (X7m hm).1,h⟩
   ·rename_i hm;rw[X4m,X58 X4m] at h;obtain⟨h1,h2⟩:=X7m hm;have:=h2 0 _ (.inr rfl);exact⟨_,_,.new h1 this.1 this.2,h⟩
   ·rename_i hm;rw[X4m,X2o,X58 X3k] at h;obtain⟨h1,h2⟩:=X7m hm;have:=h2 _ _ (.inl rfl);exact⟨_,_,.app h1 this.1 this.2,h⟩
   ·cases h
def seeX (d:Nat):List (Nat×Nat)->Option Nat
 |[]=>none
 |(k,q)::r=>bif Nat.beq d k then some q else seeX d r
def X0xd:Op->Bool
 |.build _ _=>true
 |.call { callee:=.builtin .len,args:=_,argTypes:=_ }=>true
 |o=>X84 o
def hzX (l:List (Nat×Nat)) (o:Oper) (q:Nat):Bool :=
 X0xd o.op||(match o.dst with
  |some d=>match seeX d l with
   |some p=>!Nat.beq p q
   |none=>false
  |none=>false)
def Xdx (ops:List Oper):Nat->Operand->Option Nat
 |0,_=>none
 |f+1,.tmp t=>match ops.find? (λo=>match o.dst with|some d=>Nat.beq d t|none=>false) with
  |none=>some t
  |some o=>match o.op with
   |.move y=>Xdx ops f y
   |.assign y=>Xdx ops f y
   |.fieldAddr _ y _=>Xdx ops f y
   |.indexAddr _ y _=>Xdx ops f y
   |_=>none
 |_,_=>none
def X00v (ops:List Oper):List (Nat×Nat):=ops.filterMap λo=>match o.op,o.dst with
 |.load _ p,some d=>(Xdx ops 8 p).map λs=>(d,s)
 |.slice _ p _ _ _,some d=>(Xdx ops 8 p).map λs=>(d,s)
 |_,_=>none
def Xl1:Op->Bool
 |.store _ _ _=>true
 |.call { callee:=.builtin .append,args:=_,argTypes:=_ }=>true
 |_=>false
def Xnr:List Oper->List Nat->Nat->List Nat->Bool
 |o::l,m::ms,i,ls=>(Xl1 o.op&&ls.any λj=>!Nat.testBit m j)||Xnr l ms (i+1) (bif X84 o.op then ls else i::ls)
 |_,_,_,_=>false
noncomputable def Xm3 (F:FX) (l:List (Nat×Nat)):List (Nat×Nat)->((Oper->Nat->Bool)->Prop)->Prop :=
 List.rec (motive:=λ_=>List (Nat×Nat)->((Oper->Nat->Bool)->Prop)->Prop) (λacc k=>k (hzX acc)) (λp _ ih acc k=>match frX F p.2 with
  |.ptr q _ _=>fN q λq=>ih ((p.1,q)::acc) k
  |.ref q _ _=>fN q λq=>ih ((p.1,q)::acc) k
  |.list _ _=>ih ((p.1,1000000007)::acc) k
  |.elem _ _ _=>ih ((p.1,1000000007)::acc) k
  |_=>ih acc k) l
theorem Xm2 {F:FX}:∀ (l acc:List (Nat×Nat)) (k:(Oper->Nat->Bool)->Prop),Xm3 F l acc k->∃ hz,k hz:=by
 intro l
 induction l with
 |nil=>intro acc k h;exact⟨_,h⟩
 |cons p l ih =>
  intro acc k h;have h:(match frX F p.2 with
   |.ptr q _ _=>fN q λq=>Xm3 F l ((p.1,q)::acc) k
   |.ref q _ _=>fN q λq=>Xm3 F l ((p.1,q)::acc) k
   |.list _ _=>Xm3 F l ((p.1,1000000007)::acc) k
   |.elem _ _ _=>Xm3 F l ((p.1,1000000007)::acc) k
   |_=>Xm3 F l acc k):=h
  split at h
  ·rw[X2o] at h;exact ih _ _ h
  ·rw[X2o] at h;exact ih _ _ h
  ·exact ih _ _ h
  ·exact ih _ _ h
  ·exact ih _ _ h
noncomputable def hzK (ops:List Oper) (F:FX) (k:(Oper->Nat->Bool)->Prop):Prop :=
 Bool.rec (motive:=λ_=>Prop) (k hz0) (Xm3 F (X00v ops) [] k) (Xnr ops (X0k ops) 0 [])
theorem Xkp {ops:List Oper} {F:FX} {k:(Oper->Nat->Bool)->Prop} (h:hzK ops F k):∃ hz,k hz:=by
 unfold hzK at h
 cases hb:Xnr ops (X0k ops) 0 [] with
 |false=>rw[hb] at h;exact⟨_,h⟩
 |true=>rw[hb] at h;exact Xm2 _ _ _ h
noncomputable def wkQ (base mk:Nat) (os:List Nat) (hs:List (Nat×(Nat->Bool))) (es:List X1k):Bool :=
 List.rec (motive:=λ_=>Bool) true (λ_ _ _=>X29 base mk os 0 hs [] es) os
theorem Xv8 {base mk:Nat} {os:List Nat} {hs:List (Nat×(Nat->Bool))} {es:List X1k}:wkQ base mk os hs es=X29 base mk os 0 hs [] es:=by
 cases os with
 |nil=>exact(X88 (i:=0) es 0 hs []).symm
 |cons a l=>rfl
noncomputable def drX (T:Ty) (rec:X4o) (hz:Oper->Nat->Bool) (nt base:Nat) (ops:Array Oper) (ms:List Nat) (hs:List (Nat×(Nat->Bool))) (l:List Oper):Nat->FX->HX->List X1k->(FX->HX->Prop)->Prop :=
 List.rec (motive:=λ_=>Nat->FX->HX->List X1k->(FX->HX->Prop)->Prop) (λ_ F H _ k=>k F H) (λo _ ih i F H es k =>
  Bool.rec (motive:=λ_=>Prop) (stk 81) (gdX nt ops (frD (X2c i (ms.getD i 0) 0 ops.toList ms) (frX F)) o
   (dopX T rec (frD (X2c i (ms.getD i 0) 0 ops.toList ms) (frX F)) (hpD base (ms.getD i 0) (hz o) es (hpX H)) (base+i) o λa e=>Xl3 (base+i) H e λH' =>
    Bool.rec (motive:=λ_=>Prop) (StkO (base+i) o.op) (X77 F o.dst a λF=>ih (i+1) F H' (es++[e]) k) (wkQ base (ms.getD i 0) (e.objs (base+i)) (hs.take i) es))
   (X77 F o.dst (.sc undef) λF=>ih (i+1) F H (es++[.none]) k)) (X39 nt (X2c i (ms.getD i 0) 0 ops.toList ms) o.dst)) l
theorem Xkw {P:Program} {T:Ty} {rec:X4o} {hz:Oper->Nat->Bool} {nt base:Nat} {ops:Array Oper} {ms:List Nat} (hnt:nt<=324) (hr:X3n P rec):∀ (l:List Oper) (i:Nat) (F:FX) (H:HX) (es:List X1k) (k:FX->HX->Prop),
  drX T rec hz nt base ops ms (ms.zip (ops.toList.map hz)) l i F H es k->∃ F' H',k F' H'/\Xdo hz P T nt base ops ms i l (frX F) (hpX H) es (frX F') (hpX H'):=by
 intro l
 induction l with
 |nil=>intro i F H es k h;exact⟨F,H,h,.nil⟩
 |cons o l ih =>
  intro i F H es k h;have h:Bool.rec (motive:=λ_=>Prop) (stk 81) (gdX nt ops (frD (X2c i (ms.getD i 0) 0 ops.toList ms) (frX F)) o
   (dopX T rec (frD (X2c i (ms.getD i 0) 0 ops.toList ms) (frX F)) (hpD base (ms.getD i 0) (hz o) es (hpX H)) (base+i) o λa e=>Xl3 (base+i) H e λH' =>
    Bool.rec (motive:=λ_=>Prop) (StkO (base+i) o.op) (X77 F o.dst a λF=>drX T rec hz nt base ops ms (ms.zip (ops.toList.map hz)) l (i+1) F H' (es++[e]) k) (wkQ base (ms.getD i 0) (e.objs (base+i)) ((ms.zip (ops.toList.map hz)).take i) es))
   (X77 F o.dst (.sc undef) λF=>drX T rec hz nt base ops ms (ms.zip (ops.toList.map hz)) l (i+1) F H (es++[.none]) k)) (X39 nt (X2c i (ms.getD i 0) 0 ops.toList ms) o.dst):=h
  cases hd:X39 nt (X2c i (ms.getD i 0) 0 ops.toList ms) o.dst with
  |false=>rw[hd] at h;cases h
  |true =>
   rw[hd] at h;have hd2:∀ t,o.dst=some t->t<324:=λt ht=>Nat.lt_of_lt_of_le (X1s (Xgt hd) t ht) hnt;rcases X075 h with ⟨h,hg⟩|⟨h,j,want,t,v,hg,hj,ht,hv,hb⟩
   ·obtain⟨a,e,hop,h⟩:=Xsn hr h;obtain⟨H1,hH,h⟩:=Xi0 h;rw[Xv8] at h
    cases hw:X29 base (ms.getD i 0) (e.objs (base+i)) 0 ((ms.zip (ops.toList.map hz)).take i) [] es with
    |false=>rw[hw] at h;cases h
    |true =>
     rw[hw] at h;obtain⟨F1,hF,h⟩:=X6k hd2 h;obtain⟨F',H',hk,hrun⟩:=ih _ _ _ _ _ h;refine⟨F',H',hk,?_⟩;rw[hF,hH] at hrun;rcases hg with hgn|⟨j,want,t,hg,hj,ht,hv⟩
     ·exact .op hgn hd hop hw hrun
     ·exact .run hg hd hj ht hv hop hw hrun
   ·obtain⟨F1,hF,h⟩:=X6k hd2 h;obtain⟨F',H',hk,hrun⟩:=ih _ _ _ _ _ h;rw[hF] at hrun;exact⟨F',H',hk,.skip hg hd hj ht hv hb hrun⟩
noncomputable def Xsx (a:AV) (t e:Prop):Prop :=
 AV.casesOn (motive_1:=λ_=>Prop) a (stk 93) (λv=>Value.casesOn (motive_1:=λ_=>Prop) v (λb=>Bool.rec (motive:=λ_=>Prop) e t b) (λ_ _=>stk 92) (λ_ _=>stk 92) (λ_ _ _=>stk 92) (λ_=>stk 92)
  (λ_=>stk 92) (λ_ _ _=>stk 92) (λ_=>stk 92) (λ_=>stk 92) (λ_ _ _=>stk 92) (stk 92) (λ_ _=>stk 92) (stk 92) (λ_=>stk 92) (λ_=>stk 92))
  (stk 93) (λ_=>stk 93) (λ_=>stk 93) (λ_ _=>stk 93) (λ_ _ _=>stk 93) (λ_ _ _=>stk 93) (λ_ _ _=>stk 93) (λ_ _=>stk 93) (λ_ _=>stk 93) (λ_ _=>stk 93) (λ_ _=>stk 93)
theorem Xjl {a:AV} {t e:Prop} (h:Xsx a t e):(a=.sc (.bool true)/\t)\/(a=.sc (.bool false)/\e):=by
 cases a with
 |sc v =>
  cases v with
  |bool b=>cases b with
   |true=>exact .inl ⟨rfl,h⟩
   |false=>exact .inr ⟨rfl,h⟩
  |_=>cases h
 |_=>cases h
end Go.Av.X


namespace Go.Av.X
variable [Gls]
open Go.Av
noncomputable def Xv3 (as:List AV):Nat->FX->(FX->Prop)->Prop :=
 List.rec (motive:=λ_=>Nat->FX->(FX->Prop)->Prop) (λ_ F k=>k F) (λa _ ih i F k=>Xbu F i a λF=>ih (i+1) F k) as
theorem Xt6:∀ (as:List AV) (i:Nat) (F:FX) (k:FX->Prop),i+as.length<=324->Xv3 as i F k->∃ F',k F'/\∀ t,frX F' t=if i<=t/\t<i+as.length then (as[t - i]?).getD (.sc undef) else frX F t:=by
 intro as
 induction as with
 |nil=>intro i F k _ h;exact⟨F,h,λt=>by rw[if_neg (by simp)]⟩
 |cons a as ih =>
  intro i F k hl h;simp only[List.length_cons] at hl;have h:Xbu F i a (λF=>Xv3 as (i+1) F k):=h;rw[X8d] at h;obtain⟨F',hk,hF⟩:=ih _ _ _ om h;refine⟨F',hk,λt=>?_⟩;rw[hF,X7c F i om];by_cases ht:t=i
  ·subst ht;rw[if_neg om,X1,if_pos (by simp)];simp
  ·by_cases h2:i+1<=t/\t<i+1+as.length
   ·rw[if_pos h2,if_pos ⟨by omega,by simp only[List.length_cons];omega⟩,show t - i=(t - (i+1))+1 by omega,List.getElem?_cons_succ]
   ·rw[if_neg h2,X0 _ _ ht,if_neg];simp only[List.length_cons];omega
theorem Xhi {as:List AV} {k:FX->Prop} (hl:as.length<=324) (h:Xv3 as 0 f4 k):∃ F',k F'/\frX F'=X6a as:=by
 obtain⟨F',hk,hF⟩:=Xt6 as 0 f4 k om h;refine⟨F',hk,?_⟩;funext t
 rw[hF,X077];unfold X6a;by_cases ht:t<as.length
 ·rw[if_pos ⟨Nat.zero_le _,by omega⟩,Nat.sub_zero]
 ·rw[if_neg om,List.getElem?_eq_none om];rfl
def Xmj (T:Ty) (A:Nat->AV) (H:X3):List ResultVar->Option (List AV)
 |[]=>some []
 |.tmp t::l=>match Xmj T A H l with
  |some r=>some (X24 (A t)::r)
  |none=>none
 |.cell p t::l=>match T t with
  |some ti=>match X9r H (X24 (A p)) with
   |some (e,k)=>match X67 ti e k with
    |some a=>match Xmj T A H l with
     |some r=>some (a::r)
     |none=>none
    |none=>none
   |none=>none
  |none=>none
theorem Xmi {T:Ty} {s:St}:∀ (l:List ResultVar) (r:List AV),Xmj T s.A s.H l=some r->X59 T s l r:=by
 intro l
 induction l with
 |nil=>intro r h;simp[Xmj] at h;subst h;exact .nil
 |cons v l ih =>
  intro r h
  cases v with
  |tmp t =>
   simp only[Xmj] at h;split at h
   ·rename_i hr;cases h;exact .cons .tmp (ih _ hr)
   ·cases h
  |cell p t =>
   simp only[Xmj] at h;split at h
   ·split at h
    ·split at h
     ·split at h
      ·rename_i ht _ _ _ hd _ _ hl _ _ hr;cases h
       exact .cons (.cell ht (X8u hd) hl) (ih _ hr)
      ·cases h
     ·cases h
    ·cases h
   ·cases h
noncomputable def retX (T:Ty) (l:List ResultVar) (F:FX) (H:HX) (n:Nat) (k:AV->HX->Nat->Prop):Prop :=
 match Xmj T (frX F) (hpX H) l with
 |some rs=>fsp fA rs λrs=>sh (X4k rs) λa=>k a H n
 |none=>stk 101
end Go.Av.X


namespace Go.Av
variable [Gls]
open MapKept
noncomputable def X71 (k v:Value):List (Value×Value)->List (Value×Value)
 |[]=>[(k,v)]
 |(a,b)::r=>open Classical in if a=k then (k,v)::r else (a,b)::X71 k v r
noncomputable def Xam (k:Value):List (Value×Value)->Option Value
 |[]=>none
 |(a,b)::r=>open Classical in if a=k then some b else Xam k r
theorem Xfe {k v:Value}:∀ (l:List (Value×Value)) (j:Nat) (p:Value×Value),l[j]?=some p->p.1=k->(∀ i q,i<j->l[i]?=some q->q.1≠k)->X71 k v l=l.set j (k,v)/\Xam k l=some p.2:=by
 intro l
 induction l with
 |nil=>intro j p h;simp at h
 |cons a r ih =>
  obtain⟨a1,a2⟩:=a;intro j p h hk hn
  cases j with
  |zero=>simp at h;subst h;simp only at hk;simp[X71,Xam,hk]
  |succ j =>
   have h0:a1≠k:=hn 0 (a1,a2) (Nat.succ_pos j) rfl;obtain⟨h1,h2⟩:=ih j p (by simpa using h) hk (λi q hi hq=>hn (i+1) q (Nat.succ_lt_succ hi) (by simpa using hq));simp[X71,Xam,h0,h1,h2]
theorem Xcw {k v:Value}:∀ (l:List (Value×Value)),(∀ q∈l,q.1≠k)->X71 k v l=l++[(k,v)]/\Xam k l=none:=by
 intro l
 induction l with
 |nil=>intro _;exact⟨rfl,rfl⟩
 |cons a r ih =>
  obtain⟨a1,a2⟩:=a;intro hn;have h0:a1≠k:=hn (a1,a2) (by simp);obtain⟨h1,h2⟩:=ih (λq hq=>hn q (List.mem_cons_of_mem _ hq));simp[X71,Xam,h0,h1,h2]
theorem X6x {d:TypeDesc} {k:Value} (hk:IsKey d k):∀ (l:List MapEntry) (i:Nat),(∀ x∈l,IsKey d x.key) ->
  (Instr.findNow d k l i=some none/\∀ x∈l,x.key≠k)\/∃ j e,Instr.findNow d k l i=some (some (i+j,e.val))/\l[j]?=some e/\e.key=k/\∀ m x,m<j->l[m]?=some x->x.key≠k:=by
 intro l
 induction l with
 |nil=>intro i _;exact .inl ⟨rfl,by simp⟩
 |cons e es ih =>
  intro i h;obtain⟨r,hr,hiff⟩:=sameNow_of_keys hk (h e (by simp))
  cases r with
  |true=>exact .inr ⟨0,e,by simp[Instr.findNow,hr],rfl,(hiff.1 rfl).symm,λm x hm=>absurd hm (Nat.not_lt_zero m)⟩
  |false =>
   have hne:e.key≠k:=λq=>by have:=hiff.2 q.symm;cases this
   rcases ih (i+1) (λx hx=>h x (List.mem_cons_of_mem _ hx)) with ⟨h1,h2⟩|⟨j,e',h1,h2,h3,h4⟩
   ·exact .inl ⟨by simp[Instr.findNow,hr,h1],λx hx=>by
     rcases List.mem_cons.1 hx with rfl|hx
     ·exact hne
     ·exact h2 x hx⟩
   ·refine .inr ⟨j+1,e',by simp[Instr.findNow,hr,h1];omega,by simpa using h2,h3,λm x hm hx=>?_⟩
    cases m with
    |zero=>simp at hx;subst hx;exact hne
    |succ m=>exact h4 m x om (by simpa using hx)
theorem Xaw {d:TypeDesc} {k:Value} (hk:IsKey d k) (n:Nat):Instr.sameBits (n+1) k k=true:=by
 cases d<;>cases k<;>simp_all [IsKey,Instr.sameBits,bytes_beq]
theorem X7w {P:Program} {w:World} {b:Nat} {l:List (Value×Value)} {t kt et:TypeId} {d:TypeDesc} {k v:Value} (hm:P.underlying t=some (.map kt et)) (hd:P.underlying kt=some d)
  (hM:Xem w b l) (hk:IsKey d k) (hks:∀ p∈l,IsKey d p.1) :
  ∃ o',(Instr.mapUpdate t (.map (some b)) k v).run P w=.ok () { w with heap:=w.heap.setIfInBounds b o' }/\Xem { w with heap:=w.heap.setIfInBounds b o' } b (X71 k v l):=by
 obtain⟨es,clock,hb,hl,hp,hc⟩:=hM;have hes:∀ x∈es.toList,IsKey d x.key:=λx hx=>hks (x.key,x.val) (by rw[<-hl];exact List.mem_map.2 ⟨x,hx,rfl⟩);have hset:∀ o',(w.heap.setIfInBounds b o')[b]?=some o':=λo'=>(heap_set (o':=o') hb).1;rcases X6x hk es.toList 0 hes with ⟨h1,h2⟩|⟨j,e,h1,h2,h3,h4⟩
 ·refine⟨.map (es.push { key:=k,val:=v,born:=clock }) (clock+1),?_,es.push { key:=k,val:=v,born:=clock },clock+1,hset _,?_,?_,?_⟩
  ·simp[Instr.mapUpdate,run_underlying hm,MapKept.run_getObj_map hb,run_checkKey hd hk,run_findKey hd h1,MapKept.run_setObj_map _ hb]
  ·rw[Array.toList_push,List.map_append,hl];rw[(Xcw (v:=v) l (λq hq=>by
    rw[<-hl] at hq;obtain⟨x,hx,rfl⟩:=List.mem_map.1 hq;exact h2 x hx)).1]
   rfl
  ·rw[Array.toList_push];exact List.pairwise_append.2 ⟨hp,List.pairwise_singleton _ _,λa ha b' hb'=>by rw[List.mem_singleton.1 hb'];exact hc a ha⟩
  ·intro x hx;rw[Array.toList_push,List.mem_append] at hx;rcases hx with hx|hx
   ·exact Nat.lt_succ_of_lt (hc x hx)
   ·rw[List.mem_singleton.1 hx];exact Nat.lt_succ_self _
 ·have he:es[j]?=some e:=by simpa using h2
  have hlj:l[j]?=some (e.key,e.val):=by rw[<-hl,List.getElem?_map,h2];rfl
  have hm2:(es.modify j λe=>{ e with key:=k,val:=v }).toList=es.toList.modify j λe=>{ e with key:=k,val:=v }:=by simp
  refine⟨.map (es.modify j λe=>{ e with key:=k,val:=v }) clock,?_,es.modify j λe=>{ e with key:=k,val:=v },clock,hset _,?_,?_,?_⟩
  ·have hst:(Instr.keyThatStays k k).run P w=.ok k w:=by simp[Instr.keyThatStays,Xaw hk]
   simp only[Nat.zero_add] at h1;simp[Instr.mapUpdate,run_underlying hm,MapKept.run_getObj_map hb,run_checkKey hd hk,run_findKey hd h1,he,h3,hst,MapKept.run_setObj_map _ hb]
  ·rw[hm2,(Xfe (v:=v) l j _ hlj h3 (λi q hi hq=>by
    rw[<-hl,List.getElem?_map] at hq
    cases hx:es.toList[i]? with
    |none=>rw[hx] at hq;cases hq
    |some x=>rw[hx] at hq;cases hq;exact h4 i x hi hx)).1,<-hl]
   apply List.ext_getElem?;intro i;simp only[List.getElem?_map,List.getElem?_modify,List.getElem?_set];by_cases hij:j=i
   ·subst hij;have hlt:j<es.toList.length:=(List.getElem?_eq_some_iff.1 h2).1;simp[he] at *;simpa using hlt
   ·simp[hij]
  ·rw[hm2];refine List.pairwise_iff_getElem.2 λi i' hi hi' hlt=>?_;have:=List.pairwise_iff_getElem.1 hp i i' (by simpa using hi) (by simpa using hi') hlt;simp only[List.getElem_modify];split<;>split<;>exact this
  ·intro x hx;rw[hm2] at hx;obtain⟨i,hi⟩:=List.getElem?_of_mem hx;rw[List.getElem?_modify] at hi
   cases hy:es.toList[i]? with
   |none=>rw[hy] at hi;simp at hi
   |some y =>
    rw[hy] at hi;have:=hc y (List.mem_of_getElem? hy);by_cases hij:j=i
    ·simp[hij] at hi;rw[<-hi];exact this
    ·simp[hij] at hi;rw[<-hi];exact this
theorem Inv.aside {c:Ctx} {H:X3} {M:Nat->Prop} (hI:Inv c H M) {b:Nat} {w':World} (hsz:w'.heap.size=c.w.heap.size) (hw:∀ q,q≠b->w'.heap[q]?=c.w.heap[q]?) (hsa:¬ c.Sa b/\¬ c.So b) (hob:∀ o x,H o=some x->(c.ρ o).blk≠b) :
  c.Le M { c with w:=w' }/\Inv { c with w:=w' } H M:=by
 have hle:c.Le M { c with w:=w' }:=⟨λ_ _=>rfl,λ_ h=>h,λ_ h=>h,λq hq=>hw q (λe=>by subst e;exact hq.elim hsa.1 hsa.2),rfl⟩;refine⟨hle,⟨?_,hI.sep,hI.stab,λq hq=>by have:=hI.lt q hq;simp only[hsz];exact this,by have:=hI.base;simp only[hsz];exact this,hI.own,hI.low,hI.glob.mono hle⟩⟩;intro p x hx;obtain⟨h1,⟨⟨cur,hb,hs,hc⟩,h3,h4,h5⟩,h6⟩:=hI.obj p x hx;refine⟨h1,⟨⟨cur,?_,hs,?_⟩,h3,h4,h5⟩,h6⟩
 ·show w'.heap[(c.ρ p).blk]?=_;rw[hw _ (hob p x hx)];exact hb
 ·intro i e he;obtain⟨g1,g2⟩:=hc i e he;exact⟨g1,λk a ha=>by obtain⟨v,hv,hr,h7⟩:=g2 k a ha;exact⟨v,hv,hr.mono hle (.inr (h6 e (List.mem_of_getElem? he) a (List.mem_of_getElem? ha))),h7⟩⟩
section
variable {P:Program} {nt n0:Nat} {Q:X2->St->Mu->Prop} {ops:Array Oper} {l:List Oper} {o:Oper} {K:List Kn} {L:List (Nat×AV)} {G:List (Nat×Obj)} {n:Nat} {μ:Mu}
theorem X7e {P:Program} (t:TypeId) (w:World):(Instr.makeMap t none).run P w=.ok (.map (some w.heap.size)) (w.alloc (.map #[] 0)):=rfl
theorem Xk.mapNew {t:Nat} (ho:o.op=.makeMap t none) (hg:o.guard=none) (hd:X45 nt o.dst=true)
  (h:∀ b,Xk P nt n0 Q (.ops ops l) K ⟨fr (Xdz o.dst (.sc (.map (some b))) L),hp G,n⟩ ((b,.map [])::μ)):Xk P nt n0 Q (.ops ops (o::l)) K ⟨fr L,hp G,n⟩ μ:=by
 intro c0 H0 c act g hm Qx hQ R hR;refine X0s λK' hK'=>?_;rw[if_pos (by simp[Region.wanted,hg])];have hrun:(execOp act.eval o).run P c.w=.ok (.value (.map (some c.w.heap.size))) (c.w.alloc (.map #[] 0)):=by
  obtain⟨dst,op,type,pos,after,guard⟩:=o;simp only at ho;subst ho;simp only[execOp,Sem.run_bind,X7e];rfl
 refine Oper.wpR (λd hd=>by rw[hd] at ho;cases ho) ?_;unfold Oper.wp;rw[hrun];obtain⟨h1,h2,h3⟩:=g.inv.waste (w':=c.w.alloc (.map #[] 0)) (.map #[] 0) rfl rfl rfl ⟨rfl,Nat.le_refl _⟩;have g2:=(g.rebase).next (c':={ c with w:=c.w.alloc (.map #[] 0) }) (dst:=o.dst) (a:=.sc (.map (some c.w.heap.size))) (v:=.map (some c.w.heap.size)) (X1s hd) h1 rfl (λb hb=>.inl hb) h3 (λq x hx=>.inr ⟨q,x,hx,rfl⟩) h2 g.solo (Nat.le_refl _) .sc .sc;have hk:=hm.kept g2.reach;have hnew:(c.w.alloc (.map #[] 0)).heap[c.w.heap.size]?=some (.map #[] 0):=(heap_alloc c.w _).1;have hb:=h c.w.heap.size;rw[X2a] at hb;refine hK' _ _ (hb c0 H0 { c with w:=c.w.alloc (.map #[] 0) } _ (.join g.reach g2) ⟨?_,?_,?_,(put_defers _ _ _).trans hm.ds⟩ Qx hQ R hR)
 ·intro p hp;rcases List.mem_cons.1 hp with rfl|hp
  ·exact⟨#[],0,hnew,rfl,List.Pairwise.nil,λe he=>by simp at he⟩
  ·exact hk.is p hp
 ·intro p hp;rcases List.mem_cons.1 hp with rfl|hp
  ·refine⟨λhs=>Nat.lt_irrefl _ (g.inv.lt _ (.inl hs)),λhs=>Nat.lt_irrefl _ (g.inv.lt _ (.inr hs)),λq x hx he=>?_,⟨by rw[<-g.reach.B];exact g.inv.base,.inl g.reach.size⟩⟩;obtain⟨_,⟨⟨cur,hcb,_⟩,_,_,_⟩,_⟩:=g.inv.obj q x hx;have he':(c.ρ q).blk=c.w.heap.size:=he;rw[he'] at hcb;simp at hcb
  ·exact hk.away p hp
 ·refine List.nodup_cons.2 ⟨λhmem=>?_,hk.nodup⟩;obtain⟨p,hp,he⟩:=List.mem_map.1 hmem;have:=(hm.is p hp).lt;simp only at he;omega
theorem Xk.mapUpd {T:Ty} {t b kt et:Nat} {m k x:Operand} {qm qk qx:List Prop} {kv xv:Value} {es:List (Value×Value)} {ti:TI} {d:TypeDesc} (hT:X2i P T) (ho:o.op=.mapUpdate t m k x) (hg:o.guard=none) (hd:o.dst=none)
  (ht:T t=some ti) (hkd:ti.kind=.map kt et) (hu:P.underlying kt=some d)
  (hm:rd L m=(.sc (.map (some b)),qm)) (hk:rd L k=(.sc kv,qk)) (hx:rd L x=(.sc xv,qx)) (hqm:X28 qm) (hqk:X28 qk) (hqx:X28 qx) (hik:IsKey d kv) (hks:∀ p∈es,IsKey d p.1)
  (h:Xk P nt n0 Q (.ops ops l) K ⟨fr L,hp G,n⟩ ((b,X71 kv xv es)::μ)):Xk P nt n0 Q (.ops ops (o::l)) K ⟨fr L,hp G,n⟩ ((b,es)::μ):=by
 intro c0 H0 c act g hM Qx hQ R hR;refine X0s λK' hK'=>?_;rw[if_pos (by simp[Region.wanted,hg])];have em:act.eval m=.map (some b):=by have:=g.ev m;rw[show evA (St.A ⟨fr L,hp G,n⟩) m=_ from Xq hm hqm] at this;exact this.sc_inv
 have ek:act.eval k=kv:=by have:=g.ev k;rw[show evA (St.A ⟨fr L,hp G,n⟩) k=_ from Xq hk hqk] at this;exact this.sc_inv
 have ex:act.eval x=xv:=by have:=g.ev x;rw[show evA (St.A ⟨fr L,hp G,n⟩) x=_ from Xq hx hqx] at this;exact this.sc_inv
 have hu1:P.underlying t=some (.map kt et):=by
  obtain⟨i,dd,_,hdd,_,hkk,_⟩:=X0l (hT t ti ht);rw[hkd] at hkk;cases dd<;>simp[X31] at hkk
  obtain⟨rfl,rfl⟩:=hkk;exact hdd
 obtain⟨o',hrun,hmap⟩:=X7w (v:=xv) hu1 hu (hM.is (b,es) (by simp)) hik hks;have hex:(execOp act.eval o).run P c.w=.ok .skip { c.w with heap:=c.w.heap.setIfInBounds b o' }:=by
  obtain⟨dst,op,type,pos,after,guard⟩:=o;simp only at ho;subst ho;simp only[execOp,em,ek,ex,Sem.run_bind,hrun];rfl
 refine Oper.wpR (λd hd=>by rw[hd] at ho;cases ho) ?_;unfold Oper.wp;rw[hex];obtain⟨a1,a2,a3,a4⟩:=hM.away (b,es) (by simp);obtain⟨es0,cl,hb0,_⟩:=hM.is (b,es) (by simp);have hoth:∀ q,q≠b->({ c.w with heap:=c.w.heap.setIfInBounds b o' }:World).heap[q]?=c.w.heap[q]?:=(heap_set (o':=o') hb0).2;obtain⟨h1,h2⟩:=g.inv.aside (w':={ c.w with heap:=c.w.heap.setIfInBounds b o' }) (by simp) hoth ⟨a1,a2⟩ a3;have g2:X1r nt c0 H0 n0 { c with w:={ c.w with heap:=c.w.heap.setIfInBounds b o' } } ⟨fr L,hp G,n⟩ act:=by
  refine⟨h2,g.solo,λq=>(g.frame q).mono h1 (.inr (g.ok q)),g.ok,g.size,?_,g.le0⟩;have r:=g.reach;refine⟨r.rho,r.os,r.tape,⟨r.output.1,Nat.le_trans r.output.2 (by first|exact Nat.le_refl _|exact X4e (Nat.le_succ _)|(simp;done)|(simp;omega))⟩,by simpa using r.size,λq hq hn=>?_,λq hq=>?_,r.sa,r.so1,r.so2,r.B,r.own⟩
  ·exact(hoth q (λe=>by subst e;exact(a4.no hq hn).elim)).trans (r.block q hq hn)
  ·refine(hoth q (λe=>?_)).trans (r.stable q hq);subst e;rcases hq with hq|hq
   ·exact a1 (by rw[r.sa];exact hq)
   ·exact a2 (r.so1 _ hq)
 have hact:act.put o.dst undef=act:=by rw[hd];rfl
 have hMs:MOk n0 c0 H0 { c with w:={ c.w with heap:=c.w.heap.setIfInBounds b o' } } (hp G) ((b,X71 kv xv es)::μ) act:=by
  refine⟨λp hp=>?_,λp hp=>?_,?_,hM.ds⟩
  ·rcases List.mem_cons.1 hp with rfl|hp
   ·exact hmap
   ·have hne:p.1≠b:=λe=>(List.nodup_cons.1 hM.nodup).1 (List.mem_map.2 ⟨p,hp,e⟩);exact(hM.is p (List.mem_cons_of_mem _ hp)).le (hoth _ hne) (h1.weaken λq hq=>Nat.lt_of_lt_of_le hq g.le0)
  ·rcases List.mem_cons.1 hp with rfl|hp
   ·exact hM.away (b,es) (by simp)
   ·exact hM.away p (List.mem_cons_of_mem _ hp)
  ·exact hM.nodup
 have:=hK' act { c.w with heap:=c.w.heap.setIfInBounds b o' } (h c0 H0 _ act g2 hMs Qx hQ R hR);show K' (act.put o.dst undef) _;rw[hact];exact this
theorem Xk.mapLen {T:Ty} {t b kt et:Nat} {x:Operand} {qx:List Prop} {es:List (Value×Value)} {ti:TI} (hT:X2i P T) (ho:o.op=.call { callee:=.builtin .len,args:=#[x],argTypes:=#[t] }) (hg:o.guard=none) (hd:X45 nt o.dst=true)
  (ht:T t=some ti) (hkd:ti.kind=.map kt et) (hx:rd L x=(.sc (.map (some b)),qx)) (hqx:X28 qx)
  (h:Xk P nt n0 Q (.ops ops l) K ⟨fr (Xdz o.dst (.sc (.int .i64 es.length)) L),hp G,n⟩ ((b,es)::μ)):Xk P nt n0 Q (.ops ops (o::l)) K ⟨fr L,hp G,n⟩ ((b,es)::μ):=by
 intro c0 H0 c act g hM Qx hQ R hR;refine X0s λK' hK'=>?_;rw[if_pos (by simp[Region.wanted,hg])];have ex:act.eval x=.map (some b):=by have:=g.ev x;rw[show evA (St.A ⟨fr L,hp G,n⟩) x=_ from Xq hx hqx] at this;exact this.sc_inv
 have hu1:P.underlying t=some (.map kt et):=by
  obtain⟨i,dd,_,hdd,_,hkk,_⟩:=X0l (hT t ti ht);rw[hkd] at hkk;cases dd<;>simp[X31] at hkk
  obtain⟨rfl,rfl⟩:=hkk;exact hdd
 obtain⟨es0,cl,hb0,hl,_⟩:=hM.is (b,es) (by simp);have hsz:es0.size=es.length:=by have hl':es0.toList.map (λe=>(e.key,e.val))=es:=hl;rw[<-hl'];simp
 have hex:(execOp act.eval o).run P c.w=.ok (.value (.int .i64 es.length)) c.w:=by
  obtain⟨dst,op,type,pos,after,guard⟩:=o;simp only at ho;subst ho;simp[execOp,resolve,invoke,builtin,Builtin.len_,ex,run_underlying hu1,MapKept.run_getObj_map hb0,goInt,hsz]
 refine Oper.wpR (λd hd=>by rw[hd] at ho;cases ho) ?_;unfold Oper.wp;rw[hex];have g2:=g.next (c':=c) (dst:=o.dst) (a:=.sc (.int .i64 es.length)) (v:=.int .i64 es.length) (X1s hd) (.refl c) rfl (λb hb=>.inl hb) (.refl c (hp G)) (λq x hx=>.inr ⟨q,x,hx,rfl⟩) g.inv g.solo (Nat.le_refl _) .sc .sc;rw[X2a] at h;exact hK' _ _ (h c0 H0 c _ g2 hM.act Qx hQ R hR)
end
end Go.Av
namespace Go.D
def Xae (ks:List Int) (z:Int):List Int:=if z∈ks then ks else ks++[z]
def X6z (ks:List Int):List Int->List Int
 |[]=>ks
 |z::zs=>X6z (Xae ks z) zs
end Go.D
namespace Go.Av
variable [Gls]
def X96 (z:Int):Value×Value:=(.int .i64 z,.bool true)
end Go.Av


namespace Go.Av
variable [Gls]
structure Xcm (c:Ctx) (H:X3) (b:Nat):Prop where
 sa:¬ c.Sa b
 so:¬ c.So b
 ob:∀ o x,H o=some x->(c.ρ o).blk≠b
theorem Xcm.kept {c c':Ctx} {H H':X3} {n b:Nat} (h:Xcm c H b) (hb:b<c.w.heap.size) (r:Reach c H n c' H'):Xcm c' H' b:=by
 refine⟨by rw[r.sa];exact h.sa,λhs=>?_,λo x hx he=>?_⟩
 ·rcases r.so2 _ hs with h1|h1|⟨o,x,h1,h2⟩
  ·exact h.so h1
  ·omega
  ·exact h.ob o x h1 h2
 ·rcases r.own o x hx with h1|⟨o',x',h1,h2⟩
  ·omega
  ·exact h.ob o' x' h1 (h2.trans he)
theorem Reach.weaken {c c':Ctx} {H H':X3} {n n':Nat} (r:Reach c H n c' H') (h:n'<=n):Reach c H n' c' H' :=
 ⟨λo ho=>r.rho o (Nat.lt_of_lt_of_le ho h),r.os,r.tape,r.output,r.size,r.block,r.stable,r.sa,r.so1,r.so2,r.B,r.own⟩
theorem X1r.turn0 {nt n0:Nat} {c0 c:Ctx} {H0:X3} {s:St} {act:Act} {b:Nat} (o:Go.Obj) (g:X1r nt c0 H0 n0 c s act) (h:Xcm c s.H b) :
  X1r nt { c with w:=c.w.putObj b o } s.H n0 { c with w:=c.w.putObj b o } s act/\c.Le (λ_=>True) { c with w:=c.w.putObj b o }:=by
 have hother:∀ k,k≠b->(c.w.putObj b o).heap[k]?=c.w.heap[k]?:=λk hk=>World.putObj_heap_other hk;have hle:c.Le (λ_=>True) { c with w:=c.w.putObj b o } :=
  ⟨λ_ _=>rfl,λ_ h=>h,λ_ h=>h,λk hk=>hother k (λe=>by subst e;exact hk.elim h.sa h.so),rfl⟩
 have all:∀ {a:AV} {M:Nat->Prop},a.Ok M->a.Ok (λ_=>True):=λh=>h.mono λ_ _=>trivial;refine⟨⟨⟨λq x hx=>?_,g.inv.sep,g.inv.stab,λk hk=>?_,?_,g.inv.own,g.inv.low,g.inv.glob.mono hle⟩,g.solo,λt=>(g.frame t).mono hle (.inr (all (g.ok t))),g.ok,g.size,.refl _ _ _,g.le0⟩,hle⟩
 ·obtain⟨i1,⟨⟨cur,hb,hs,hc⟩,i3,i4,i5⟩,i6⟩:=g.inv.obj q x hx;refine⟨i1,⟨⟨cur,(hother _ (h.ob q x hx)).trans hb,hs,λi e he=>?_⟩,i3,i4,i5⟩,i6⟩;obtain⟨g1,g2⟩:=hc i e he;exact⟨g1,λk a ha=>by obtain⟨v,hv,hr,h7⟩:=g2 k a ha;exact⟨v,hv,hr.mono hle (.inr (all (i6 e (List.mem_of_getElem? he) a (List.mem_of_getElem? ha)))),h7⟩⟩
 ·show k<(c.w.putObj b o).heap.size;rw[World.putObj_size];exact g.inv.lt k hk
 ·show c.B<=(c.w.putObj b o).heap.size;rw[World.putObj_size];exact g.inv.base
theorem Reach.turnBack {c c1 c2:Ctx} {H H1 H2:X3} {n b:Nat} {o0 o1:Go.Obj} (r1:Reach c H n c1 H1) (r2:Reach { c1 with w:=c1.w.putObj b o1 } H1 n c2 H2) (hb:c.w.heap[b]?=some o0) (h:Xcm c H b) :
  Reach c H n { c2 with w:=c2.w.putObj b o0 } H2:=by
 have hlt:b<c.w.heap.size:=(Array.getElem?_eq_some_iff.1 hb).1;have hs2:c.w.heap.size<=c2.w.heap.size:=by
  have h1:=r1.size;have h2:(c1.w.putObj b o1).heap.size<=c2.w.heap.size:=r2.size;rw[World.putObj_size] at h2;omega
 refine⟨λo ho=>(r2.rho o ho).trans (r1.rho o ho),r2.os.trans r1.os,r2.tape.trans r1.tape,⟨r2.output.1.trans r1.output.1,Nat.le_trans r1.output.2 r2.output.2⟩,?_,λk hk hn=>?_,λk hk=>?_,r2.sa.trans r1.sa,λk hk=>r2.so1 k (r1.so1 k hk),λk hk=>?_,r2.B.trans r1.B,λo x hx=>?_⟩
 ·show c.w.heap.size<=(c2.w.putObj b o0).heap.size;rw[World.putObj_size];exact hs2
 ·show(c2.w.putObj b o0).heap[k]?=_;by_cases e:k=b
  ·subst e;rw[World.putObj_heap_same om];exact hb.symm
  ·rw[World.putObj_heap_other e];have h2:c2.w.heap[k]?=(c1.w.putObj b o1).heap[k]?:=r2.block k (by show k<(c1.w.putObj b o1).heap.size;rw[World.putObj_size];exact Nat.lt_of_lt_of_le hk r1.size) λo x hx he=>by
    rcases r1.own o x hx with h1|⟨o',x',h1,h2⟩
    ·have he':(c1.ρ o).blk=k:=he;omega
    ·exact hn o' x' h1 (h2.trans he)
   rw[h2,World.putObj_heap_other e];exact r1.block k hk hn
 ·show(c2.w.putObj b o0).heap[k]?=_;have e:k≠b:=λe=>by subst e;exact hk.elim h.sa h.so
  rw[World.putObj_heap_other e];have h2:c2.w.heap[k]?=(c1.w.putObj b o1).heap[k]?:=r2.stable k (hk.imp (λx=>by show c1.Sa k;rw[r1.sa];exact x) (r1.so1 k));rw[h2,World.putObj_heap_other e];exact r1.stable k hk
 ·rcases r2.so2 k hk with h1|h1|⟨q,y,h1,h2⟩
  ·exact r1.so2 k h1
  ·right;left
   have h3:(c1.w.putObj b o1).heap.size<=k:=h1;rw[World.putObj_size] at h3;exact Nat.le_trans r1.size h3
  ·have h2':(c1.ρ q).blk=k:=h2;rcases r1.own q y h1 with h3|⟨q',y',h3,h4⟩
   ·exact .inr (.inl om)
   ·exact .inr (.inr ⟨q',y',h3,h4.trans h2'⟩)
 ·rcases r2.own o x hx with h1|⟨q,y,h1,h2⟩
  ·left;have h3:(c1.w.putObj b o1).heap.size<=(c2.ρ o).blk:=h1;rw[World.putObj_size] at h3;exact Nat.le_trans r1.size h3
  ·rcases r1.own q y h1 with h3|⟨q',y',h3,h4⟩
   ·left;have:(c1.ρ q).blk=(c2.ρ o).blk:=h2;show c.w.heap.size<=(c2.ρ o).blk;omega
   ·exact .inr ⟨q',y',h3,h4.trans h2⟩
def Xv6:List Nat->List AV->List (Nat×AV)->List (Nat×AV)
 |p::ps,a::as,L=>Xv6 ps as ((p,a)::L)
 |_,_,L=>L
theorem Xhw {c:Ctx} {n:Nat}:∀ (ps:List Nat) (as:List AV) (vs:List Value) (L:List (Nat×AV)) (tmps:Array Value),as.length=vs.length->(∀ (i:Nat) a v,as[i]?=some a->vs[i]?=some v->Xh c false a v/\a.Ok (·<n)) ->
  (∀ p∈ps,p<tmps.size)->(∀ t,Xh c false (fr L t) (tmps.getD t undef)/\(fr L t).Ok (·<n)) ->
  (∀ t,Xh c false (fr (Xv6 ps as L) t) (((ps.zip vs).foldl (λt (p,v)=>t.setIfInBounds p v) tmps).getD t undef)/\(fr (Xv6 ps as L) t).Ok (·<n))/\((ps.zip vs).foldl (λt (p,v)=>t.setIfInBounds p v) tmps).size=tmps.size:=by
 intro ps
 induction ps with
 |nil=>intro as vs L tmps _ _ _ h;cases as<;>exact⟨h,rfl⟩
 |cons p ps ih =>
  intro as vs L tmps hl ha hp h
  cases as with
  |nil =>
   have:vs=[]:=List.eq_nil_of_length_eq_zero (by rw[<-hl];rfl);subst this;exact⟨h,rfl⟩
  |cons a as =>
   cases vs with
   |nil=>simp at hl
   |cons v vs =>
    have h0:=ha 0 a v rfl rfl;obtain⟨k1,k2⟩:=ih as vs ((p,a)::L) (tmps.setIfInBounds p v) (by simpa using hl) (λi a v h1 h2=>ha (i+1) a v (by simpa using h1) (by simpa using h2)) (λq hq=>by simpa using hp q (List.mem_cons_of_mem _ hq)) (λt=>by
     rw[X6t (hp p List.mem_cons_self)];by_cases ht:t=p
     ·subst ht;rw[if_pos rfl];have:fr ((t,a)::L) t=a:=by simp[fr]
      rw[this];exact h0
     ·rw[if_neg ht];have:fr ((p,a)::L) t=fr L t:=by
       have hb:Nat.beq t p=false:=by rw[<-Bool.not_eq_true,Nat.beq_eq];exact ht
       simp[fr,hb]
      rw[this];exact h t)
    exact⟨k1,by simpa using k2⟩
def asgQ (P:Program) (nt n:Nat) (body:Code) (RQ:X2->St->Mu->Prop):X2->St->Mu->Prop:=λe s μ=>e=.normal/\μ=[]/\X1q P nt n body RQ s []
theorem Xk.asg {P:Program} {nt n:Nat} {body:Code} {RQ:X2->St->Mu->Prop} {s:St} (h:Xk P nt n RQ (.code body) [] s []):Xk P nt n (asgQ P nt n body RQ) (.exit .normal) [] s [] :=
 Cl.mk ⟨rfl,rfl,X1q.ofCl h⟩
theorem X9k {μ:Mu} {b:Nat} {r:Loop} {nt m:Nat} {A:Nat->AV} (h:(b,.loop r nt m A)∈μ):X7l μ=false:=by
 induction μ with
 |nil=>cases h
 |cons p μ ih =>
  obtain⟨q,x⟩:=p;rcases List.mem_cons.1 h with h|h2
  ·cases h;rfl
  ·cases x with
   |loop=>rfl
   |mark=>exact ih h2
   |map=>exact ih h2
   |blk=>exact ih h2
def rndQ (P:Program) (nt n0:Nat) (Q:X2->St->Mu->Prop) (ops:Array Oper) (l:List Oper) (K:List Kn) (L:List (Nat×AV)) (d:Option Nat) (μ:Mu):X2->St->Mu->Prop :=
 λe s _=>e=.normal/\Xk P nt n0 Q (.ops ops l) K ⟨X2h (fr L) d (.sc (.bool true)),s.H,s.n⟩ μ
theorem Xk.yield {P:Program} {nt n0 n b ntc m:Nat} {Q:X2->St->Mu->Prop} {ops:Array Oper} {l:List Oper} {o:Oper} {K:List Kn} {L Lc:List (Nat×AV)} {G:List (Nat×Obj)} {μ:Mu} {x:Operand} {args:Array Operand} {ts:Array Nat} {r:Loop}
  {as:List AV} {qx qa:List Prop} {ps:Array Nat} {assign body:Code} (ho:o.op=.call { callee:=.value x,args:=args,argTypes:=ts }) (hg:o.guard=none) (hd:X45 nt o.dst=true)
  (hx:rd L x=(.sc (.func (.yield b) #[] #[]),qx)) (ha:rds L args.toList=(as,qa)) (hqx:X28 qx) (hqa:X28 qa)
  (hμ:(b,.loop r ntc m (fr Lc))∈μ) (h1:r.state=.ready) (h2:r.pending=none) (h3:r.params=ps) (h4:r.assign=assign) (h5:r.body=body)
  (hps:(Nat.beq as.length ps.size&&ps.toList.all λp=>Nat.blt p ntc)=true) (ht:(X1n assign||X1n body)=false)
  (h:Xk P ntc n (asgQ P ntc n body (rndQ P nt n0 Q ops l K L o.dst μ)) (.code assign) [] ⟨fr (Xv6 ps.toList as Lc),hp G,n⟩ []):Xk P nt n0 Q (.ops ops (o::l)) K ⟨fr L,hp G,n⟩ μ:=by
 subst h3 h4 h5;simp only[Bool.and_eq_true,Nat.beq_eq,List.all_eq_true,Nat.blt_eq] at hps;obtain⟨hp1,hp2⟩:=hps;simp only[Bool.or_eq_false_iff] at ht;intro c0 H0 c act g hm Qx hQ R hR
 cases R with
 |none=>rw[X9k hμ] at hR;exact absurd (hR rfl) (by simp)
 |some R =>
 refine X0s λK' hK'=>?_;rw[if_pos (by simp[Region.wanted,hg])];obtain⟨⟨hrec,hsz⟩,hmn,hAok,hA⟩:=hm.is _ hμ;obtain⟨w1,w2,w3,w4⟩:=hm.away _ hμ;have haw:Xcm c (hp G) b:=⟨w1,w2,w3⟩;have hlt:b<c.w.heap.size:=(Array.getElem?_eq_some_iff.1 hrec).1;have ex:act.eval x=.func (.yield b) #[] #[]:=by have:=g.ev x;rw[show evA (St.A ⟨fr L,hp G,n⟩) x=_ from Xq hx hqx] at this;exact this.sc_inv
 have hargs:args.toList.map (evA (fr L))=as:=X6n ha hqa;have hlen:as.length=args.size:=by rw[<-hargs];simp
 have hy:=run_yield (P:=P) (args:=args.map act.eval) hrec (by rw[Array.size_map,<-hlen];exact hp1);have hrun:(execOp act.eval o).run P c.w=.ok (.round b r.fn ((r.params.zip (args.map act.eval)).foldl (λtmps (t,a)=>tmps.setIfInBounds t a) r.tmps) r.assign r.body) c.w:=by
  simp only[execOp,ho,resolve,ex,Deferred.ofValue,Sem.run_bind,Sem.run_pure,Result.andThen_ok,invoke,Array.empty_append,Array.append_empty];exact hy
 show Oper.wpIn (FR R) 0 P o act c.w K' Qx;refine⟨λ_ _=>trivial,?_⟩;rw[Oper.semAt_eq _ _ _ (λd hd=>by rw[hd] at ho;cases ho),hrun,Oper.uponIn_round];refine⟨λh=>Bool.noConfusion h,roundIn_of_wpIn trivial ?_⟩;have hz:(r.params.zip (args.map act.eval)).foldl (λtmps (t,a)=>tmps.setIfInBounds t a) r.tmps=(r.params.toList.zip (args.toList.map act.eval)).foldl (λt (p,v)=>t.setIfInBounds p v) r.tmps:=by
  rw[<-Array.foldl_toList];simp
 have hzip:=Xhw (c:=c) (n:=n) r.params.toList as (args.toList.map act.eval) Lc r.tmps (by rw[<-hargs];simp) (λi a v h1 h2=>by
   rw[<-hargs,List.getElem?_map] at h1;rw[List.getElem?_map] at h2
   cases hq:args.toList[i]? with
   |none=>simp[hq] at h1
   |some q =>
    simp only[hq,Option.map_some,Option.some.injEq] at h1 h2;subst h1 h2;exact⟨g.ev q,g.evOk q⟩) (λp hp=>by rw[hsz];exact hp2 p hp) (λt=>⟨hA t,(hAok t).mono λq hq=>Nat.lt_of_lt_of_le hq (Nat.le_trans hmn g.le0)⟩)
 rw[<-hz] at hzip;have gB:X1r ntc c (hp G) n c ⟨fr (Xv6 r.params.toList as Lc),hp G,n⟩ { tmps:=(r.params.zip (args.map act.eval)).foldl (λtmps (t,a)=>tmps.setIfInBounds t a) r.tmps,defers:=[] } :=
  ⟨g.inv,g.solo,λt=>(hzip.1 t).1,λt=>(hzip.1 t).2,hzip.2.trans hsz,.refl _ _ _,Nat.le_refl _⟩
 refine wpIn_mono (X1q.ofCl h c (hp G) c _ gB (.nil rfl) (some b) (λh=>by rw[ht.1] at h;cases h)) ?_;rintro e a1 w' ⟨c1,s1,ae,μ1,rfl,g1,hm1,rfl,rfl,rfl,hbody⟩;have hrec1:c1.w.heap[b]?=some (.loop r):=(g1.reach.block b hlt haw.ob).trans hrec;refine⟨_,run_beginRound hrec1 h1,?_⟩;have aw1:Xcm c1 s1.H b:=haw.kept hlt g1.reach;obtain⟨g1',_⟩:=g1.turn0 (.loop { r with state:=.busy }) aw1;refine wpIn_mono (hbody _ s1.H _ a1 g1' (.nil hm1.ds) (some b) (λh=>by rw[ht.2] at h;cases h)) ?_;rintro e a2 w' ⟨c2,s2,ae,μ2,rfl,g2,hm2,rfl,rfl,hk⟩;have hlt1:b<c1.w.heap.size:=(Array.getElem?_eq_some_iff.1 hrec1).1;have hrec2:c2.w.heap[b]?=some (.loop { r with state:=.busy }) :=
  (g2.reach.block b (by show b<(c1.w.putObj b _).heap.size;rw[World.putObj_size];exact hlt1) aw1.ob).trans (World.putObj_heap_same hlt1)
 have hr:({ r with state:=.ready,pending:=none }:Loop)=r:=by
  obtain⟨st,pe,fn,tm,pa,asg,bd,de⟩:=r;simp only at h1 h2;subst h1 h2;rfl
 have hend:=run_endRound (P:=P) none hrec2;simp only[Option.isNone_none,if_true] at hend;rw[hr] at hend;refine⟨_,_,hend,?_⟩;have aw2:Xcm c2 s2.H b:=(Xcm.mk aw1.sa aw1.so aw1.ob:Xcm { c1 with w:=c1.w.putObj b (.loop { r with state:=.busy }) } s1.H b).kept (by show b<(c1.w.putObj b _).heap.size;rw[World.putObj_size];exact hlt1) g2.reach;obtain⟨g3,_⟩:=g2.turn0 (.loop r) aw2;have rt:Reach c (hp G) n { c2 with w:=c2.w.putObj b (.loop r) } s2.H:=Reach.turnBack g1.reach g2.reach hrec haw;have gf:=g.next (X1s hd) rt.le rt.sa rt.so2 rt.fr rt.own g3.inv g3.solo g3.le0 (a:=.sc (.bool true)) (v:=.bool true) .sc .sc;exact hK' _ _ (hk c0 H0 _ _ gf (hm.kept (rt.weaken g.le0)) Qx hQ (some R) (λh=>by cases h))
def rfQ (P:Program) (nt n0:Nat) (Q:X2->St->Mu->Prop) (K:List Kn) (L:List (Nat×AV)) (μ:Mu) (D:Nat) (μi:Mu):X2->St->Mu->Prop :=
 λe s μ'=>(∀ id,e≠.exit id)/\μ'=μi/\Xk P nt n0 Q (.exit .normal) K ⟨fr L,s.H,s.n⟩ ((D,.mark)::μ)
theorem X1r.alloc {nt n0:Nat} {c0 c:Ctx} {H0:X3} {s:St} {act:Act} (o:Go.Obj) (g:X1r nt c0 H0 n0 c s act):X1r nt c0 H0 n0 { c with w:=c.w.alloc o } s act:=by
 obtain⟨h1,h2,h3⟩:=g.inv.waste (w':=c.w.alloc o) o rfl rfl rfl ⟨rfl,Nat.le_refl _⟩;have:=g.next (c':={ c with w:=c.w.alloc o }) (dst:=none) (a:=.sc undef) (v:=undef) (λd h=>by cases h) h1 rfl (λb hb=>.inl hb) h3 (λq x hx=>.inr ⟨q,x,hx,rfl⟩) h2 g.solo (Nat.le_refl _) .sc .sc;exact this
theorem Xk.rangeFunc {P:Program} {nt n0 n gf nti:Nat} {Q:X2->St->Mu->Prop} {K:List Kn} {L:List (Nat×AV)} {G:List (Nat×Obj)} {μ:Mu} {g:Operand} {ps:Array Nat} {assign body codeI:Code} {fnI:Func} {caps:List AV} {q:List Prop}
  (hg:rd L g=(.fn gf caps,q)) (hq:X28 q) (hfn:X5a P gf fnI codeI) (hnt:fnI.ntmps=nti) (hle:Nat.ble (caps.length+1) nti=true) (hres:fnI.results=#[])
  (h:∀ (b D:Nat) (r:Loop),r.state=.ready->r.pending=none->r.params=ps->r.assign=assign->r.body=body ->
   Xk P nti n (rfQ P nt n0 Q K L μ D [(b,.loop r nt n (fr L)),(D,.blk (.deferred (some [])))]) (.code codeI) [] ⟨fr (argL 0 (.sc (.func (.yield b) #[] #[])::caps)),hp G,n⟩ [(b,.loop r nt n (fr L)),(D,.blk (.deferred (some [])))]) :
  Xk P nt n0 Q (.code (.rangeFunc g ps assign body)) K ⟨fr L,hp G,n⟩ μ:=by
 intro c0 H0 c act gd hm R hR;obtain rfl:=hR rfl;have hv:=gd.ev g;rw[show evA (St.A ⟨fr L,hp G,n⟩) g=_ from Xq hg hq] at hv;have hvo:=gd.evOk g;rw[show evA (St.A ⟨fr L,hp G,n⟩) g=_ from Xq hg hq] at hvo;obtain⟨cv,hcv,hcl,hcr⟩:=hv.fn_inv;refine wpIn_rangeFunc ?_;intro fn _;let D:=c.w.heap.size
 let b:=c.w.heap.size+1
 let rec0:Loop:={ state:=.ready,pending:=none,fn,tmps:=act.tmps,params:=ps,assign,body,defers:=c.w.heap.size }
 let W1:World:=(c.w.alloc (.deferred (some []))).alloc (.loop rec0)
 let c1:Ctx:={ c with w:=W1 }
 have hL1:W1.heap[b]?=some (.loop rec0):=by
  have:=World.alloc_heap_new (c.w.alloc (.deferred (some []))) (.loop rec0);rwa [World.size_alloc] at this
 have hK1:W1.heap[D]?=some (.deferred (some [])):=(RowKit.Below.heap_alloc _ _ _ (by simp[D])).trans (World.alloc_heap_new c.w _);have hs1:W1.heap.size=c.w.heap.size+2:=by simp[W1]
 have g1:X1r nt c (hp G) n0 c1 ⟨fr L,hp G,n⟩ act:=(gd.rebase.alloc (.deferred (some []))).alloc (.loop rec0);have hold:∀ k,k<c.w.heap.size->W1.heap[k]?=c.w.heap[k]?:=λk hk=>(RowKit.Below.heap_alloc _ _ _ (by simp;omega)).trans (RowKit.Below.heap_alloc _ _ _ hk);have r1:Reach c (hp G) n c1 (hp G):=⟨λ_ _=>rfl,rfl,rfl,⟨rfl,Nat.le_refl _⟩,by show c.w.heap.size<=W1.heap.size;omega,λk hk _=>hold k hk,λk hk=>hold k (gd.inv.lt k hk),rfl,λ_ h=>h,λ_ h=>.inl h,rfl,λo x hx=>.inr ⟨o,x,hx,rfl⟩⟩;have hob:∀ o x,hp G o=some x->(c.ρ o).blk<c.w.heap.size:=λo x hx=>by
  obtain⟨_,⟨⟨cur,hcb,_⟩,_⟩,_⟩:=gd.inv.obj o x hx;exact(Array.getElem?_eq_some_iff.1 hcb).1
 let vs:Array Value:=#[.func (.yield b) #[] #[]]++cv
 have hvs:vs.size=caps.length+1:=by simp[vs,<-hcl];omega
 have gI:X1r nti c (hp G) n c1 ⟨fr (argL 0 (.sc (.func (.yield b) #[] #[])::caps)),hp G,n⟩ { tmps:=vs++Array.replicate (fnI.ntmps - vs.size) undef,defers:=[] }:=by
  have hrel:X48 c1 false (.sc (.func (.yield b) #[] #[])::caps) vs:=by
   refine⟨by rw[hvs];simp,λi a v ha hv=>?_⟩
   cases i with
   |zero =>
    have hv':vs[0]?=some (.func (.yield b) #[] #[]):=by simp only[vs];rw[Array.getElem?_append_left (by simp)];rfl
    rw[hv'] at hv;simp only[List.getElem?_cons_zero,Option.some.injEq] at ha hv;subst ha hv;exact .sc
   |succ i =>
    have hv':cv[i]?=some v:=by
     simp only[vs] at hv;rw[Array.getElem?_append_right (by simp)] at hv;simpa using hv
    simp only[List.getElem?_cons_succ] at ha;refine(hcr i a v ha hv').mono r1.le (.inr ?_)
    cases hvo with|fn hvo=>exact hvo a (List.mem_of_getElem? ha)
  have hok:∀ a∈(.sc (.func (.yield b) #[] #[])::caps:List AV),a.Ok (·<n):=by
   intro a ha;rcases List.mem_cons.1 ha with rfl|ha
   ·exact .sc
   ·cases hvo with|fn hvo=>exact hvo a ha
  have:X1r nti c (hp G) n c1 ⟨X6a (.sc (.func (.yield b) #[] #[])::caps),hp G,n⟩ { tmps:=vs++Array.replicate (fnI.ntmps - vs.size) undef,defers:=[] } :=
   ⟨g1.inv,g1.solo,λt=>X3e hrel _ t,λt=>X69 hok t,by have:=Nat.le_of_ble_eq_true hle;simp only[Array.size_append,Array.size_replicate];omega,r1,Nat.le_refl _⟩
  exact this.argL
 have mI:MOk n c (hp G) c1 (hp G) [(b,.loop rec0 nt n (fr L)),(D,.blk (.deferred (some [])))] { tmps:=vs++Array.replicate (fnI.ntmps - vs.size) undef,defers:=[] }:=by
  refine⟨λp hp=>?_,λp hp=>?_,by simp[b,D],rfl⟩
  ·simp only[List.mem_cons,List.not_mem_nil,or_false] at hp;rcases hp with rfl|rfl
   ·exact⟨⟨hL1,gd.size⟩,Nat.le_refl _,λt=>gd.ok t,λt=>g1.frame t⟩
   ·exact hK1
  ·simp only[List.mem_cons,List.not_mem_nil,or_false] at hp;have key:∀ k,c.w.heap.size<=k->¬ c1.Sa k/\¬ c1.So k/\(∀ o x,Av.hp G o=some x->(c1.ρ o).blk≠k)/\Xtd c (Av.hp G) k:=λk hk =>
    ⟨λhs=>by have:=gd.inv.lt k (.inl hs);omega,λhs=>by have:=gd.inv.lt k (.inr hs);omega,λo x hx e=>by have h1:=hob o x hx;have h2:(c.ρ o).blk=k:=e;omega,⟨Nat.le_trans gd.inv.base hk,.inl hk⟩⟩
   rcases hp with rfl|rfl
   ·exact key b (by simp[b])
   ·exact key D (Nat.le_refl _)
 refine⟨b,[{ target:=.collected D,args:=#[] }],W1,{ target:=.fn (.func gf) cv,args:=#[.func (.yield b) #[] #[]] },W1,gf,vs,W1,run_enterLoop_outer _ _ _ _ _,?_,λ_ _=>trivial,?_,λh=>Bool.noConfusion h,?_⟩
 ·simp only[resolve,hcv];simp[go_sem]
 ·simp only[invoke,callFunc,Sem.run_bind,run_program,Result.andThen_ok,hfn.here,hfn.name,hfn.body,Option.isNone_some,Bool.false_eq_true,if_false];rfl
 refine callsIn_of_wp hfn.here hfn.body trivial ?_ rfl;refine wpIn_mono (X1q.ofCl (h b D rec0 rfl rfl rfl rfl rfl) c (hp G) c1 _ gI mI none .none) ?_;rintro e a w' ⟨c2,s2,ae,μ2,rfl,g2,hm2,rfl,hne,rfl,hk⟩;have hds:a.defers=[]:=hm2.ds;have fin:a.defers=[]/\∃ v,(results fnI a.tmps).run P c2.w=.ok v c2.w/\rangePost (FR none) 0 P b (MQ nt c0 H0 n0 (X6c P nt n0 Q K)) { act with defers:=[{ target:=.collected D,args:=#[] }]++act.defers } (.returned v) c2.w:=by
  obtain⟨⟨hrec,_⟩,_⟩:=hm2.is (b,.loop rec0 nt n (fr L)) (by simp);have hDk:c2.w.heap[D]?=some (.deferred (some [])):=hm2.is (D,.blk (.deferred (some []))) (by simp);obtain⟨x1,x2,x3,x4⟩:=hm2.away (b,.loop rec0 nt n (fr L)) (by simp);obtain⟨y1,y2,y3,y4⟩:=hm2.away (D,.blk (.deferred (some []))) (by simp);obtain⟨g3,hle3⟩:=g2.turn (.loop { rec0 with state:=.exhausted }) x1 x2 x3 x4;refine⟨hds,.tuple #[],by simp[results,hres,go_sem],?_⟩;refine⟨none,_,run_endLoop hrec (by simp[rec0]),?_⟩;have rt:=g3.reach;have gc:=gd.next (dst:=none) (a:=.sc undef) (v:=undef) (λd h=>by cases h) rt.le rt.sa rt.so2 rt.fr rt.own g3.inv g3.solo g3.le0 .sc .sc;have gc2:X1r nt c0 H0 n0 { c2 with w:=c2.w.putObj b (.loop { rec0 with state:=.exhausted }) } ⟨fr L,s2.H,s2.n⟩ { act with defers:=[{ target:=.collected D,args:=#[] }]++act.defers } :=
   ⟨gc.inv,gc.solo,gc.frame,gc.ok,gc.size,gc.reach,gc.le0⟩
  have hmk:=hm.kept (rt.weaken gd.le0) (act':=act) rfl;refine⟨_,⟨fr L,s2.H,s2.n⟩,.normal,(D,.mark)::μ,rfl,gc2,⟨λp hp=>?_,λp hp=>?_,?_,?_⟩,rfl,hk⟩
  ·rcases List.mem_cons.1 hp with rfl|hp
   ·exact(World.putObj_heap_other (by simp[b,D])).trans hDk
   ·exact hmk.is p hp
  ·rcases List.mem_cons.1 hp with rfl|hp
   ·exact⟨y1,y2,y3,⟨by rw[<-gd.reach.B];exact gd.inv.base,.inl gd.reach.size⟩⟩
   ·exact hmk.away p hp
  ·refine List.nodup_cons.2 ⟨λhmem=>?_,hm.nodup⟩;obtain⟨p,hp,he⟩:=List.mem_map.1 hmem;have:=(hm.is p hp).lt;simp only[D] at he;omega
  ·show[_]++act.defers=_::Xhv μ;rw[hm.ds];rfl
 cases ae with
 |exit id=>exact(hne id rfl).elim
 |normal=>exact fin
 |ret=>exact fin
end Go.Av


namespace Go.Av
variable [Gls]
def Xk0:List Nat->List AV->(Nat->AV)->(Nat->AV)
 |p::ps,a::as,A=>Xk0 ps as (upd A p a)
 |_,_,A=>A
theorem Xhx {c:Ctx} {n:Nat}:∀ (ps:List Nat) (as:List AV) (vs:List Value) (A:Nat->AV) (tmps:Array Value),as.length=vs.length->(∀ (i:Nat) a v,as[i]?=some a->vs[i]?=some v->Xh c false a v/\a.Ok (·<n)) ->
  (∀ p∈ps,p<tmps.size)->(∀ t,Xh c false (A t) (tmps.getD t undef)/\(A t).Ok (·<n)) ->
  (∀ t,Xh c false (Xk0 ps as A t) (((ps.zip vs).foldl (λt (p,v)=>t.setIfInBounds p v) tmps).getD t undef)/\(Xk0 ps as A t).Ok (·<n))/\((ps.zip vs).foldl (λt (p,v)=>t.setIfInBounds p v) tmps).size=tmps.size:=by
 intro ps
 induction ps with
 |nil=>intro as vs A tmps _ _ _ h;cases as<;>exact⟨h,rfl⟩
 |cons p ps ih =>
  intro as vs A tmps hl ha hp h
  cases as with
  |nil =>
   have:vs=[]:=List.eq_nil_of_length_eq_zero (by rw[<-hl];rfl);subst this;exact⟨h,rfl⟩
  |cons a as =>
   cases vs with
   |nil=>simp at hl
   |cons v vs =>
    have h0:=ha 0 a v rfl rfl;obtain⟨k1,k2⟩:=ih as vs (upd A p a) (tmps.setIfInBounds p v) (by simpa using hl) (λi a v h1 h2=>ha (i+1) a v (by simpa using h1) (by simpa using h2)) (λq hq=>by simpa using hp q (List.mem_cons_of_mem _ hq)) (λt=>by
     rw[X6t (hp p List.mem_cons_self)];by_cases ht:t=p
     ·subst ht;rw[if_pos rfl,X1];exact h0
     ·rw[if_neg ht];rw[X0 _ _ ht];exact h t)
    exact⟨k1,by simpa using k2⟩
def X6r:X2->Option Code
 |.normal=>none
 |.exit id=>some (.exit id)
 |.ret=>some .ret
def Xbk (r:Loop) (e:X2):Loop:={ r with state:=if (X6r e).isNone then .ready else .done,pending:=X6r e }
theorem X8e {r:Loop} (h1:r.state=.ready) (h2:r.pending=none):Xbk r .normal=r:=by
 obtain⟨st,pe,fn,tm,pa,asg,bd,de⟩:=r;simp only at h1 h2;subst h1 h2;rfl
theorem Xax (w:World) (b:Nat) (x y:Go.Obj):(w.putObj b x).putObj b y=w.putObj b y:=by
 simp[World.putObj]
theorem MOk.turn {n0:Nat} {c0 c:Ctx} {H0 H:X3} {μr:Mu} {act:Act} {b ntc m:Nat} {A:Nat->AV} {r r2:Loop} (h:MOk n0 c0 H0 c H ((b,.loop r ntc m A)::μr) act) (ht:r2.tmps=r.tmps)
  (hle:c.Le (λ_=>True) { c with w:=c.w.putObj b (.loop r2) }):MOk n0 c0 H0 { c with w:=c.w.putObj b (.loop r2) } H ((b,.loop r2 ntc m A)::μr) act:=by
 have hlt:b<c.w.heap.size:=(h.is _ List.mem_cons_self).lt;refine⟨λp hp=>?_,λp hp=>?_,h.nodup,h.ds⟩
 ·rcases List.mem_cons.1 hp with rfl|hp
  ·obtain⟨⟨h1,h2⟩,h3,h4,h5⟩:=h.is _ List.mem_cons_self;exact⟨⟨World.putObj_heap_same hlt,by rw[ht];exact h2⟩,h3,h4,λt=>by rw[ht];exact(h5 t).mono hle (.inr ((h4 t).mono λ_ _=>trivial))⟩
  ·have hne:p.1≠b:=λe=>by
    have:=h.nodup;simp only[List.map_cons,List.nodup_cons] at this;exact this.1 (e▸List.mem_map_of_mem hp)
   exact(h.is p (List.mem_cons_of_mem _ hp)).le (World.putObj_heap_other hne) (hle.weaken λ_ _=>trivial)
 ·rcases List.mem_cons.1 hp with rfl|hp
  ·exact h.away (b,.loop r ntc m A) List.mem_cons_self
  ·exact h.away p (List.mem_cons_of_mem _ hp)
theorem X1t.yield {P:Program} {nt n0 n b ntc m:Nat} {ops:Array Oper} {l:List Oper} {o:Oper} {K:St->Mu->Prop} {A Ac:Nat->AV} {H:X3} {μr:Mu} {x:Operand} {args:Array Operand} {ts:Array Nat} {r:Loop} {as:List AV}
  (ho:o.op=.call { callee:=.value x,args:=args,argTypes:=ts }) (hg:o.guard=none) (hd:X45 nt o.dst=true)
  (hx:evA A x=.sc (.func (.yield b) #[] #[])) (has:args.toList.map (evA A)=as) (h1:r.state=.ready) (h2:r.pending=none)
  (hp1:as.length=r.params.size) (hp2:∀ p∈r.params.toList,p<ntc) (ht:X1n r.assign=false/\X1n r.body=false)
  (h:X1q P ntc n r.assign (λe s μ1=>e=.normal/\μ1=[]/\X1q P ntc n r.body (λe s _=>X1t P nt n0 ops l K ⟨X2h A o.dst (.sc (.bool (X6r e).isNone)),s.H,s.n⟩ ((b,.loop (Xbk r e) ntc m Ac)::μr)) s []) ⟨Xk0 r.params.toList as Ac,H,n⟩ []) :
  X1t P nt n0 ops (o::l) K ⟨A,H,n⟩ ((b,.loop r ntc m Ac)::μr):=by
 subst has;obtain⟨htA,htB⟩:=ht;have hμ:(b,MuE.loop r ntc m Ac)∈((b,.loop r ntc m Ac)::μr:Mu):=List.mem_cons_self;intro c0 H0 c act g hm Qx hQ R hR
 cases R with
 |none=>rw[X9k hμ] at hR;exact absurd (hR rfl) (by simp)
 |some R =>
 refine X0s λK' hK'=>?_;rw[if_pos (by simp[Region.wanted,hg])];obtain⟨⟨hrec,hsz⟩,hmn,hAok,hA⟩:=hm.is _ hμ;obtain⟨w1,w2,w3,w4⟩:=hm.away _ hμ;have haw:Xcm c H b:=⟨w1,w2,w3⟩;have hlt:b<c.w.heap.size:=(Array.getElem?_eq_some_iff.1 hrec).1;have ex:act.eval x=.func (.yield b) #[] #[]:=by have:=g.ev x;rw[show evA (St.A ⟨A,H,n⟩) x=_ from hx] at this;exact this.sc_inv
 have hy:=run_yield (P:=P) (args:=args.map act.eval) hrec (by rw[Array.size_map,<-hp1];simp);have hrun:(execOp act.eval o).run P c.w=.ok (.round b r.fn ((r.params.zip (args.map act.eval)).foldl (λtmps (t,a)=>tmps.setIfInBounds t a) r.tmps) r.assign r.body) c.w:=by
  simp only[execOp,ho,resolve,ex,Deferred.ofValue,Sem.run_bind,Sem.run_pure,Result.andThen_ok,invoke,Array.empty_append,Array.append_empty];exact hy
 show Oper.wpIn (FR R) 0 P o act c.w K' Qx;refine⟨λ_ _=>trivial,?_⟩;rw[Oper.semAt_eq _ _ _ (λd hd=>by rw[hd] at ho;cases ho),hrun,Oper.uponIn_round];refine⟨λh=>Bool.noConfusion h,roundIn_of_wpIn trivial ?_⟩;have hz:(r.params.zip (args.map act.eval)).foldl (λtmps (t,a)=>tmps.setIfInBounds t a) r.tmps=(r.params.toList.zip (args.toList.map act.eval)).foldl (λt (p,v)=>t.setIfInBounds p v) r.tmps:=by
  rw[<-Array.foldl_toList];simp
 have hzip:=Xhx (c:=c) (n:=n) r.params.toList (args.toList.map (evA A)) (args.toList.map act.eval) Ac r.tmps (by simp) (λi a v h1 h2=>by
   rw[List.getElem?_map] at h1;rw[List.getElem?_map] at h2
   cases hq:args.toList[i]? with
   |none=>simp[hq] at h1
   |some q =>
    simp only[hq,Option.map_some,Option.some.injEq] at h1 h2;subst h1 h2;exact⟨g.ev q,g.evOk q⟩) (λp hp=>by rw[hsz];exact hp2 p hp) (λt=>⟨hA t,(hAok t).mono λq hq=>Nat.lt_of_lt_of_le hq (Nat.le_trans hmn g.le0)⟩)
 rw[<-hz] at hzip;have gB:X1r ntc c H n c ⟨Xk0 r.params.toList (args.toList.map (evA A)) Ac,H,n⟩ { tmps:=(r.params.zip (args.map act.eval)).foldl (λtmps (t,a)=>tmps.setIfInBounds t a) r.tmps,defers:=[] } :=
  ⟨g.inv,g.solo,λt=>(hzip.1 t).1,λt=>(hzip.1 t).2,hzip.2.trans hsz,.refl _ _ _,Nat.le_refl _⟩
 refine wpIn_mono (h c H c _ gB (.nil rfl) (some b) (λh=>by rw[htA] at h;cases h)) ?_;rintro e a1 w' ⟨c1,s1,ae,μ1,rfl,g1,hm1,rfl,rfl,rfl,hbody⟩;have hrec1:c1.w.heap[b]?=some (.loop r):=(g1.reach.block b hlt haw.ob).trans hrec;refine⟨_,run_beginRound hrec1 h1,?_⟩;have aw1:Xcm c1 s1.H b:=haw.kept hlt g1.reach;obtain⟨g1',_⟩:=g1.turn0 (.loop { r with state:=.busy }) aw1;refine wpIn_mono (hbody _ s1.H _ a1 g1' (.nil hm1.ds) (some b) (λh=>by rw[htB] at h;cases h)) ?_;rintro e a2 w' ⟨c2,s2,ae,μ2,rfl,g2,hm2,rfl,hk⟩;have hlt1:b<c1.w.heap.size:=(Array.getElem?_eq_some_iff.1 hrec1).1;have hrec2:c2.w.heap[b]?=some (.loop { r with state:=.busy }) :=
  (g2.reach.block b (by show b<(c1.w.putObj b _).heap.size;rw[World.putObj_size];exact hlt1) aw1.ob).trans (World.putObj_heap_same hlt1)
 have hend:∀ j,(Instr.endRound b j).run P c2.w=.ok (.bool j.isNone) (c2.w.putObj b (.loop { r with state:=if j.isNone then .ready else .done,pending:=j })):=λj=>run_endRound (P:=P) (r:={ r with state:=.busy }) j hrec2;have aw2:Xcm c2 s2.H b:=(Xcm.mk aw1.sa aw1.so aw1.ob:Xcm { c1 with w:=c1.w.putObj b (.loop { r with state:=.busy }) } s1.H b).kept (by show b<(c1.w.putObj b _).heap.size;rw[World.putObj_size];exact hlt1) g2.reach;obtain⟨g3,_⟩:=g2.turn0 (.loop r) aw2;have rt:Reach c H n { c2 with w:=c2.w.putObj b (.loop r) } s2.H:=Reach.turnBack g1.reach g2.reach hrec haw;have gf:=g.next (X1s hd) rt.le rt.sa rt.so2 rt.fr rt.own g3.inv g3.solo g3.le0 (a:=.sc (.bool (X6r ae).isNone)) (v:=.bool (X6r ae).isNone) .sc .sc;have mk:=hm.kept (rt.weaken g.le0) (act':=act.put o.dst (.bool (X6r ae).isNone));obtain⟨gt,hle⟩:=gf.turn (.loop (Xbk r ae)) aw2.sa aw2.so aw2.ob w4;have mt:=mk.turn (r2:=Xbk r ae) rfl hle;have hw:({ c2 with w:=c2.w.putObj b (.loop (Xbk r ae)) }:Ctx)={ { c2 with w:=c2.w.putObj b (.loop r) } with w:=(c2.w.putObj b (.loop r)).putObj b (.loop (Xbk r ae)) }:=by rw[Xax]
 rw[<-hw] at gt mt;have fin:=hK' _ _ (hk c0 H0 _ _ gt mt Qx hQ (some R) (λh=>by cases h))
 cases ae with
 |normal=>exact⟨_,_,hend none,fin⟩
 |exit id=>exact⟨_,_,hend (some (.exit id)),fin⟩
 |ret=>exact⟨_,_,hend (some .ret),fin⟩
theorem X1q.rangeFunc {P:Program} {nt n0 n gf nti:Nat} {Q:X2->St->Mu->Prop} {A:Nat->AV} {H:X3} {μ:Mu} {g:Operand} {ps:Array Nat} {assign body codeI:Code} {fnI:Func} {caps:List AV}
  (hg:evA A g=.fn gf caps) (hfn:X5a P gf fnI codeI) (hnt:fnI.ntmps=nti) (hle:caps.length+1<=nti) (hres:fnI.results=#[])
  (h:∀ (b D:Nat) (r:Loop),r.state=.ready->r.pending=none->r.params=ps->r.assign=assign->r.body=body ->
   X1q P nti n codeI (λe s μ'=>(∀ id,e≠.exit id)/\∃ pe,μ'=[(b,.loop (Xbk r pe) nt n A),(D,.blk (.deferred (some [])))]/\Q pe ⟨A,s.H,s.n⟩ ((D,.mark)::μ)) ⟨X6a (.sc (.func (.yield b) #[] #[])::caps),H,n⟩ [(b,.loop r nt n A),(D,.blk (.deferred (some [])))]) :
  X1q P nt n0 (.rangeFunc g ps assign body) Q ⟨A,H,n⟩ μ:=by
 intro c0 H0 c act gd hm R hR;obtain rfl:=hR rfl;have hv:=gd.ev g;rw[show evA (St.A ⟨A,H,n⟩) g=_ from hg] at hv;have hvo:=gd.evOk g;rw[show evA (St.A ⟨A,H,n⟩) g=_ from hg] at hvo;obtain⟨cv,hcv,hcl,hcr⟩:=hv.fn_inv;refine wpIn_rangeFunc ?_;intro fn _;let D:=c.w.heap.size
 let b:=c.w.heap.size+1
 let rec0:Loop:={ state:=.ready,pending:=none,fn,tmps:=act.tmps,params:=ps,assign,body,defers:=c.w.heap.size }
 let W1:World:=(c.w.alloc (.deferred (some []))).alloc (.loop rec0)
 let c1:Ctx:={ c with w:=W1 }
 have hL1:W1.heap[b]?=some (.loop rec0):=by
  have:=World.alloc_heap_new (c.w.alloc (.deferred (some []))) (.loop rec0);rwa [World.size_alloc] at this
 have hK1:W1.heap[D]?=some (.deferred (some [])):=(RowKit.Below.heap_alloc _ _ _ (by simp[D])).trans (World.alloc_heap_new c.w _);have hs1:W1.heap.size=c.w.heap.size+2:=by simp[W1]
 have g1:X1r nt c H n0 c1 ⟨A,H,n⟩ act:=(gd.rebase.alloc (.deferred (some []))).alloc (.loop rec0);have hold:∀ k,k<c.w.heap.size->W1.heap[k]?=c.w.heap[k]?:=λk hk=>(RowKit.Below.heap_alloc _ _ _ (by simp;omega)).trans (RowKit.Below.heap_alloc _ _ _ hk);have r1:Reach c H n c1 H:=⟨λ_ _=>rfl,rfl,rfl,⟨rfl,Nat.le_refl _⟩,by show c.w.heap.size<=W1.heap.size;omega,λk hk _=>hold k hk,λk hk=>hold k (gd.inv.lt k hk),rfl,λ_ h=>h,λ_ h=>.inl h,rfl,λo x hx=>.inr ⟨o,x,hx,rfl⟩⟩;have hob:∀ o x,H o=some x->(c.ρ o).blk<c.w.heap.size:=λo x hx=>by
  obtain⟨_,⟨⟨cur,hcb,_⟩,_⟩,_⟩:=gd.inv.obj o x hx;exact(Array.getElem?_eq_some_iff.1 hcb).1
 let vs:Array Value:=#[.func (.yield b) #[] #[]]++cv
 have hvs:vs.size=caps.length+1:=by simp[vs,<-hcl];omega
 have gI:X1r nti c H n c1 ⟨X6a (.sc (.func (.yield b) #[] #[])::caps),H,n⟩ { tmps:=vs++Array.replicate (fnI.ntmps - vs.size) undef,defers:=[] }:=by
  have hrel:X48 c1 false (.sc (.func (.yield b) #[] #[])::caps) vs:=by
   refine⟨by rw[hvs];simp,λi a v ha hv=>?_⟩
   cases i with
   |zero =>
    have hv':vs[0]?=some (.func (.yield b) #[] #[]):=by simp only[vs];rw[Array.getElem?_append_left (by simp)];rfl
    rw[hv'] at hv;simp only[List.getElem?_cons_zero,Option.some.injEq] at ha hv;subst ha hv;exact .sc
   |succ i =>
    have hv':cv[i]?=some v:=by
     simp only[vs] at hv;rw[Array.getElem?_append_right (by simp)] at hv;simpa using hv
    simp only[List.getElem?_cons_succ] at ha;refine(hcr i a v ha hv').mono r1.le (.inr ?_)
    cases hvo with|fn hvo=>exact hvo a (List.mem_of_getElem? ha)
  have hok:∀ a∈(.sc (.func (.yield b) #[] #[])::caps:List AV),a.Ok (·<n):=by
   intro a ha;rcases List.mem_cons.1 ha with rfl|ha
   ·exact .sc
   ·cases hvo with|fn hvo=>exact hvo a ha
  have:X1r nti c H n c1 ⟨X6a (.sc (.func (.yield b) #[] #[])::caps),H,n⟩ { tmps:=vs++Array.replicate (fnI.ntmps - vs.size) undef,defers:=[] } :=
   ⟨g1.inv,g1.solo,λt=>X3e hrel _ t,λt=>X69 hok t,by simp only[Array.size_append,Array.size_replicate];omega,r1,Nat.le_refl _⟩
  exact this
 have mI:MOk n c H c1 H [(b,.loop rec0 nt n A),(D,.blk (.deferred (some [])))] { tmps:=vs++Array.replicate (fnI.ntmps - vs.size) undef,defers:=[] }:=by
  refine⟨λp hp=>?_,λp hp=>?_,by simp[b,D],rfl⟩
  ·simp only[List.mem_cons,List.not_mem_nil,or_false] at hp;rcases hp with rfl|rfl
   ·exact⟨⟨hL1,gd.size⟩,Nat.le_refl _,λt=>gd.ok t,λt=>g1.frame t⟩
   ·exact hK1
  ·simp only[List.mem_cons,List.not_mem_nil,or_false] at hp;have key:∀ k,c.w.heap.size<=k->¬ c1.Sa k/\¬ c1.So k/\(∀ o x,H o=some x->(c1.ρ o).blk≠k)/\Xtd c H k:=λk hk =>
    ⟨λhs=>by have:=gd.inv.lt k (.inl hs);omega,λhs=>by have:=gd.inv.lt k (.inr hs);omega,λo x hx e=>by have h1:=hob o x hx;have h2:(c.ρ o).blk=k:=e;omega,⟨Nat.le_trans gd.inv.base hk,.inl hk⟩⟩
   rcases hp with rfl|rfl
   ·exact key b (by simp[b])
   ·exact key D (Nat.le_refl _)
 refine⟨b,[{ target:=.collected D,args:=#[] }],W1,{ target:=.fn (.func gf) cv,args:=#[.func (.yield b) #[] #[]] },W1,gf,vs,W1,run_enterLoop_outer _ _ _ _ _,?_,λ_ _=>trivial,?_,λh=>Bool.noConfusion h,?_⟩
 ·simp only[resolve,hcv];simp[go_sem]
 ·simp only[invoke,callFunc,Sem.run_bind,run_program,Result.andThen_ok,hfn.here,hfn.name,hfn.body,Option.isNone_some,Bool.false_eq_true,if_false];rfl
 refine callsIn_of_wp hfn.here hfn.body trivial ?_ rfl;refine wpIn_mono (h b D rec0 rfl rfl rfl rfl rfl c H c1 _ gI mI none .none) ?_;rintro e a w' ⟨c2,s2,ae,μ2,rfl,g2,hm2,rfl,hne,pe,rfl,hk⟩;have hds:a.defers=[]:=hm2.ds;have fin:a.defers=[]/\∃ v,(results fnI a.tmps).run P c2.w=.ok v c2.w/\rangePost (FR none) 0 P b (MQ nt c0 H0 n0 Q) { act with defers:=[{ target:=.collected D,args:=#[] }]++act.defers } (.returned v) c2.w:=by
  obtain⟨⟨hrec,_⟩,_⟩:=hm2.is (b,.loop (Xbk rec0 pe) nt n A) (by simp);have hDk:c2.w.heap[D]?=some (.deferred (some [])):=hm2.is (D,.blk (.deferred (some []))) (by simp);obtain⟨x1,x2,x3,x4⟩:=hm2.away (b,.loop (Xbk rec0 pe) nt n A) (by simp);obtain⟨y1,y2,y3,y4⟩:=hm2.away (D,.blk (.deferred (some []))) (by simp);obtain⟨g3,hle3⟩:=g2.turn (.loop { Xbk rec0 pe with state:=.exhausted }) x1 x2 x3 x4;refine⟨hds,.tuple #[],by simp[results,hres,go_sem],?_⟩;refine⟨X6r pe,_,run_endLoop hrec (by cases pe<;>simp[Xbk,X6r]),?_⟩;have rt:=g3.reach;have gc:=gd.next (dst:=none) (a:=.sc undef) (v:=undef) (λd h=>by cases h) rt.le rt.sa rt.so2 rt.fr rt.own g3.inv g3.solo g3.le0 .sc .sc;have gc2:X1r nt c0 H0 n0 { c2 with w:=c2.w.putObj b (.loop { Xbk rec0 pe with state:=.exhausted }) } ⟨A,s2.H,s2.n⟩ { act with defers:=[{ target:=.collected D,args:=#[] }]++act.defers } :=
   ⟨gc.inv,gc.solo,gc.frame,gc.ok,gc.size,gc.reach,gc.le0⟩
  have hmk:=hm.kept (rt.weaken gd.le0) (act':=act) rfl;have last:MQ nt c0 H0 n0 Q pe.of { act with defers:=[{ target:=.collected D,args:=#[] }]++act.defers } (c2.w.putObj b (.loop { Xbk rec0 pe with state:=.exhausted })):=by
   refine⟨_,⟨A,s2.H,s2.n⟩,pe,(D,.mark)::μ,rfl,gc2,⟨λp hp=>?_,λp hp=>?_,?_,?_⟩,rfl,hk⟩
   ·rcases List.mem_cons.1 hp with rfl|hp
    ·exact(World.putObj_heap_other (by simp[b,D])).trans hDk
    ·exact hmk.is p hp
   ·rcases List.mem_cons.1 hp with rfl|hp
    ·exact⟨y1,y2,y3,⟨by rw[<-gd.reach.B];exact gd.inv.base,.inl gd.reach.size⟩⟩
    ·exact hmk.away p hp
   ·refine List.nodup_cons.2 ⟨λhmem=>?_,hm.nodup⟩;obtain⟨p,hp,he⟩:=List.mem_map.1 hmem;have:=(hm.is p hp).lt;simp only[D] at he;omega
   ·show[_]++act.defers=_::Xhv μ;rw[hm.ds];rfl
  cases pe with
  |normal=>exact last
  |exit id=>exact wpIn_exit last
  |ret=>exact wpIn_ret last
 cases ae with
 |exit id=>exact(hne id rfl).elim
 |normal=>exact fin
 |ret=>exact fin
end Go.Av


namespace Go.Av
variable [Gls]
inductive Tab (V:Type) where
 |leaf
 |node (k:Nat) (v:V) (l r:Tab V)
noncomputable def Tab.find {V:Type} (t:Tab V):Nat->Option V :=
 Tab.rec (motive:=λ_=>Nat->Option V) (λ_=>none) (λk v _ _ ihl ihr n=>bif Nat.beq n k then some v else bif Nat.blt n k then ihl n else ihr n) t
theorem Tab.find_node {V:Type} (k:Nat) (v:V) (l r:Tab V) (t:Nat):(Tab.node k v l r).find t=bif Nat.beq t k then some v else bif Nat.blt t k then l.find t else r.find t:=rfl
def Tab.All {V:Type} (p:Nat->V->Prop):Tab V->Prop
 |.leaf=>True
 |.node k v l r=>p k v/\l.All p/\r.All p
theorem Tab.find_all {V:Type} {p:Nat->V->Prop}:∀ (t:Tab V),t.All p->∀ k v,t.find k=some v->p k v:=by
 intro t
 induction t with
 |leaf=>intro _ k v h;cases h
 |node k' v' l r ihl ihr =>
  intro h k v hf;obtain⟨h1,h2,h3⟩:=h;rw[Tab.find_node] at hf
  cases hb:Nat.beq k k' with
  |true =>
   rw[hb,cond_true] at hf;cases hf
   have:k=k':=Nat.eq_of_beq_eq_true hb;subst this;exact h1
  |false =>
   rw[hb,cond_false] at hf
   cases hlt:Nat.blt k k' with
   |true=>rw[hlt,cond_true] at hf;exact ihl h2 k v hf
   |false=>rw[hlt,cond_false] at hf;exact ihr h3 k v hf
theorem Xib {P:Program} {t:Tab TI} (h:t.All (X6e P)):X2i P t.find:=λk v hf=>t.find_all h k v hf
theorem tiOk {P:Program} {t:Nat} {i:TypeInfo} {d:TypeDesc} {z:Value} (hi:P.info? t=some i) (hd:P.underlying t=some d) (hz:i.zero=some z)
  (hw:((X0t z).whole&&Nat.beq (X0t z).cells.length i.size)=true):X6e P t ⟨X31 d,i.size,i.bytes,z,false⟩:=by
 simp only[Bool.and_eq_true] at hw;exact⟨⟨i,d,hi,hd,hz,rfl,rfl,rfl⟩,⟨hw.1,Nat.eq_of_beq_eq_true hw.2⟩,λh=>by cases h⟩
theorem X0ku {P:Program} {t:Nat} {i:TypeInfo} {d:TypeDesc} {z:Value} (hi:P.info? t=some i) (hd:P.underlying t=some d) (hz:i.zero=some z)
  (hw:((X0t z).whole&&Nat.beq (X0t z).cells.length i.size)=true) (h1:P.stoodInHeld t=false) (h2:P.eqGuardType P.depth t=false)
  (h3 : (match d with | .struct fs => fs.toList.all (λf => !(f.name == "_")) | _ => true) = true) : X6e P t ⟨X31 d, i.size, i.bytes, z, true⟩ := by
 simp only[Bool.and_eq_true] at hw;refine⟨⟨i,d,hi,hd,hz,rfl,rfl,rfl⟩,⟨hw.1,Nat.eq_of_beq_eq_true hw.2⟩,λ_=>⟨h1,h2,λfs hfs f hf=>?_⟩⟩;rw[hd] at hfs;cases hfs
 have:=List.all_eq_true.1 h3 f (by simpa using hf);simpa using this
def X2e (fn:Func):Code:=fn.body.getD .skip
theorem Xgq {P:Program} {t:Tab (Func×Code)} (h:t.All (λk v=>X5a P k v.1 v.2)):X9b P t.find:=λk fn code hf=>t.find_all h k (fn,code) hf
end Go.Av


namespace Go.Av
variable [Gls]
section
variable {P:Program} {ops:Array Oper} {keep:Nat->Bool} {v0:Nat->Value}
def Xjy (keep:Nat->Bool) (v0:Nat->Value) (a:Act):Prop:=∀ t,keep t=true->a.tmps.getD t undef=v0 t
theorem Xjy.put {a:Act} {d:Option Nat} {v:Value} (h:Xjy keep v0 a) (hd:∀ t,d=some t->keep t=false):Xjy keep v0 (a.put d v):=by
 intro t ht;rw[<-h t ht]
 cases d with
 |none=>rfl
 |some d =>
  show(a.tmps.setIfInBounds d v).getD t undef=_;have hne:d≠t:=λe=>by subst e;rw[hd d rfl] at ht;cases ht
  simp only[Array.getD_eq_getD_getElem?];rw[Array.getElem?_setIfInBounds_ne hne]
theorem Oper.wp_keep {o:Oper} {a:Act} {w:World} {K K':Act->World->Prop} {Q Q':Exit->Act->World->Prop} (hno:∀ a w,¬ Q .outgrown a w) (hd:∀ t,o.dst=some t->keep t=false) (ha:Xjy keep v0 a)
  (hK:∀ a w,Xjy keep v0 a->K a w->K' a w) (hQ:∀ e a w,Xjy keep v0 a->Q e a w->Q' e a w) (h:o.wp P a w K Q):o.wp P a w K' Q':=by
 have hl:¬ LetsOut Q:=λ⟨a,w,h⟩=>hno a w h;unfold Oper.wp at *;generalize (execOp a.eval o).run P w=r at *
 cases r with
 |ok n w' =>
  cases n<;>simp only[Oper.upon] at h ⊢ <;>
   first
    |exact hK _ _ (ha.put hd) h
    |exact hK _ _ (Xjy.put (a:={ a with defers:=_::a.defers }) ha hd) h
    |exact Calls.mono h (λe w'' he=>by cases e<;>first|exact hK _ _ (ha.put hd) he|exact hQ _ _ _ ha he|exact(hl he).elim)
    |exact Rows.mono h (λ_ _ he=>hK _ _ (ha.put hd) he)
    |exact h
 |halt x w'=>cases x<;>simp only[Oper.upon] at h ⊢<;>first|exact hQ _ _ _ ha h|exact h
theorem Xdp {md:Region.Mode} {Q Q':Exit->Act->World->Prop} (hno:∀ a w,¬ Q .outgrown a w) (hk:∀ o∈ops.toList,∀ d,o.dst=some d->keep d=false) (hQ:∀ e a w,Xjy keep v0 a->Q e a w->Q' e a w) :
  ∀ (fuel:Nat) (listed:Array Bool) (a:Act) (w:World),Xjy keep v0 a->wpAny P md ops Q fuel listed a w->wpAny P md ops Q' fuel listed a w:=by
 intro fuel
 induction fuel with
 |zero=>intro listed a w ha h;exact⟨h.1,hQ _ _ _ ha h.2⟩
 |succ fuel ih =>
  intro listed a w ha h;refine⟨λhr=>hQ _ _ _ ha (h.1 hr),λi hi=>?_⟩;have hh:=h.2 i hi;unfold wpOp at hh ⊢
  cases ho:ops[i]? with
  |none=>rw[ho] at hh;exact ih _ _ _ ha hh
  |some o =>
   rw[ho] at hh;have hm:o∈ops.toList:=by rw[Array.mem_toList_iff];exact Array.mem_of_getElem? ho
   simp only at hh ⊢;by_cases hw:Region.wanted o (yielded ops a.tmps)=true
   ·rw[if_pos hw] at hh ⊢;rcases hh with hh|⟨_,a,w,hq⟩
    ·exact .inl (Oper.wp_keep hno (hk o hm) ha (λa w ha h=>ih _ a w ha h) hQ hh)
    ·exact(hno a w hq).elim
   ·rw[if_neg hw] at hh ⊢;exact ih _ _ _ (ha.put (hk o hm)) hh
end
section
variable {hz:Oper->Nat->Bool} {P:Program} {T:Ty} {nt n0:Nat} {ops:Array Oper}
theorem X38.drawnK {id n:Nat} {Q:X2->St->Prop} {A A0 A':Nat->AV} {H H':X3} {keep:Nat->Bool} (hm:P.follows .mixedOrders=true) (hT:X2i P T) (hpre:X2w 0 ops.toList=true)
  (hk:∀ o∈ops.toList,∀ d,o.dst=some d->keep d=false) (hA0:∀ t,A0 t=A t\/A0 t=.junk)
  (hrun:Xdo hz P T nt n ops (X0k ops.toList) 0 ops.toList A0 H [] A' H') (hQ:Q .normal ⟨λt=>bif keep t then A t else A' t,H',n+ops.toList.length⟩):X38 P nt n0 (.region id ops true) Q ⟨A,H,n⟩:=by
 obtain⟨rs,hall,hA,hH⟩:=hrun.all A0 H [] (Nat.zero_le _) rfl rfl rfl rfl rfl (λk o r _ hr=>by simp at hr);subst hA hH;intro c0 HH c act gA R hR;have g1:X1r nt c0 HH n0 c ⟨A0,H,n⟩ act:=by
  refine⟨gA.inv,gA.solo,λt=>?_,λt=>?_,gA.size,gA.reach,gA.le0⟩
  ·show Xh c false (A0 t) _;rcases hA0 t with h|h
   ·rw[h];exact gA.frame t
   ·rw[h];exact .junk
  ·show(A0 t).Ok _;rcases hA0 t with h|h
   ·rw[h];exact gA.ok t
   ·rw[h];exact .junk
 have g:=g1.drew;have hno:∀ (Q:X2->St->Prop) a w,¬ CQ nt c HH n0 act.defers Q .outgrown a w:=by rintro Q a w ⟨c,s,ae,_,_,_,h,_⟩;cases ae<;>cases h
 refine X4j hm hR (by rintro a w ⟨c,s,ae,_,_,_,h,_⟩;cases ae<;>cases h) ?_;have hzz:∀ k,(Array.replicate ops.size false).getD k false=false:=by
  intro k;simp only[Array.getD_eq_getD_getElem?,Array.getElem?_replicate];split<;>rfl
 have hfn:(λk=>(Array.replicate ops.size false).getD k false)=(λ_=>false):=funext hzz;let cb:Ctx:={ c with w:={ c.w with drawn:=c.w.drawn+1 } }
 have gb:X1r nt cb H n cb ⟨A0,H,n⟩ act:=⟨g.inv,g.solo,g.frame,g.ok,g.size,.refl _ _ _,Nat.le_refl _⟩;refine Xdp (keep:=keep) (v0:=λt=>act.tmps.getD t undef) (Q:=CQ nt cb H n act.defers (λe s=>e=.normal/\s=⟨_,_,n+ops.toList.length⟩)) (by rintro a w ⟨c,s,ae,_,_,_,h,_⟩;cases ae<;>cases h) hk ?_ _ _ _ _ (λt _=>rfl)
  (Xad hT hpre hall (Q:=λe s=>e=.normal/\s=⟨_,_,n+ops.toList.length⟩) ⟨rfl,rfl⟩ (Nat.le_refl n) ops.size _ (List.range ops.size) cb act (by simp) (by simp) (λk hk _=>List.mem_range.2 hk) (λi o _ h=>by rw[hzz] at h;cases h) ?_ rfl)
 ·rintro e a w hkept ⟨c',s',ae,rfl,g',hds,rfl,rfl,rfl⟩;have hr:Reach c0 HH n0 c' _:=g.reach.trans (g'.reach.weaken gA.le0);refine⟨c',⟨λt=>bif keep t then A t else X0p (X2v ops.toList rs) (λx=>true) ops.toList.length A0 t,_,_⟩,.normal,rfl,⟨g'.inv,g'.solo,λt=>?_,λt=>?_,g'.size,hr,Nat.le_trans gA.le0 g'.le0⟩,hds,rfl,hQ⟩
  ·show Xh c' false (bif keep t then A t else _) _
   cases ht:keep t with
   |false=>exact g'.frame t
   |true =>
    rw[hkept t ht];have h0:Xh cb false (A t) (act.tmps.getD t undef):=by
     have:=gA.drew.frame t;exact this
    exact h0.mono g'.reach.le (.inr (gA.ok t))
  ·show(bif keep t then A t else _:AV).Ok _
   cases ht:keep t with
   |false=>exact g'.ok t
   |true=>exact(gA.ok t).mono λq hq=>Nat.lt_of_lt_of_le hq g'.le0
 ·rw[hfn,X3f,X3f];have hM:∀ q,q<n->AtS n (λ_=>false) q:=λq h=>.inl h;exact⟨gb.inv.more hM,gb.solo,gb.frame,λt=>(gb.ok t).mono hM,gb.size,gb.reach,λq hq=>hM q (Nat.lt_of_lt_of_le hq (Nat.le_refl _))⟩
end
end Go.Av


namespace Go.Av.X
variable [Gls]
open Go.Av
noncomputable def sgn:AV:=.cond false .nils
noncomputable def isG (a:AV):Bool:=match a with
 |.cond false .nils=>true
 |_=>false
theorem Xkn {a:AV} (h:isG a=true):a=sgn:=by
 unfold isG at h;split at h
 ·rfl
 ·cases h
theorem Xb5 {a:AV} (h:isG a=true):X24 a=.junk:=by rw[Xkn h];rfl
abbrev YC:=List AV->HX->Nat->(X2->HX->Nat->Prop)->Prop
noncomputable def X4r (b:Nat):AV:=.sc (.func (.yield b) #[] #[])
noncomputable def sfA (b:Nat) (A:Nat->AV) (t:Nat):AV:=bif isG (A t) then X4r b else A t
noncomputable def sf (yo:Option YC) (b:Nat) (A:Nat->AV):Nat->AV:=match yo with
 |none=>A
 |some _=>sfA b A
noncomputable def jnA (A:Nat->AV) (t:Nat):AV:=bif isG (A t) then .junk else A t
noncomputable def jn (yo:Option YC) (A:Nat->AV):Nat->AV:=match yo with
 |none=>A
 |some _=>jnA A
theorem X0x0 (yo:Option YC) (A:Nat->AV):evA (jn yo A)=evA A:=by
 cases yo with
 |none=>rfl
 |some y =>
  funext x
  cases x with
  |tmp t =>
   show X24 (jnA A t)=X24 (A t);unfold jnA
   cases h:isG (A t) with
   |true=>rw[cond_true,Xb5 h];rfl
   |false=>rw[cond_false]
  |_=>rfl
theorem OpR.hide {P:Program} {nt:Nat} {o:Oper} {A A':Nat->AV} {H:X3} {n:Nat} {R:AV->X3->Nat->Prop} (hA:∀ t,A' t=A t\/(A' t=.junk/\∃ v,A t=.sc v)) (h:OpR P nt o ⟨A',H,n⟩ R):OpR P nt o ⟨A,H,n⟩ R:=by
  intro c0 H0 n0 c act g K Q hK Rm;have g':X1r nt c0 H0 n0 c ⟨A',H,n⟩ act:=by
    refine⟨g.inv,g.solo,λt=>?_,λt=>?_,g.size,g.reach,g.le0⟩
    · show Xh c false (A' t) _
      rcases hA t with h|⟨h,_⟩
      · rw[h];exact g.frame t
      · rw[h];exact .junk
    · show(A' t).Ok _
      rcases hA t with h|⟨h,_⟩
      · rw[h];exact g.ok t
      · rw[h];exact .junk
  refine h c0 H0 n0 c act g' K Q (λc' a H' n' v hR hgood=>hK c' a H' n' v hR λdst hd=>?_) Rm;have g2:=hgood dst hd;have keep:∀ t,(∀ d,dst=some d->t≠d)->(act.put dst v).tmps.getD t undef=act.tmps.getD t undef:=by
    intro t ht
    cases dst with
    |none=>rfl
    |some d =>
      have hlt:d<act.tmps.size:=by rw[g.size];exact hd d rfl
      show(act.tmps.setIfInBounds d v).getD t undef=_;rw[X6t hlt,if_neg (ht d rfl)]
  refine⟨g2.inv,g2.solo,λt=>?_,λt=>?_,g2.size,g2.reach,g2.le0⟩
  · have h2:=g2.frame t
    show Xh c' false (X2h A dst a t) _;rcases hA t with he|⟨he,u,hu⟩
    · have:X2h A dst a t=X2h A' dst a t:=by
        cases dst with
        |none=>exact he.symm
        | some d => by_cases htd : t = d
                    · subst htd;simp only[X2h,X1]
                    · simp only[X2h,X0 _ _ htd];exact he.symm
      rw[this];exact h2
    · by_cases hdt:∃ d,dst=some d/\t=d
      · obtain⟨d,rfl,rfl⟩:=hdt
        have h2:Xh c' false (X2h A' (some t) a t) _:=h2;simp only[X2h,X1] at h2 ⊢;exact h2
      · have hne:∀ d,dst=some d->t≠d:=λd hd he=>hdt ⟨d,hd,he⟩
        have e:X2h A dst a t=A t:=by
          cases dst with
          |none=>rfl
          |some d=>simp only[X2h,X0 _ _ (hne d rfl)]
        rw[e,keep t hne,hu];have:=g.frame t;have h0:Xh c false (A t) (act.tmps.getD t undef):=this;rw[hu] at h0;rw[h0.sc_inv];exact .sc
  · have h2:=g2.ok t
    show(X2h A dst a t).Ok _;rcases hA t with he|⟨he,u,hu⟩
    · have:X2h A dst a t=X2h A' dst a t:=by
        cases dst with
        |none=>exact he.symm
        | some d => by_cases htd : t = d
                    · subst htd;simp only[X2h,X1]
                    · simp only[X2h,X0 _ _ htd];exact he.symm
      rw[this];exact h2
    · by_cases hdt:∃ d,dst=some d/\t=d
      · obtain⟨d,rfl,rfl⟩:=hdt
        have h2:(X2h A' (some t) a t).Ok _:=h2;simp only[X2h,X1] at h2 ⊢;exact h2
      · have e:X2h A dst a t=A t:=by
          cases dst with
          |none=>rfl
          |some d=>simp only[X2h,X0 _ _ (λhe=>hdt ⟨d,rfl,he⟩)]
        rw[e,hu];exact .sc
theorem X0wz (yo:Option YC) (b:Nat) (A:Nat->AV) (t:Nat):jn yo A t=sf yo b A t\/(jn yo A t=.junk/\∃ v,sf yo b A t=.sc v):=by
 cases yo with
 |none=>exact .inl rfl
 |some y =>
  show jnA A t=sfA b A t\/(jnA A t=.junk/\∃ v,sfA b A t=.sc v);unfold jnA sfA
  cases h:isG (A t) with
  |true=>exact .inr ⟨rfl,_,rfl⟩
  |false=>exact .inl rfl
theorem Xfc (yo:Option YC) (b:Nat) (A:Nat->AV) (d:Option Nat) (a:AV) (ha:isG a=false):X2h (sf yo b A) d a=sf yo b (X2h A d a):=by
 cases yo with
 |none=>rfl
 |some y =>
  cases d with
  |none=>rfl
  |some d =>
   funext t
   show upd (sfA b A) d a t=sfA b (upd A d a) t;by_cases h:t=d
   ·subst h;have:sfA b (upd A t a) t=a:=by unfold sfA;rw[X1,ha];rfl
    rw[X1,this]
   ·have:sfA b (upd A d a) t=sfA b A t:=by unfold sfA;rw[X0 _ _ h]
    rw[X0 _ _ h,this]
theorem X00t (b:Nat) (A:Nat->AV) (d:Option Nat):X2h (sfA b A) d (X4r b)=sfA b (X2h A d sgn):=by
 cases d with
 |none=>rfl
 |some d =>
  funext t
  show upd (sfA b A) d (X4r b) t=sfA b (upd A d sgn) t;by_cases h:t=d
  ·subst h;have:sfA b (upd A t sgn) t=X4r b:=by unfold sfA;rw[X1];rfl
   rw[X1,this]
  ·have:sfA b (upd A d sgn) t=sfA b A t:=by unfold sfA;rw[X0 _ _ h]
   rw[X0 _ _ h,this]
theorem Xlw (yo:Option YC) (b:Nat) (A:Nat->AV) {t:Nat} {v:AV} (h:X24 (A t)=v) (hv:v≠.junk):sf yo b A t=A t:=by
 cases yo with
 |none=>rfl
 |some y =>
  show sfA b A t=A t;unfold sfA
  cases hg:isG (A t) with
  |false=>rfl
  |true=>rw[Xb5 hg] at h;exact absurd h.symm hv
def YcOk (P:Program) (yc:YC) (ps:Array Nat) (assign body:Code) (ntc:Nat) (A:Nat->AV):Prop :=
 ∀ as H n k,yc as H n k->as.length=ps.size/\(∀ p∈ps.toList,p<ntc)/\X1n assign=false/\X1n body=false/\∃ e H' n',k e H' n' /\
  X1q P ntc n assign (λe1 s μ1=>e1=.normal/\μ1=[]/\X1q P ntc n body (λe2 s _=>e2=e/\s.H=hpX H'/\s.n=n') s []) ⟨Xk0 ps.toList as A,hpX H,n⟩ []
structure Rd where
 ps:Array Nat
 assign:Code
 body:Code
 ntc:Nat
 A:Nat->AV
def Xjw (d:Rd) (r:Loop):Prop:=r.state=.ready/\r.pending=none/\r.params=d.ps/\r.assign=d.assign/\r.body=d.body
def Xbn (yo:Option YC) (d:Rd) (b m:Nat) (r:Loop) (pe:X2) (μr:Mu):Mu:=match yo with
 |none=>μr
 |some _=>(b,.loop (Xbk r pe) d.ntc m d.A)::μr
def YOk (P:Program) (yo:Option YC) (d:Rd):Prop:=∀ yc,yo=some yc->YcOk P yc d.ps d.assign d.body d.ntc d.A
noncomputable def noJ (l:List AV):Bool:=List.rec (motive:=λ_=>Bool) true (λa _ ih=>AV.casesOn (motive_1:=λ_=>Bool) a false (λ_=>ih) ih (λ_=>ih) (λ_=>ih) (λ_ _=>ih) (λ_ _ _=>ih) (λ_ _ _=>ih) (λ_ _ _=>ih) (λ_ _=>ih) (λ_ _=>ih) (λ_ _=>ih) (λ_ _=>ih)) l
theorem X02p:∀ (l:List AV),noJ l=true->∀ a∈l,a≠.junk:=by
 intro l
 induction l with
 |nil=>intro _ a h;simp at h
 |cons b l ih =>
  intro h a ha;have h2:b≠.junk/\noJ l=true:=by
   cases b<;>first|(cases h;done)|exact⟨(λe=>by cases e),h⟩
  rcases List.mem_cons.1 ha with rfl|ha
  ·exact h2.1
  ·exact ih h2.2 a ha
noncomputable def ckG (k:AV->HX->Nat->Prop) (a:AV) (H:HX) (n:Nat):Prop:=Bool.rec (motive:=λ_=>Prop) (k a H n) (stk 113) (isG a)
theorem X0gn {k:AV->HX->Nat->Prop} {a:AV} {H:HX} {n:Nat} (h:ckG k a H n):isG a=false/\k a H n:=by
 unfold ckG at h
 cases hg:isG a with
 |true=>rw[hg] at h;cases h
 |false=>rw[hg] at h;exact⟨rfl,h⟩
abbrev KP:=AV->HX->Nat->X2->Prop
noncomputable def kpe (k:KP) (pe:X2) (a:AV) (H:HX) (n:Nat):Prop:=k a H n pe
noncomputable def ykP (k:KP) (e:X2) (H:HX) (n:Nat):Prop:=X2.rec (motive:=λ_=>Prop) (k (.sc (.bool true)) H n .normal) (λi=>k (.sc (.bool false)) H n (.exit i)) (k (.sc (.bool false)) H n .ret) e
theorem Xv7 (k:KP) (e:X2) (H:HX) (n:Nat):ykP k e H n=k (.sc (.bool (X6r e).isNone)) H n e:=by cases e<;>rfl
noncomputable def nrm (e:X2) (p:Prop):Prop:=X2.rec (motive:=λ_=>Prop) p (λ_=>stk 122) (stk 123) e
theorem Xkl {e:X2} {p:Prop} (h:nrm e p):e=.normal/\p:=by
 cases e with
 |normal=>exact⟨rfl,h⟩
 |exit i=>cases h
 |ret=>cases h
noncomputable def opY (T:Ty) (rec:X4o) (pe:X2) (F:FX) (H:HX) (n:Nat) (o:Oper) (yc:YC) (k:KP):Prop :=
 match o.op with
 |.move (.tmp t)=>Bool.rec (motive:=λ_=>Prop) (opX T rec F H n o (ckG (kpe k pe))) (k sgn H n pe) (isG (frX F t))
 |.assign (.tmp t)=>Bool.rec (motive:=λ_=>Prop) (opX T rec F H n o (ckG (kpe k pe))) (k sgn H n pe) (isG (frX F t))
 |.call { callee:=.value (.tmp t),args:=args,argTypes:=_ }=>Bool.rec (motive:=λ_=>Prop) (opX T rec F H n o (ckG (kpe k pe)))
   (match o.guard with
   |none=>nrm pe (fL (args.toList.map (evA (frX F))) λas=>Bool.rec (motive:=λ_=>Prop) (stk 111) (yc as H n (ykP k)) (noJ as))
   |some _=>stk 112) (isG (frX F t))
 |_=>opX T rec F H n o (ckG (kpe k pe))
noncomputable def opZ (T:Ty) (rec:X4o) (yo:Option YC) (pe:X2) (F:FX) (H:HX) (n:Nat) (o:Oper) (k:KP):Prop :=
 Option.rec (motive:=λ_=>Prop) (opX T rec F H n o (kpe k pe)) (λyc=>opY T rec pe F H n o yc k) yo
noncomputable def gz1 (nt:Nat) (ops:Array Oper) (A:Nat->AV) (run skip:Prop) (p:Nat×Bool):Prop :=
 match (ops[p.1]?).bind (·.dst) with
  |some t=>Bool.rec (motive:=λ_=>Prop) (stk 51) (match gdS p.2 (A t) with
   |some g=>Bool.rec (motive:=λ_=>Prop) skip run g
   |none=>stk 52) (Nat.blt t nt)
  |none=>stk 53
noncomputable def gdZ (nt:Nat) (ops:Array Oper) (A:Nat->AV) (o:Oper) (run skip:Prop):Prop:=Option.rec (motive:=λ_=>Prop) run (gz1 nt ops A run skip) o.guard
theorem X074 {nt:Nat} {ops:Array Oper} {A:Nat->AV} {o:Oper} {run skip:Prop} (h:gdZ nt ops A o run skip) :
  (run/\(o.guard=none\/∃ j want t,o.guard=some (j,want)/\(ops[j]?).bind (·.dst)=some t/\Nat.blt t nt=true/\gdS want (A t)=some true)) \/
  (skip/\∃ j want t,o.guard=some (j,want)/\(ops[j]?).bind (·.dst)=some t/\Nat.blt t nt=true/\gdS want (A t)=some false):=by
 unfold gdZ at h
 cases hg:o.guard with
 |none=>rw[hg] at h;exact .inl ⟨h,.inl rfl⟩
 |some p =>
  obtain⟨j,want⟩:=p;rw[hg] at h;have h:gz1 nt ops A run skip (j,want):=h;unfold gz1 at h;split at h
  ·rename_i t hj
   cases ht:Nat.blt t nt with
   |false=>rw[ht] at h;cases h
   |true =>
    rw[ht] at h;have h:(match gdS want (A t) with
     |some g=>Bool.rec (motive:=λ_=>Prop) skip run g
     |none=>stk 52):=h
    split at h
    ·rename_i g hv
     cases g with
     |false=>exact .inr ⟨h,j,want,t,rfl,hj,ht,hv⟩
     |true=>exact .inl ⟨h,.inr ⟨j,want,t,rfl,hj,ht,hv⟩⟩
    ·cases h
  ·cases h
theorem Xkr (yo:Option YC) (b:Nat) (A:Nat->AV) {want:Bool} {t:Nat} {q:Bool} (h:gdS want (A t)=some q):gdS want (sf yo b A t)=some q:=by
 have:sf yo b A t=A t:=by
  cases yo with
  |none=>rfl
  |some y =>
   show sfA b A t=A t;unfold sfA
   cases hg:isG (A t) with
   |false=>rfl
   |true=>rw[Xkn hg] at h;cases h
 rw[this];exact h
noncomputable def Xno (T:Ty) (rec:X4o) (yo:Option YC) (nt:Nat) (ops:Array Oper) (l:List Oper):X2->FX->HX->Nat->(X2->FX->HX->Nat->Prop)->Prop :=
 List.rec (motive:=λ_=>X2->FX->HX->Nat->(X2->FX->HX->Nat->Prop)->Prop) (λpe F H n k=>k pe F H n) (λo _ ih pe F H n k =>
  Bool.rec (motive:=λ_=>Prop) (stk 61) (gdZ nt ops (frX F) o (opZ T rec yo pe F H n o λa H n pe=>X77 F o.dst a λF=>ih pe F H n k) (X77 F o.dst (.cond false (.sc (.bool false))) λF=>ih pe F H n k)) (X45 nt o.dst)) l
theorem Xgl {yo:Option YC} {b:Nat} {A:Nat->AV} {x:Operand} (h:evA A x≠.junk):evA (sf yo b A) x=evA A x:=by
 cases x with
 |tmp t =>
  show X24 (sf yo b A t)=X24 (A t);rw[Xlw yo b A (v:=X24 (A t)) rfl h]
 |_=>rfl
theorem X02j {P:Program} {T:Ty} {rec:X4o} {yo:Option YC} {nt:Nat} {ops:Array Oper} {l:List Oper} {pe:X2} {F:FX} {H:HX} {n:Nat} {o:Oper} {k:KP} {d:Rd} (hT:X2i P T) (hr:X9u P rec) (hy:YOk P yo d) (hd:X45 nt o.dst=true)
  (h:opZ T rec yo pe F H n o k):∃ a H' n' pe',k a H' n' pe'/\∀ n0 b m r μr (K:St->Mu->Prop),(yo≠none->Xjw d r) ->
   (∀ (c0 c:Ctx) (H0:X3) (act:Act),X1r nt c0 H0 n0 c ⟨sf yo b (frX F),hpX H,n⟩ act->Region.wanted o (yielded ops act.tmps)=true) ->
   X1t P nt n0 ops l K ⟨sf yo b (X2h (frX F) o.dst a),hpX H',n'⟩ (Xbn yo d b m r pe' μr)->X1t P nt n0 ops (o::l) K ⟨sf yo b (frX F),hpX H,n⟩ (Xbn yo d b m r pe μr):=by
 have plain:∀ k',opX T rec F H n o k'->∃ a H' n',k' a H' n'/\∀ n0 b μ (K:St->Mu->Prop),(isG a=false\/yo=none) ->
   (∀ (c0 c:Ctx) (H0:X3) (act:Act),X1r nt c0 H0 n0 c ⟨sf yo b (frX F),hpX H,n⟩ act->Region.wanted o (yielded ops act.tmps)=true) ->
   X1t P nt n0 ops l K ⟨sf yo b (X2h (frX F) o.dst a),hpX H',n'⟩ μ->X1t P nt n0 ops (o::l) K ⟨sf yo b (frX F),hpX H,n⟩ μ:=by
  intro k' h;obtain⟨a,H',n',hR,hk⟩:=X02k (nt:=nt) (A:=jn yo (frX F)) (X0x0 yo _) hT hr h;refine⟨a,H',n',hk,λn0 b μ K hg hw hn=>?_⟩;refine X1t.step hw (X1s hd) (OpR.hide (λt=>X0wz yo b (frX F) t) hR) ?_;rintro a' H2 n2 ⟨rfl,rfl,rfl⟩;show X1t P nt n0 ops l K ⟨X2h (sf yo b (frX F)) o.dst a',hpX H',n2⟩ μ;rcases hg with hg|hg
  ·rw[Xfc yo b _ _ _ hg];exact hn
  ·subst hg;exact hn
 cases yo with
 |none =>
  obtain⟨a,H',n',hk,hs⟩:=plain _ h;exact⟨a,H',n',pe,hk,λn0 b m r μr K _ hw hn=>hs n0 b _ K (.inr rfl) hw hn⟩
 |some yc =>
  have h:opY T rec pe F H n o yc k:=h;have plain2:opX T rec F H n o (ckG (kpe k pe))->∃ a H' n' pe',k a H' n' pe'/\∀ n0 b m r μr (K:St->Mu->Prop),(some yc≠none->Xjw d r) ->
    (∀ (c0 c:Ctx) (H0:X3) (act:Act),X1r nt c0 H0 n0 c ⟨sf (some yc) b (frX F),hpX H,n⟩ act->Region.wanted o (yielded ops act.tmps)=true) ->
    X1t P nt n0 ops l K ⟨sf (some yc) b (X2h (frX F) o.dst a),hpX H',n'⟩ (Xbn (some yc) d b m r pe' μr)->X1t P nt n0 ops (o::l) K ⟨sf (some yc) b (frX F),hpX H,n⟩ (Xbn (some yc) d b m r pe μr):=by
   intro h;obtain⟨a,H',n',hk,hs⟩:=plain _ h;obtain⟨hg,hk⟩:=X0gn hk;exact⟨a,H',n',pe,hk,λn0 b m r μr K _ hw hn=>hs n0 b _ K (.inl hg) hw hn⟩
  have mv:∀ (x:Operand) (t:Nat),x=.tmp t->isG (frX F t)=true->(o.op=.move x\/o.op=.assign x)->k sgn H n pe->∃ a H' n' pe',k a H' n' pe'/\∀ n0 b m r μr (K:St->Mu->Prop),(some yc≠none->Xjw d r) ->
    (∀ (c0 c:Ctx) (H0:X3) (act:Act),X1r nt c0 H0 n0 c ⟨sf (some yc) b (frX F),hpX H,n⟩ act->Region.wanted o (yielded ops act.tmps)=true) ->
    X1t P nt n0 ops l K ⟨sf (some yc) b (X2h (frX F) o.dst a),hpX H',n'⟩ (Xbn (some yc) d b m r pe' μr)->X1t P nt n0 ops (o::l) K ⟨sf (some yc) b (frX F),hpX H,n⟩ (Xbn (some yc) d b m r pe μr):=by
   intro x t hx hg ho hk;refine⟨_,_,_,_,hk,λn0 b m r μr K _ hw hn=>?_⟩;have he:evA (sf (some yc) b (frX F)) x=X4r b:=by
    rw[hx];show X24 (sfA b (frX F) t)=_;unfold sfA;rw[hg];rfl
   have hR:OpR P nt o ⟨sf (some yc) b (frX F),hpX H,n⟩ (λa' H' n'=>a'=X4r b/\H'=hpX H/\n'=n):=by
    refine OpR.pu hT (s:=⟨sf (some yc) b (frX F),hpX H,n⟩) ?_;rw[<-he];rcases ho with ho|ho
    ·rw[ho];exact .move
    ·rw[ho];exact .assign
   refine X1t.step hw (X1s hd) hR ?_;rintro a' H2 n2 ⟨rfl,rfl,rfl⟩;show X1t P nt n0 ops l K ⟨X2h (sfA b (frX F)) o.dst (X4r b),hpX H,n2⟩ _;rw[X00t];exact hn
  unfold opY at h;split at h
  ·rename_i t ho
   cases hg:isG (frX F t) with
   |false=>rw[hg] at h;exact plain2 h
   |true=>rw[hg] at h;exact mv _ t rfl hg (.inl ho) h
  ·rename_i t ho
   cases hg:isG (frX F t) with
   |false=>rw[hg] at h;exact plain2 h
   |true=>rw[hg] at h;exact mv _ t rfl hg (.inr ho) h
  ·rename_i t args ts ho
   cases hg:isG (frX F t) with
   |false=>rw[hg] at h;exact plain2 h
   |true =>
    rw[hg] at h;have h:(match o.guard with
     |none=>nrm pe (fL (args.toList.map (evA (frX F))) λas=>Bool.rec (motive:=λ_=>Prop) (stk 111) (yc as H n (ykP k)) (noJ as))
     |some _=>stk 112):=h
    split at h
    ·rename_i hgd;obtain⟨rfl,h⟩:=Xkl h;rw[Xab] at h
     cases hj:noJ (args.toList.map (evA (frX F))) with
     |false=>rw[hj] at h;cases h
     |true =>
      rw[hj] at h;obtain⟨p1,p2,p3,p4,e,H',n',hk,hs⟩:=hy yc rfl _ _ _ _ h;rw[Xv7] at hk;refine⟨_,H',n',e,hk,λn0 b m r μr K hrd hw hn=>?_⟩;obtain⟨r1,r2,r3,r4,r5⟩:=hrd (by simp);have hx:evA (sf (some yc) b (frX F)) (.tmp t)=X4r b:=by
       show X24 (sfA b (frX F) t)=_;unfold sfA;rw[hg];rfl
      have has:args.toList.map (evA (sf (some yc) b (frX F)))=args.toList.map (evA (frX F)):=by
       refine List.map_congr_left λx hx=>Xgl ?_;exact X02p _ hj _ (List.mem_map_of_mem hx)
      show X1t P nt n0 ops (o::l) K _ ((b,.loop (Xbk r .normal) d.ntc m d.A)::μr);rw[X8e r1 r2];refine X1t.yield (r:=r) (ntc:=d.ntc) (m:=m) (Ac:=d.A) ho hgd hd hx has r1 r2 (by rw[r3];exact p1) (by rw[r3];exact p2) (by rw[r4,r5];exact⟨p3,p4⟩) ?_;rw[r3,r4,r5];refine hs.mono ?_;rintro e1 s μ1 ⟨rfl,rfl,hb⟩;refine⟨rfl,rfl,hb.mono ?_⟩;rintro e2 s _ ⟨rfl,e1,e2⟩;rw[e1,e2,Xfc (some yc) b _ _ _ rfl];exact hn
    ·cases h
  ·exact plain2 h
theorem Xnn {P:Program} {T:Ty} {rec:X4o} {yo:Option YC} {nt:Nat} {ops:Array Oper} {d:Rd} (hnt:nt<=324) (hT:X2i P T) (hr:X9u P rec) (hy:YOk P yo d):∀ (l:List Oper) (pe:X2) (F:FX) (H:HX) (n:Nat) (k:X2->FX->HX->Nat->Prop),Xno T rec yo nt ops l pe F H n k ->
  ∃ pe' F' H' n',k pe' F' H' n'/\∀ n0 b m r μr,(yo≠none->Xjw d r)->X1t P nt n0 ops l (λs' μ'=>μ'=Xbn yo d b m r pe' μr/\s'=⟨sf yo b (frX F'),hpX H',n'⟩) ⟨sf yo b (frX F),hpX H,n⟩ (Xbn yo d b m r pe μr):=by
 intro l
 induction l with
 |nil=>intro pe F H n k h;exact⟨pe,F,H,n,h,λn0 b m r μr _=>X1t.nil ⟨rfl,rfl⟩⟩
 |cons o l ih =>
  intro pe F H n k h;have h:Bool.rec (motive:=λ_=>Prop) (stk 61) (gdZ nt ops (frX F) o (opZ T rec yo pe F H n o λa H n pe=>X77 F o.dst a λF=>Xno T rec yo nt ops l pe F H n k) (X77 F o.dst (.cond false (.sc (.bool false))) λF=>Xno T rec yo nt ops l pe F H n k)) (X45 nt o.dst):=h
  cases hd:X45 nt o.dst with
  |false=>rw[hd] at h;cases h
  |true =>
   rw[hd] at h;have h:gdZ nt ops (frX F) o (opZ T rec yo pe F H n o λa H n pe=>X77 F o.dst a λF=>Xno T rec yo nt ops l pe F H n k) (X77 F o.dst (.cond false (.sc (.bool false))) λF=>Xno T rec yo nt ops l pe F H n k):=h;have hdlt:=X1s hd;have hd2:∀ t,o.dst=some t->t<324:=λt ht=>Nat.lt_of_lt_of_le (hdlt t ht) hnt;rcases X074 h with ⟨h,hg⟩|⟨h,j,want,t,hg,hj,ht,hb⟩
   ·obtain⟨a,H1,n1,pe1,h,hs⟩:=X02j (ops:=ops) (l:=l) hT hr hy hd h;obtain⟨F1,hF,h⟩:=X6k hd2 h;obtain⟨pe',F',H',n',hk,hsem⟩:=ih _ _ _ _ _ h;refine⟨pe',F',H',n',hk,λn0 b m r μr hin=>hs n0 b m r μr _ hin ?_ ?_⟩
    ·intro c0 c H0 act g;rcases hg with hgn|⟨j,want,t,hg,hj,ht,hv⟩
     ·simp[Region.wanted,hgn]
     ·exact X5b hg hj ht (Xkr yo b _ hv) g
    ·rw[<-hF];exact hsem n0 b m r μr hin
   ·obtain⟨F1,hF,h⟩:=X6k hd2 h;obtain⟨pe',F',H',n',hk,hsem⟩:=ih _ _ _ _ _ h;refine⟨pe',F',H',n',hk,λn0 b m r μr hin=>X1t.skip hg hj ht (Xkr yo b _ hb) hdlt ?_⟩;show X1t P nt n0 ops l _ ⟨X2h (sf yo b (frX F)) o.dst _,hpX H,n⟩ _;rw[Xfc yo b _ _ _ rfl,<-hF];exact hsem n0 b m r μr hin
abbrev KZ:=X2->X2->FX->HX->Nat->Prop
abbrev CY:=Option YC->X2->FX->HX->Nat->KZ->Prop
abbrev Xel:=Option YC->X4o
noncomputable def Xv5 (ps:List Nat):List AV->FX->(FX->Prop)->Prop :=
 List.rec (motive:=λ_=>List AV->FX->(FX->Prop)->Prop) (λ_ F k=>k F) (λp _ ih as F k=>List.rec (motive:=λ_=>Prop) (k F) (λa as _=>Bool.rec (motive:=λ_=>Prop) (stk 121) (Xbu F p a λF=>ih as F k) (Nat.blt p 324)) as) ps
theorem Xl0:∀ (ps:List Nat) (as:List AV) (F:FX) (k:FX->Prop),Xv5 ps as F k->∃ F',frX F'=Xk0 ps as (frX F)/\k F':=by
 intro ps
 induction ps with
 |nil=>intro as F k h;exact⟨F,by cases as<;>rfl,h⟩
 |cons p ps ih =>
  intro as F k h
  cases as with
  |nil=>exact⟨F,rfl,h⟩
  |cons a as =>
   have h:Bool.rec (motive:=λ_=>Prop) (stk 121) (Xbu F p a λF=>Xv5 ps as F k) (Nat.blt p 324):=h
   cases hp:Nat.blt p 324 with
   |false=>rw[hp] at h;cases h
   |true =>
    rw[hp] at h;have h:Xbu F p a (λF=>Xv5 ps as F k):=h;rw[X8d] at h;obtain⟨F',h1,h2⟩:=ih _ _ _ h;refine⟨F',?_,h2⟩;rw[h1,X7c F p (by simpa using hp)];rfl
noncomputable def Xhl (nt:Nat) (l:List Nat):Bool:=List.rec (motive:=λ_=>Bool) true (λp _ ih=>Bool.rec (motive:=λ_=>Bool) false ih (Nat.blt p nt)) l
theorem Xju {nt:Nat}:∀ l:List Nat,Xhl nt l=true->∀ p∈l,p<nt:=by
 intro l
 induction l with
 |nil=>intro _ p h;simp at h
 |cons a l ih =>
  intro h p hp;have h:Bool.rec (motive:=λ_=>Bool) false (Xhl nt l) (Nat.blt a nt)=true:=h
  cases ha:Nat.blt a nt with
  |false=>rw[ha] at h;cases h
  |true =>
   rw[ha] at h;rcases List.mem_cons.1 hp with rfl|hp
   ·simpa using ha
   ·exact ih h p hp
noncomputable def rndX (nt:Nat) (ps:List Nat) (assign body:CY) (F:FX):YC:=λas H n k =>
 Bool.rec (motive:=λ_=>Prop) (stk 124) (Xv5 ps as F λF=>assign none .normal F H n λe _ F H n=>nrm e (body none .normal F H n λe _ _ H n=>k e H n)) (Nat.beq as.length ps.length)
noncomputable def encP (e:X2):AV:=X2.rec (motive:=λ_=>AV) (.tup []) (λi=>.ptr i 0 0) .nils e
noncomputable def decP (a:AV) (k:X2->Prop):Prop :=
 AV.casesOn (motive_1:=λ_=>(X2->Prop)->Prop) a (λ_=>stk 135) (λ_ _=>stk 135) (λk=>k .ret) (λ_ _=>stk 135) (λ_ k=>k .normal) (λ_ _ _=>stk 135) (λ_ _ _ _=>stk 135) (λi _ _ k=>k (.exit i)) (λ_ _ _ _=>stk 135) (λ_ _ _=>stk 135) (λ_ _ _=>stk 135) (λ_ _ _=>stk 135) (λ_ _ _=>stk 135) k
theorem Xh2 (e:X2) (k:X2->Prop):decP (encP e) k=k e:=by cases e<;>rfl
noncomputable def rfX (rec:Xel) (nt:Nat) (g:Operand) (ps:Array Nat) (ca cb:Code) (assign body:CY):CY:=λyo pe F H n k =>
 Option.rec (motive:=λ_=>Prop) (match evA (frX F) g with
  |.fn gf caps=>Bool.rec (motive:=λ_=>Prop) (stk 131) (rec (some (rndX nt ps.toList assign body F)) gf (sgn::caps) H n λa H n=>decP a λe=>k e pe F H n) (Bool.not (X1n ca)&&(Bool.not (X1n cb)&&Xhl nt ps.toList))
  |a=>Xtb 132 a) (λ_=>stk 133) yo
abbrev BZ:=X2->FX->HX->Nat->KZ->Prop
noncomputable def Xio (b:BZ) (m:Nat):BZ :=
 Nat.rec (motive:=λ_=>BZ) (λ_ _ _ _ _=>stk 91) (λ_ ih pe F H n k=>b pe F H n λe pe F H n=>X2.rec (motive:=λ_=>Prop) (ih pe F H n k) (λi=>k (.exit i) pe F H n) (k .ret pe F H n) e) m
noncomputable def clrX (m:Nat):FX->(FX->Prop)->Prop :=
 Nat.rec (motive:=λ_=>FX->(FX->Prop)->Prop) (λF k=>k F) (λi ih F k=>Bool.rec (motive:=λ_=>Prop) (ih F k) (Xbu F i .junk λF=>ih F k) (isG (frX F i))) m
theorem Xt0:∀ (m:Nat) (F:FX) (k:FX->Prop),m<=324->clrX m F k->∃ F',k F'/\∀ t,frX F' t=bif Nat.blt t m&&isG (frX F t) then .junk else frX F t:=by
 intro m
 induction m with
 |zero=>intro F k _ h;exact⟨F,h,λt=>rfl⟩
 |succ m ih =>
  intro F k hm h;have h:Bool.rec (motive:=λ_=>Prop) (clrX m F k) (Xbu F m .junk λF=>clrX m F k) (isG (frX F m)):=h
  cases hg:isG (frX F m) with
  |false =>
   rw[hg] at h;obtain⟨F',hk,hF⟩:=ih _ _ om h;refine⟨F',hk,λt=>?_⟩;rw[hF];by_cases ht:t=m
   ·subst ht;rw[hg];simp
   ·have:Nat.blt t (m+1)=Nat.blt t m:=by
     rw[Bool.eq_iff_iff];simp;omega
    rw[this]
  |true =>
   rw[hg] at h;have h:Xbu F m .junk (λF=>clrX m F k):=h;rw[X8d] at h;obtain⟨F',hk,hF⟩:=ih _ _ om h;refine⟨F',hk,λt=>?_⟩;rw[hF,X7c F m om];by_cases ht:t=m
   ·subst ht;rw[hg,X1,show Nat.blt t (t+1)=true by simp];simp
   ·rw[X0 _ _ ht];have:Nat.blt t (m+1)=Nat.blt t m:=by
     rw[Bool.eq_iff_iff];simp;omega
    rw[this]
noncomputable def Xut (G:FX) (m:Nat):FX->(FX->Prop)->Prop :=
 Nat.rec (motive:=λ_=>FX->(FX->Prop)->Prop) (λF k=>k F) (λi ih F k=>Bool.rec (motive:=λ_=>Prop) (Bool.rec (motive:=λ_=>Prop) (ih F k) (stk 136) (isG (frX F i))) (Xbu F i sgn λF=>ih F k) (isG (frX G i))) m
theorem Xmf {G:FX}:∀ (m:Nat) (F:FX) (k:FX->Prop),m<=324->Xut G m F k->∃ F',k F'/\(∀ t,frX F' t=bif Nat.blt t m&&isG (frX G t) then sgn else frX F t)/\∀ t,t<m->isG (frX G t)=false->isG (frX F t)=false:=by
 intro m
 induction m with
 |zero=>intro F k _ h;exact⟨F,h,λt=>rfl,λt ht=>by omega⟩
 |succ m ih =>
  intro F k hm h;have h:Bool.rec (motive:=λ_=>Prop) (Bool.rec (motive:=λ_=>Prop) (Xut G m F k) (stk 136) (isG (frX F m))) (Xbu F m sgn λF=>Xut G m F k) (isG (frX G m)):=h;have hb:∀ t,t≠m->Nat.blt t (m+1)=Nat.blt t m:=λt ht=>by rw[Bool.eq_iff_iff];simp;omega
  cases hg:isG (frX G m) with
  |false =>
   rw[hg] at h;have h:Bool.rec (motive:=λ_=>Prop) (Xut G m F k) (stk 136) (isG (frX F m)):=h
   cases hf:isG (frX F m) with
   |true=>rw[hf] at h;cases h
   |false =>
    rw[hf] at h;obtain⟨F',hk,hF,hn⟩:=ih _ _ om h;refine⟨F',hk,λt=>?_,λt ht hgt=>?_⟩
    ·rw[hF];by_cases ht:t=m
     ·subst ht;rw[hg];simp
     ·rw[hb t ht]
    ·by_cases h2:t=m
     ·subst h2;exact hf
     ·exact hn t om hgt
  |true =>
   rw[hg] at h;have h:Xbu F m sgn (λF=>Xut G m F k):=h;rw[X8d] at h;obtain⟨F',hk,hF,hn⟩:=ih _ _ om h;refine⟨F',hk,λt=>?_,λt ht hgt=>?_⟩
   ·rw[hF,X7c F m om];by_cases ht:t=m
    ·subst ht;rw[hg,X1,show Nat.blt t (t+1)=true by simp];simp
    ·rw[X0 _ _ ht,hb t ht]
   ·by_cases h2:t=m
    ·subst h2;rw[hg] at hgt;cases hgt
    ·have:=hn t om hgt;rw[X7c F m om,X0 _ _ h2] at this;exact this
noncomputable def Xca (F:FX) (l:List Oper):Bool:=List.rec (motive:=λ_=>Bool) true (λo _ ih=>Option.rec (motive:=λ_=>Bool) ih (λd=>Bool.rec (motive:=λ_=>Bool) ih false (isG (frX F d))) o.dst) l
theorem Xjh {F:FX}:∀ l:List Oper,Xca F l=true->∀ o∈l,∀ d,o.dst=some d->isG (frX F d)=false:=by
 intro l
 induction l with
 |nil=>intro _ o h;cases h
 |cons o l ih =>
  intro h q hq d hd;have h:Option.rec (motive:=λ_=>Bool) (Xca F l) (λd=>Bool.rec (motive:=λ_=>Bool) (Xca F l) false (isG (frX F d))) o.dst=true:=h;have h2:Xca F l=true/\∀ d,o.dst=some d->isG (frX F d)=false:=by
   cases ho:o.dst with
   |none=>rw[ho] at h;exact⟨h,λd hd=>by cases hd⟩
   |some e =>
    rw[ho] at h;have h:Bool.rec (motive:=λ_=>Bool) (Xca F l) false (isG (frX F e))=true:=h
    cases hg:isG (frX F e) with
    |true=>rw[hg] at h;cases h
    |false=>rw[hg] at h;exact⟨h,λd hd=>by cases hd;exact hg⟩
  rcases List.mem_cons.1 hq with rfl|hq
  ·exact h2.2 d hd
  ·exact ih h2.1 q hq d hd
noncomputable def drY (T:Ty) (rec:X4o) (nt:Nat) (ops:Array Oper) (pe:X2) (F:FX) (H:HX) (n:Nat) (k:KZ):Prop :=
 Bool.rec (motive:=λ_=>Prop) (stk 134) (clrX 324 F λF0=>hzK ops.toList F0 λhz=>drX T rec hz nt n ops (X0k ops.toList) ((X0k ops.toList).zip (ops.toList.map hz)) ops.toList 0 F0 H [] λF1 H=>Xut F 324 F1 λF2=>fN (n+ops.toList.length) λn=>k .normal pe F2 H n) (Xca F ops.toList)
noncomputable def X00w (ops:List Oper) (n:Nat):Operand->Option Operand :=
 Nat.rec (motive:=λ_=>Operand->Option Operand) (λ_=>none) (λ_ ih x=>match x with
  |.tmp t=>match ops.find? (λo=>match o.dst with|some d=>Nat.beq d t|none=>false) with
   |none=>some x
   |some o=>match o.op with
    |.move y=>ih y
    |.assign y=>ih y
    |_=>none
  |_=>none) n
noncomputable def cut1 (ops:List Oper) (ev:Operand->AV) (o:Oper) (H:HX) (k:HX->Prop):Prop :=
 match o.op with
 |.call { callee:=.builtin .append,args:=⟨[s,_]⟩,argTypes:=_ }=>match X00w ops 6 s with
  |some x=>match ev x with
   |.ref q 0 m=>match hpX H q with
    |some y=>Bool.rec (motive:=λ_=>Prop) (k H) (fO sh { y with es:=y.es.take m } λy=>X1o H q (some y) k) (Nat.blt m y.es.length)
    |none=>k H
   |_=>k H
  |none=>k H
 |_=>k H
noncomputable def Xst (ev:Operand->AV) (l:List Oper):List Oper->HX->(HX->Prop)->Prop :=
 List.rec (motive:=λ_=>List Oper->HX->(HX->Prop)->Prop) (λ_ H k=>k H) (λo _ ih pre H k=>cut1 pre ev o H λH=>ih (o::pre) H k) l
inductive Cut:X3->X3->Prop
 |refl {H}:Cut H H
 |step {H H' q y m} (hy:H q=some y) (h:Cut (upd H q (some { y with es:=y.es.take m })) H'):Cut H H'
theorem Cut.trans {H H' H'':X3} (h:Cut H H') (k:Cut H' H''):Cut H H'':=by
 induction h with
 |refl=>exact k
 |step hy _ ih=>exact .step hy (ih k)
theorem Xss {ev:Operand->AV}:∀ (l pre:List Oper) (H:HX) (k:HX->Prop),Xst ev l pre H k->∃ H',Cut (hpX H) (hpX H')/\k H':=by
 intro l
 induction l with
 |nil=>intro pre H k h;exact⟨H,.refl,h⟩
 |cons o l ih =>
  intro pre H k h;have h:cut1 pre ev o H (λH=>Xst ev l (o::pre) H k):=h;have same:Xst ev l (o::pre) H k->∃ H',Cut (hpX H) (hpX H')/\k H':=λh=>ih _ H k h;unfold cut1 at h;split at h
  ·split at h
   ·split at h
    ·split at h
     ·rename_i q m _ _ y hy
      cases hb:Nat.blt m y.es.length with
      |false=>rw[hb] at h;exact same h
      |true =>
       rw[hb] at h;have h:fO sh { y with es:=y.es.take m } (λy=>X1o H q (some y) λH=>Xst ev l (o::pre) H k):=h;rw[X58 X3k] at h;obtain⟨H1,h1,h2⟩:=X1j h;obtain⟨H',h3,h4⟩:=ih _ _ _ h2;exact⟨H',.step hy (by rw[<-h1];exact h3),h4⟩
     ·exact same h
    ·exact same h
   ·exact same h
  ·exact same h
theorem X1q.cutH {P:Program} {nt n0 n:Nat} {code:Code} {Q:X2->St->Mu->Prop} {A:Nat->AV} {H H':X3} {μ:Mu} (hc:Cut H H') (h:X1q P nt n0 code Q ⟨A,H',n⟩ μ):X1q P nt n0 code Q ⟨A,H,n⟩ μ:=by
 induction hc with
 |refl=>exact h
 |@step H H' q y m hy _ ih =>
  have h:=ih h;intro c0 H0 c act g hm;refine h c0 H0 c act (g.trunc hy m) ⟨hm.is,λp hp=>?_,hm.nodup,hm.ds⟩;obtain⟨a1,a2,a3,a4⟩:=hm.away p hp;refine⟨a1,a2,λo x hx=>?_,a4⟩;have hx:upd H q (some { y with es:=y.es.take m }) o=some x:=hx;by_cases ho:o=q
  ·subst ho;exact a3 o y hy
  ·rw[X0 _ _ ho] at hx;exact a3 o x hx
inductive Fz:(Nat->AV)->X3->(Nat->AV)->X3->Prop
 |refl {A H}:Fz A H A H
 |step {A H A' H' t q y} (ht:A t=.ref q 0 y.es.length) (hy:H q=some y) (hf:∀ e∈y.es,∀ a∈e.cells,∃ v,a=.sc v) (h:Fz (upd A t (.list true y.es)) (upd H q none) A' H'):Fz A H A' H'
theorem X1q.fz {P:Program} {nt n0 n:Nat} {code:Code} {Q:X2->St->Mu->Prop} {A A':Nat->AV} {H H':X3} {μ:Mu} (hc:Fz A H A' H') (h:X1q P nt n0 code Q ⟨A',H',n⟩ μ):X1q P nt n0 code Q ⟨A,H,n⟩ μ:=by
 induction hc with
 |refl=>exact h
 |@step A H A' H' t q y ht hy hf _ ih =>
  have h:=ih h;intro c0 H0 c act g hm R hR;obtain⟨c',hw,g',hfrz,hle,hρ,hSa,hSo⟩:=X1r.frz g hy hf;rw[<-hw];refine h c0 H0 c' act ⟨g'.inv,g'.solo,λt'=>?_,λt'=>?_,g'.size,g'.reach,g'.le0⟩ ⟨λp hp=>(hm.is p hp).le (by rw[hw]) (hle _),λp hp=>?_,hm.nodup,hm.ds⟩ R hR
  ·show Xh c' false (upd A t (.list true y.es) t') _;by_cases e:t'=t
   ·subst e;rw[X1];have:=g.frame t';rw[show St.A ⟨A,H,n⟩ t'=_ from ht] at this;exact hfrz this
   ·rw[X0 _ _ e];exact g'.frame t'
  ·show(upd A t (.list true y.es) t').Ok _;by_cases e:t'=t
   ·subst e;rw[X1];exact .list
   ·rw[X0 _ _ e];exact g'.ok t'
  ·obtain⟨a1,a2,a3,a4⟩:=hm.away p hp;refine⟨by rw[hSa];exact a1,λhs=>(hSo _ hs).elim a2 λe=>a3 q y hy e.symm,λo x hx=>?_,a4⟩;have hx:upd H q none o=some x:=hx;rw[hρ];by_cases ho:o=q
   ·subst ho;rw[X1] at hx;cases hx
   ·rw[X0 _ _ ho] at hx;exact a3 o x hx
noncomputable def r3L (ops:List Oper):List Nat:=ops.filterMap λo=>match o.op with
 |.slice _ x _ (some _) (some _)=>match X00w ops 8 x with
  |some (.tmp t)=>some t
  |_=>none
 |_=>none
noncomputable def fzD (l:List Nat):FX->HX->(FX->HX->Prop)->Prop :=
 List.rec (motive:=λ_=>FX->HX->(FX->HX->Prop)->Prop) (λF H k=>k F H) (λt _ ih F H k=>match frX F t with
  |.ref q 0 len=>match hpX H q with
   |some y=>bif Nat.blt t 324&&(Nat.beq y.es.length len&&flB y.es) then fA (.list true y.es) λa=>X77 F (some t) a λF=>X1o H q none λH=>ih F H k else ih F H k
   |none=>ih F H k
  |_=>ih F H k) l
theorem X076:∀ (l:List Nat) (F:FX) (H:HX) (k:FX->HX->Prop),fzD l F H k->∃ F' H',Fz (frX F) (hpX H) (frX F') (hpX H')/\k F' H':=by
 intro l
 induction l with
 |nil=>intro F H k h;exact⟨F,H,.refl,h⟩
 |cons t l ih =>
  intro F H k h;have h:(match frX F t with
   |.ref q 0 len=>match hpX H q with
    |some y=>bif Nat.blt t 324&&(Nat.beq y.es.length len&&flB y.es) then fA (.list true y.es) λa=>X77 F (some t) a λF=>X1o H q none λH=>fzD l F H k else fzD l F H k
    |none=>fzD l F H k
   |_=>fzD l F H k):=h
  split at h
  ·rename_i q len ht;split at h
   ·rename_i y hy
    cases hc:(Nat.blt t 324&&(Nat.beq y.es.length len&&flB y.es)) with
    |false=>rw[hc,cond_false] at h;exact ih _ _ _ h
    |true =>
     rw[hc,cond_true,X4m] at h;simp only[Bool.and_eq_true,Nat.beq_eq] at hc;obtain⟨c1,rfl,c3⟩:=hc;have c1:t<324:=by simpa using c1
     obtain⟨F1,e1,h⟩:=X6k (λt' ht'=>by cases ht';exact c1) h;obtain⟨H1,e2,h⟩:=X1j h;obtain⟨F',H',h1,h2⟩:=ih _ _ _ h;refine⟨F',H',.step ht hy (Xkt c3) ?_,h2⟩;rw[e1,e2] at h1;exact h1
   ·exact ih _ _ _ h
  ·exact ih _ _ _ h
noncomputable def X46 (T:Ty) (X:Nat->Option (List AV->Option AV)) (rec:Xel) (nt fuel:Nat) (c:Code):CY :=
 Code.rec (motive:=λ_=>CY) (λ_ pe F H n k=>k .normal pe F H n)
  (λ_ ops draw yo pe F H n k=>Bool.rec (motive:=λ_=>Prop) (Xno T (extR X (rec none)) yo nt ops ops.toList pe F H n λpe F H n=>k .normal pe F H n)
   (Bool.rec (motive:=λ_=>Prop) (stk 94) (Xst (evA (frX F)) ops.toList [] H λH=>Option.rec (motive:=λ_=>Prop) (fzD (r3L ops.toList) F H λF H=>hzK ops.toList F λhz=>drX T (rec none) hz nt n ops (X0k ops.toList) ((X0k ops.toList).zip (ops.toList.map hz)) ops.toList 0 F H [] λF H=>fN (n+ops.toList.length) λn=>k .normal pe F H n) (λ_=>drY T (rec none) nt ops pe F H n k) yo) (X2w 0 ops.toList)) draw)
  (λ_ _ iha ihb yo pe F H n k=>iha yo pe F H n λe pe F H n=>X2.rec (motive:=λ_=>Prop) (ihb yo pe F H n k) (λi=>k (.exit i) pe F H n) (k .ret pe F H n) e)
  (λc _ _ iha ihb yo pe F H n k=>Xsx (evA (frX F) c) (iha yo pe F H n k) (ihb yo pe F H n k))
  (λid _ ih yo pe F H n k=>ih yo pe F H n λe pe F H n=>X2.rec (motive:=λ_=>Prop) (k .normal pe F H n) (λi=>Bool.rec (motive:=λ_=>Prop) (k (.exit i) pe F H n) (k .normal pe F H n) (Nat.beq i id)) (k .ret pe F H n) e)
  (λ_ ih yo pe F H n k=>Xio (ih yo) fuel pe F H n k)
  (λg ps ca cb iha ihb=>rfX rec nt g ps ca cb iha ihb)
  (λi _ pe F H n k=>k (.exit i) pe F H n)
  (λ_ ih yo pe F H n k=>ih yo pe F H n k) (λ_ _ pe F H n k=>k .normal pe F H n) (λ_ _ _ _ _ _ _=>stk 96) (λ_ pe F H n k=>k .ret pe F H n) (λ_ _ _ _ _ _ _=>stk 97) c
def X9v (P:Program) (rec:Xel):Prop:=∀ (yc:YC) f caps H n k d,YOk P (some yc) d->rec (some yc) f (sgn::caps) H n k ->
 ∃ fn code pe H' n',X5a P f fn code/\fn.results=#[]/\caps.length+1<=fn.ntmps/\k (encP pe) H' n'/\∀ b m r μr,Xjw d r ->
  X1q P fn.ntmps n code (λe s μ'=>(∀ id,e≠.exit id)/\μ'=Xbn (some yc) d b m r pe μr/\s.H=hpX H'/\s.n=n') ⟨X6a (X4r b::caps),hpX H,n⟩ (Xbn (some yc) d b m r .normal μr)
def Fix (c:Code) (yo:Option YC):Prop:=X1n c=false\/yo≠none
def Xtg (yo:Option YC) (d:Rd) (c:Code) (b m:Nat) (r:Loop) (μr:Mu) (e:X2) (pe':X2) (F':FX) (H':HX) (n':Nat):X2->St->Mu->Prop :=
 λe2 s μ'=>e2=e/\(∃ μr',(Fix c yo->μr'=μr)/\μ'=Xbn yo d b m r pe' μr')/\s=⟨sf yo b (frX F'),hpX H',n'⟩
def SemZ (P:Program) (yo:Option YC) (d:Rd) (nt:Nat) (c:Code) (pe:X2) (F:FX) (H:HX) (n:Nat) (e:X2) (pe':X2) (F':FX) (H':HX) (n':Nat):Prop :=
 ∀ n0 b m r μr,(yo≠none->Xjw d r)->X1q P nt n0 c (Xtg yo d c b m r μr e pe' F' H' n') ⟨sf yo b (frX F),hpX H,n⟩ (Xbn yo d b m r pe μr)
theorem Xtg.here {yo:Option YC} {d:Rd} {c:Code} {b m:Nat} {r:Loop} {μr:Mu} {e pe:X2} {F:FX} {H:HX} {n:Nat}:Xtg yo d c b m r μr e pe F H n e ⟨sf yo b (frX F),hpX H,n⟩ (Xbn yo d b m r pe μr) :=
 ⟨rfl,⟨μr,λ_=>rfl,rfl⟩,rfl⟩
theorem Xtg.on {P:Program} {yo:Option YC} {d:Rd} {nt n0:Nat} {c x y:Code} {b m:Nat} {r:Loop} {μr:Mu} {e pe:X2} {F:FX} {H:HX} {n:Nat} {e' pe':X2} {F':FX} {H':HX} {n':Nat} {μr1:Mu}
  (hx:Fix c yo->μr1=μr) (hy:Fix c yo->Fix y yo) (hin:yo≠none->Xjw d r) (h:SemZ P yo d nt y pe F H n e' pe' F' H' n') :
  X1q P nt n0 y (Xtg yo d c b m r μr e' pe' F' H' n') ⟨sf yo b (frX F),hpX H,n⟩ (Xbn yo d b m r pe μr1):=by
 refine(h n0 b m r μr1 hin).mono ?_;rintro e2 s μ2 ⟨rfl,⟨μr2,hf,rfl⟩,rfl⟩;exact⟨rfl,⟨μr2,λhc=>(hf (hy hc)).trans (hx hc),rfl⟩,rfl⟩
inductive Xen (P:Program) (yo:Option YC) (d:Rd) (nt:Nat) (b:Code) (e:X2) (pe':X2) (F':FX) (H':HX) (n':Nat):Nat->X2->FX->HX->Nat->Prop
 |more {m pe F H n pe1 F1 H1 n1} (h:SemZ P yo d nt b pe F H n .normal pe1 F1 H1 n1) (hs:Xen P yo d nt b e pe' F' H' n' m pe1 F1 H1 n1):Xen P yo d nt b e pe' F' H' n' (m+1) pe F H n
 |last {m pe F H n} (h:SemZ P yo d nt b pe F H n e pe' F' H' n') (hne:e≠.normal):Xen P yo d nt b e pe' F' H' n' (m+1) pe F H n
theorem Xen.sem {P:Program} {yo:Option YC} {d:Rd} {nt:Nat} {c:Code} {e:X2} {pe':X2} {F':FX} {H':HX} {n':Nat} {k:Nat} {pe:X2} {F:FX} {H:HX} {n:Nat} (h:Xen P yo d nt c e pe' F' H' n' k pe F H n) :
  ∀ n0 b m r μr,(yo≠none->Xjw d r)->X2x P nt n0 c (Xtg yo d c b m r μr e pe' F' H' n') ⟨sf yo b (frX F),hpX H,n⟩ (Xbn yo d b m r pe μr):=by
 induction h with
 |more h _ ih =>
  intro n0 b m r μr hin;refine X2x.round ((h n0 b m r μr hin).mono ?_);rintro e2 s μ1 ⟨rfl,⟨μr1,hf,rfl⟩,rfl⟩;have:=ih n0 b m r μr1 hin;intro c0 H0 c act g hm R hR;have h2:=this c0 H0 c act g hm R hR;intro b' k cs hro;obtain⟨e,a',w',hq,harr⟩:=h2 b' k cs hro;obtain⟨c',s',ae,μ',e1,e2,e3,e4,e5,⟨μr2,e6,e7⟩,e8⟩:=hq;exact⟨e,a',w',⟨c',s',ae,μ',e1,e2,e3,e4,e5,⟨μr2,λhx=>(e6 hx).trans (hf hx),e7⟩,e8⟩,harr⟩
 |last h hne =>
  intro n0 b m r μr hin;refine X2x.round ((h n0 b m r μr hin).mono ?_);rintro e2 s μ1 ⟨rfl,hf,rfl⟩
  cases e2 with
  |normal=>exact absurd rfl hne
  |exit id=>exact⟨rfl,hf,rfl⟩
  |ret=>exact⟨rfl,hf,rfl⟩
theorem Xdh {P:Program} {T:Ty} {X:Nat->Option (List AV->Option AV)} {rec:Xel} {nt fuel:Nat} (hm:P.follows .mixedOrders=true) (hnt:nt<=324) (hX:Xaj P X) (hT:X2i P T) (hr:X3n P (rec none)) (hit:X9v P rec):∀ (code:Code) (yo:Option YC) (d:Rd) (pe:X2) (F:FX) (H:HX) (n:Nat) (k:KZ),YOk P yo d->X46 T X rec nt fuel code yo pe F H n k ->
  ∃ e pe' F' H' n',k e pe' F' H' n'/\SemZ P yo d nt code pe F H n e pe' F' H' n':=by
 intro code
 induction code with
 |skip=>intro yo d pe F H n k hy h;exact⟨.normal,pe,F,H,n,h,λn0 b m r μr _=>X1q.skip .here⟩
 |label l=>intro yo d pe F H n k hy h;exact⟨.normal,pe,F,H,n,h,λn0 b m r μr _=>X1q.label .here⟩
 |exit id=>intro yo d pe F H n k hy h;exact⟨.exit id,pe,F,H,n,h,λn0 b m r μr _=>X1q.exit .here⟩
 |ret=>intro yo d pe F H n k hy h;exact⟨.ret,pe,F,H,n,h,λn0 b m r μr _=>X1q.ret .here⟩
 |seq x y iha ihb =>
  intro yo d pe F H n k hy h;have h:X46 T X rec nt fuel x yo pe F H n (λe pe F H n=>X2.rec (motive:=λ_=>Prop) (X46 T X rec nt fuel y yo pe F H n k) (λi=>k (.exit i) pe F H n) (k .ret pe F H n) e):=h;obtain⟨e,pe1,F1,H1,n1,h1,s1⟩:=iha _ _ _ _ _ _ _ hy h;have fx:Fix (.seq x y) yo->Fix x yo:=λhf=>hf.imp (λh=>by simp only[X1n,Bool.or_eq_false_iff] at h;exact h.1) id;have fy:Fix (.seq x y) yo->Fix y yo:=λhf=>hf.imp (λh=>by simp only[X1n,Bool.or_eq_false_iff] at h;exact h.2) id
  cases e with
  |normal =>
   obtain⟨e,pe2,F2,H2,n2,h2,s2⟩:=ihb _ _ _ _ _ _ _ hy h1;refine⟨e,pe2,F2,H2,n2,h2,λn0 b m r μr hin=>X1q.seq ((s1 n0 b m r μr hin).mono ?_)⟩;rintro e' s μ1 ⟨rfl,⟨μr1,hf,rfl⟩,rfl⟩;exact Xtg.on (x:=x) (e:=e) (λhc=>hf (fx hc)) fy hin s2
  |exit i =>
   refine⟨.exit i,pe1,F1,H1,n1,h1,λn0 b m r μr hin=>X1q.seq ((s1 n0 b m r μr hin).mono ?_)⟩;rintro e' s μ1 ⟨rfl,⟨μr1,hf,rfl⟩,rfl⟩;exact⟨rfl,⟨μr1,λhx=>hf (fx hx),rfl⟩,rfl⟩
  |ret =>
   refine⟨.ret,pe1,F1,H1,n1,h1,λn0 b m r μr hin=>X1q.seq ((s1 n0 b m r μr hin).mono ?_)⟩;rintro e' s μ1 ⟨rfl,⟨μr1,hf,rfl⟩,rfl⟩;exact⟨rfl,⟨μr1,λhx=>hf (fx hx),rfl⟩,rfl⟩
 |cond x p q iha ihb =>
  intro yo d pe F H n k hy h;have h:Xsx (evA (frX F) x) (X46 T X rec nt fuel p yo pe F H n k) (X46 T X rec nt fuel q yo pe F H n k):=h;have fx:Fix (.cond x p q) yo->Fix p yo:=λhf=>hf.imp (λh=>by simp only[X1n,Bool.or_eq_false_iff] at h;exact h.1) id;have fy:Fix (.cond x p q) yo->Fix q yo:=λhf=>hf.imp (λh=>by simp only[X1n,Bool.or_eq_false_iff] at h;exact h.2) id;rcases Xjl h with ⟨hx,h⟩|⟨hx,h⟩
  ·obtain⟨e,pe1,F1,H1,n1,h1,s1⟩:=iha _ _ _ _ _ _ _ hy h;refine⟨e,pe1,F1,H1,n1,h1,λn0 b m r μr hin=>X1q.cond (s:=⟨sf yo b (frX F),hpX H,n⟩) (t:=true) ?_ (λ_=>(s1 n0 b m r μr hin).mono ?_) (λh=>by cases h)⟩
   ·show evA (sf yo b (frX F)) x=_;rw[Xgl (by rw[hx];simp)];exact hx
   ·rintro e' s μ1 ⟨rfl,⟨μr1,hf,rfl⟩,rfl⟩;exact⟨rfl,⟨μr1,λhx=>hf (fx hx),rfl⟩,rfl⟩
  ·obtain⟨e,pe1,F1,H1,n1,h1,s1⟩:=ihb _ _ _ _ _ _ _ hy h;refine⟨e,pe1,F1,H1,n1,h1,λn0 b m r μr hin=>X1q.cond (s:=⟨sf yo b (frX F),hpX H,n⟩) (t:=false) ?_ (λh=>by cases h) (λ_=>(s1 n0 b m r μr hin).mono ?_)⟩
   ·show evA (sf yo b (frX F)) x=_;rw[Xgl (by rw[hx];simp)];exact hx
   ·rintro e' s μ1 ⟨rfl,⟨μr1,hf,rfl⟩,rfl⟩;exact⟨rfl,⟨μr1,λhx=>hf (fy hx),rfl⟩,rfl⟩
 |block id c ih =>
  intro yo d pe F H n k hy h;have h:X46 T X rec nt fuel c yo pe F H n (λe pe F H n=>X2.rec (motive:=λ_=>Prop) (k .normal pe F H n) (λi=>Bool.rec (motive:=λ_=>Prop) (k (.exit i) pe F H n) (k .normal pe F H n) (Nat.beq i id)) (k .ret pe F H n) e):=h;obtain⟨e,pe1,F1,H1,n1,h1,s1⟩:=ih _ _ _ _ _ _ _ hy h
  cases e with
  |normal =>
   refine⟨.normal,pe1,F1,H1,n1,h1,λn0 b m r μr hin=>X1q.block ((s1 n0 b m r μr hin).mono ?_)⟩;rintro e' s μ1 ⟨rfl,hf,rfl⟩;exact⟨rfl,hf,rfl⟩
  |ret =>
   refine⟨.ret,pe1,F1,H1,n1,h1,λn0 b m r μr hin=>X1q.block ((s1 n0 b m r μr hin).mono ?_)⟩;rintro e' s μ1 ⟨rfl,hf,rfl⟩;exact⟨rfl,hf,rfl⟩
  |exit i =>
   have h1:Bool.rec (motive:=λ_=>Prop) (k (.exit i) pe1 F1 H1 n1) (k .normal pe1 F1 H1 n1) (Nat.beq i id):=h1
   cases hb:Nat.beq i id with
   |true =>
    rw[hb] at h1;refine⟨.normal,pe1,F1,H1,n1,h1,λn0 b m r μr hin=>X1q.block ((s1 n0 b m r μr hin).mono ?_)⟩;rintro e' s μ1 ⟨rfl,hf,rfl⟩;show bif Nat.beq i id then _ else _;rw[hb];exact⟨rfl,hf,rfl⟩
   |false =>
    rw[hb] at h1;refine⟨.exit i,pe1,F1,H1,n1,h1,λn0 b m r μr hin=>X1q.block ((s1 n0 b m r μr hin).mono ?_)⟩;rintro e' s μ1 ⟨rfl,hf,rfl⟩;show bif Nat.beq i id then _ else _;rw[hb];exact⟨rfl,hf,rfl⟩
 |loop c ih =>
  intro yo d pe F H n k hy h;have h:Xio (X46 T X rec nt fuel c yo) fuel pe F H n k:=h;have key:∀ m pe F H n,Xio (X46 T X rec nt fuel c yo) m pe F H n k->∃ e pe' F' H' n',k e pe' F' H' n'/\Xen P yo d nt c e pe' F' H' n' m pe F H n:=by
   intro m
   induction m with
   |zero=>intro pe F H n h;cases h
   |succ m ihm =>
    intro pe F H n h;have h:X46 T X rec nt fuel c yo pe F H n (λe pe F H n=>X2.rec (motive:=λ_=>Prop) (Xio (X46 T X rec nt fuel c yo) m pe F H n k) (λi=>k (.exit i) pe F H n) (k .ret pe F H n) e):=h;obtain⟨e,pe1,F1,H1,n1,h1,s1⟩:=ih _ _ _ _ _ _ _ hy h
    cases e with
    |normal =>
     obtain⟨e,pe2,F2,H2,n2,h2,s2⟩:=ihm _ _ _ _ h1;exact⟨e,pe2,F2,H2,n2,h2,.more s1 s2⟩
    |exit i=>exact⟨_,pe1,F1,H1,n1,h1,.last s1 (by simp)⟩
    |ret=>exact⟨_,pe1,F1,H1,n1,h1,.last s1 (by simp)⟩
  obtain⟨e,pe',F',H',n',hk,hl⟩:=key _ _ _ _ _ h;exact⟨e,pe',F',H',n',hk,λn0 b m r μr hin=>X1q.loop (hl.sem n0 b m r μr hin)⟩
 |scope c ih =>
  intro yo d pe F H n k hy h;obtain⟨e,pe1,F1,H1,n1,h1,s1⟩:=ih yo d pe F H n k hy h;refine⟨e,pe1,F1,H1,n1,h1,λn0 b m r μr hin=>X1q.scope ((s1 n0 b m r μr hin).mono ?_)⟩;rintro e' s μ1 ⟨rfl,⟨μr1,hf,rfl⟩,rfl⟩;exact⟨rfl,⟨μr1,λhx=>hf (hx.imp (λh=>by cases h) id),rfl⟩,rfl⟩
 |region id ops draw =>
  intro yo d pe F H n k hy h
  cases draw with
  |false =>
   have h:Xno T (extR X (rec none)) yo nt ops ops.toList pe F H n (λpe F H n=>k .normal pe F H n):=h;obtain⟨pe',F',H',n',hk,hs⟩:=Xnn hnt hT (Xom hX hr) hy _ _ _ _ _ _ h;refine⟨.normal,pe',F',H',n',hk,λn0 b m r μr hin=>X1q.region ?_⟩;intro c0 H0 c act g hmo Qx hQ;exact hs n0 b m r μr hin c0 H0 c act g hmo Qx λc' s' act' μ' g' hm' hq=>hQ c' s' act' μ' g' hm' ⟨rfl,⟨μr,λ_=>rfl,hq.1⟩,hq.2⟩
  |true =>
   cases hp:X2w 0 ops.toList with
   |false =>
    have h:Bool.rec (motive:=λ_=>Prop) (stk 94) (Xst (evA (frX F)) ops.toList [] H λH=>Option.rec (motive:=λ_=>Prop) (fzD (r3L ops.toList) F H λF H=>hzK ops.toList F λhz=>drX T (rec none) hz nt n ops (X0k ops.toList) ((X0k ops.toList).zip (ops.toList.map hz)) ops.toList 0 F H [] λF H=>fN (n+ops.toList.length) λn=>k .normal pe F H n) (λ_=>drY T (rec none) nt ops pe F H n k) yo) (X2w 0 ops.toList):=h;rw[hp] at h;cases h
   |true =>
    have h:Bool.rec (motive:=λ_=>Prop) (stk 94) (Xst (evA (frX F)) ops.toList [] H λH=>Option.rec (motive:=λ_=>Prop) (fzD (r3L ops.toList) F H λF H=>hzK ops.toList F λhz=>drX T (rec none) hz nt n ops (X0k ops.toList) ((X0k ops.toList).zip (ops.toList.map hz)) ops.toList 0 F H [] λF H=>fN (n+ops.toList.length) λn=>k .normal pe F H n) (λ_=>drY T (rec none) nt ops pe F H n k) yo) (X2w 0 ops.toList):=h;rw[hp] at h;obtain⟨Hc,hcut,h⟩:=Xss _ _ _ _ h
    cases yo with
    |some y =>
     have h:drY T (rec none) nt ops pe F Hc n k:=h;unfold drY at h
     cases hds:Xca F ops.toList with
     |false=>rw[hds] at h;cases h
     |true =>
      rw[hds] at h;obtain⟨F0,h,hF0⟩:=Xt0 324 _ _ (Nat.le_refl _) h;obtain⟨hz,h⟩:=Xkp h;obtain⟨F1,H',h,hrun⟩:=Xkw hnt hr _ _ _ _ _ _ h;obtain⟨F2,hk,hF2,hno⟩:=Xmf 324 _ _ (Nat.le_refl _) h;rw[X2o] at hk;have lo:∀ t,isG (frX F t)=true->Nat.blt t 324=true:=by
       intro t ht
       cases hb:Nat.blt t 324 with
       |true=>rfl
       |false =>
        rw[X9n] at ht;have:Nat.ble 324 t=true:=by
         have h1:¬ Nat.blt t 324=true:=by rw[hb];simp
         simp at h1 ⊢;omega
        rw[this] at ht;cases ht
      refine⟨.normal,pe,F2,H',_,hk,λn0 b m r μr _=>X1q.cutH hcut (X1q.of (X38.drawnK (A:=sf (some y) b (frX F)) (A0:=frX F0) (keep:=λt=>isG (frX F t)) hm hT hp (Xjh _ hds) (λt=>?_) hrun ⟨rfl,⟨μr,λ_=>rfl,rfl⟩,?_⟩))⟩
      ·rw[hF0];show _=sfA b (frX F) t\/_;unfold sfA
       cases hg:isG (frX F t) with
       |true=>rw[lo t hg];exact .inr rfl
       |false=>rw[Bool.and_false];exact .inl rfl
      ·congr 1
       funext t
       show(bif isG (frX F t) then sfA b (frX F) t else frX F1 t)=sfA b (frX F2) t;unfold sfA;rw[hF2]
       cases hg:isG (frX F t) with
       |true=>rw[lo t hg];rfl
       |false =>
        rw[Bool.and_false,cond_false,cond_false]
        cases hb:Nat.blt t 324 with
        |true=>rw[hno t (by simpa using hb) hg];rfl
        |false =>
         have:frX F1 t=.sc undef:=by
          rw[X9n];have:Nat.ble 324 t=true:=by
           have h1:¬ Nat.blt t 324=true:=by rw[hb];simp
           simp at h1 ⊢;omega
          rw[this];rfl
         rw[this];rfl
    |none =>
     obtain⟨Ff,Hf,hfz,h⟩:=X076 _ _ _ _ h;obtain⟨hz,h⟩:=Xkp h;obtain⟨F',H',hk,hrun⟩:=Xkw hnt hr _ _ _ _ _ _ h;rw[X2o] at hk;exact⟨.normal,pe,F',H',_,hk,λn0 b m r μr _=>X1q.cutH hcut (X1q.fz hfz (X1q.of (X38.drawn (s:=⟨frX Ff,hpX Hf,n⟩) hm hT hp hrun ⟨rfl,⟨μr,λ_=>rfl,rfl⟩,rfl⟩)))⟩
 |rangeFunc g ps ca cb iha ihb =>
  intro yo d pe F H n k hy h;have h:rfX rec nt g ps ca cb (X46 T X rec nt fuel ca) (X46 T X rec nt fuel cb) yo pe F H n k:=h
  cases yo with
  |some y=>cases h
  |none =>
   have h:(match evA (frX F) g with
    |.fn gf caps=>Bool.rec (motive:=λ_=>Prop) (stk 131) (rec (some (rndX nt ps.toList (X46 T X rec nt fuel ca) (X46 T X rec nt fuel cb) F)) gf (sgn::caps) H n λa H n=>decP a λe=>k e pe F H n) (Bool.not (X1n ca)&&(Bool.not (X1n cb)&&Xhl nt ps.toList))
    |a=>Xtb 132 a):=h
   split at h
   ·rename_i gf caps hg
    cases hc:(Bool.not (X1n ca)&&(Bool.not (X1n cb)&&Xhl nt ps.toList)) with
    |false=>rw[hc] at h;cases h
    |true =>
     rw[hc] at h;simp only[Bool.and_eq_true,Bool.not_eq_true'] at hc;obtain⟨c1,c2,c3⟩:=hc;let d2:Rd:=⟨ps,ca,cb,nt,frX F⟩
     have hyc:YOk P (some (rndX nt ps.toList (X46 T X rec nt fuel ca) (X46 T X rec nt fuel cb) F)) d2:=by
      intro yc he;cases he
      intro as H n k h;have h:Bool.rec (motive:=λ_=>Prop) (stk 124) (Xv5 ps.toList as F λF=>X46 T X rec nt fuel ca none .normal F H n λe _ F H n=>nrm e (X46 T X rec nt fuel cb none .normal F H n λe _ _ H n=>k e H n)) (Nat.beq as.length ps.toList.length):=h
      cases hl:Nat.beq as.length ps.toList.length with
      |false=>rw[hl] at h;cases h
      |true =>
       rw[hl] at h;obtain⟨F1,hF,h⟩:=Xl0 _ _ _ _ h;obtain⟨e,pe2,F2,H2,n2,h,s1⟩:=iha none d2 _ _ _ _ _ (λ_ h=>by cases h) h;obtain⟨rfl,h⟩:=Xkl h;obtain⟨e,pe3,F3,H3,n3,h,s2⟩:=ihb none d2 _ _ _ _ _ (λ_ h=>by cases h) h;refine⟨by simpa using hl,Xju _ c3,c1,c2,e,H3,n3,h,?_⟩;have r0:∀ r,((none:Option YC)≠none->Xjw d2 r):=λr h=>absurd rfl h;have e1:=s1 n 0 0 { state:=.ready,pending:=none,fn:=0,tmps:=#[],params:=ps,assign:=ca,body:=cb,defers:=0 } [] (r0 _);rw[show sf none 0 (frX F1)=Xk0 ps.toList as (frX F) from hF] at e1;refine e1.mono ?_;rintro e1 s μ1 ⟨rfl,⟨μr1,hf,rfl⟩,rfl⟩;refine⟨rfl,hf (.inl c1),(s2 n 0 0 { state:=.ready,pending:=none,fn:=0,tmps:=#[],params:=ps,assign:=ca,body:=cb,defers:=0 } [] (r0 _)).mono ?_⟩;rintro e2 s μ1 ⟨rfl,hf,rfl⟩;exact⟨rfl,rfl,rfl⟩
     obtain⟨fn,codeI,pe1,H',n',hfn,hres,hle,hk,hs⟩:=hit _ _ _ _ _ _ d2 hyc h;rw[Xh2] at hk;refine⟨pe1,pe,F,H',n',hk,λn0 b m r μr _=>?_⟩;refine X1q.rangeFunc hg hfn rfl hle hres ?_;intro b D r r1 r2 r3 r4 r5;have:=hs b n r [(D,.blk (.deferred (some [])))] ⟨r1,r2,r3,r4,r5⟩;rw[show Xbn (some (rndX nt ps.toList (X46 T X rec nt fuel ca) (X46 T X rec nt fuel cb) F)) d2 b n r .normal [(D,.blk (.deferred (some [])))]=[(b,.loop r nt n (frX F)),(D,.blk (.deferred (some [])))] from by show[(b,MuE.loop (Xbk r .normal) nt n (frX F)),_]=_;rw[X8e r1 r2]] at this;refine this.mono ?_;rintro e s μ1 ⟨he,rfl,e1,e2⟩;refine⟨he,pe1,rfl,rfl,⟨(D,.mark)::μr,λhf=>?_,rfl⟩,?_⟩
     ·rcases hf with hf|hf
      ·cases hf
      ·exact absurd rfl hf
     ·rw[e1,e2]
   ·cases h
 |_=>intro yo d pe F H n k hy h;cases h
noncomputable def noG (l:List AV):Bool:=List.rec (motive:=λ_=>Bool) true (λa _ ih=>Bool.rec (motive:=λ_=>Bool) ih false (isG a)) l
theorem X02q:∀ l:List AV,noG l=true->∀ a∈l,isG a=false:=by
 intro l
 induction l with
 |nil=>intro _ a h;simp at h
 |cons b l ih =>
  intro h a ha;have h:Bool.rec (motive:=λ_=>Bool) (noG l) false (isG b)=true:=h
  cases hb:isG b with
  |true=>rw[hb] at h;cases h
  |false =>
   rw[hb] at h;rcases List.mem_cons.1 ha with rfl|ha
   ·exact hb
   ·exact ih h a ha
noncomputable def retY (T:Ty) (l:List ResultVar) (yo:Option YC) (pe:X2) (F:FX) (H:HX) (n:Nat) (k:AV->HX->Nat->Prop):Prop :=
 Option.rec (motive:=λ_=>Prop) (retX T l F H n k) (λ_=>List.rec (motive:=λ_=>Prop) (k (encP pe) H n) (λ_ _ _=>stk 141) l) yo
noncomputable def X0zk (as:List AV) (yo:Option YC):Bool:=Option.rec (motive:=λ_=>Bool) true (λ_=>noG as.tail) yo
noncomputable def X75 (T:Ty) (X:Nat->Option (List AV->Option AV)) (E:Env) (fuel:Nat) (rec:Xel):Xel:=λyo f as H n k =>
  match E f with
  |some (fn,code)=>Bool.rec (motive:=λ_=>Prop) (stk 103) (Xv3 as 0 f4 λF=>X46 T X rec fn.ntmps fuel code yo .normal F H n λe pe F H n =>
    X2.rec (motive:=λ_=>Prop) (retY T fn.results.toList yo pe F H n k) (λ_=>stk 104) (retY T fn.results.toList yo pe F H n k) e) (X0zk as yo&&(Nat.ble as.length fn.ntmps&&Nat.ble fn.ntmps 324))
  |none=>stk (1000+f)
abbrev Xa:=List (List AV×AV)
noncomputable def Xj4 (l:Xa) (bs:List AV):Option AV :=
 List.rec (motive:=λ_=>Option AV) none (λp _ ih=>Bool.rec (motive:=λ_=>Option AV) ih (some p.2) (eqL (eqA 60) p.1 bs)) l
theorem Xdd {bs:List AV} {r:AV}:∀ l:Xa,Xj4 l bs=some r->(bs,r)∈l:=by
 intro l
 induction l with
 |nil=>intro h;cases h
 |cons p l ih =>
  intro h;have h:Bool.rec (motive:=λ_=>Option AV) (Xj4 l bs) (some p.2) (eqL (eqA 60) p.1 bs)=some r:=h
  cases hb:eqL (eqA 60) p.1 bs with
  |false=>rw[hb] at h;exact List.mem_cons_of_mem _ (ih h)
  |true =>
   rw[hb] at h;have h:some p.2=some r:=h;cases h
   rw[<-Xde (Xgp 60) _ _ hb];exact List.mem_cons_self
noncomputable def meX (M:Nat->Option Xa) (nx:X4o):X4o:=λf as H n k =>
 match M f with
 |none=>nx f as H n k
 |some l=>match Xbl (cvF false noH 100) as with
  |some bs=>fDs bs λbs=>match Xj4 l bs with
   |none=>nx f as H n k
   |some r=>k r H n
  |none=>match Xbl (cvF false (hpX H) 100) as with
   |none=>nx f as H n k
   |some bs=>fDs bs λbs=>match Xj4 l bs with
    |none=>nx f as H n k
    |some r=>Bool.rec (motive:=λ_=>Prop) (nx f as H n k) (k r H n) (Xhs 60 r)
def X8y (P:Program) (M:Nat->Option Xa):Prop:=∀ f l,M f=some l->∀ p∈l,X32 P f p.1 p.2
theorem Xft {P:Program} {M:Nat->Option Xa} {nx:X4o} (hM:X8y P M) (hn:X3n P nx):X3n P (meX M nx):=by
 intro f as H n k h;unfold meX at h;split at h
 ·exact hn _ _ _ _ _ h
 ·rename_i l hf;split at h
  ·rename_i bs hm;rw[X9q] at h;split at h
   ·exact hn _ _ _ _ _ h
   ·rename_i r hr;have h1:=hM f l hf _ (Xdd l hr);obtain⟨m1,m2⟩:=X3d hm;exact⟨r,H,n,HC.of_pure (H:=hpX H) (Hr:=noH) (n:=n) h1 ⟨m1,λi a b ha hb=>X56 _ _ _ (m2 i a b ha hb)⟩ (λ_ _ h=>by cases h) (.inr λ_=>rfl),h⟩
  ·split at h
   ·exact hn _ _ _ _ _ h
   ·rename_i bs hm;rw[X9q] at h;split at h
    ·exact hn _ _ _ _ _ h
    ·rename_i r hr;have h1:=hM f l hf _ (Xdd l hr);obtain⟨m1,m2⟩:=X3d hm
     cases ho:Xhs 60 r with
     |false=>rw[ho] at h;exact hn _ _ _ _ _ h
     |true =>
      rw[ho] at h;exact⟨r,H,n,HC.of_pure (H:=hpX H) (n:=n) h1 ⟨m1,λi a b ha hb=>X56 _ _ _ (m2 i a b ha hb)⟩ (λ_ _ h=>h) (.inl (Xbz _ _ ho)),h⟩
def X01 (P:Program) (f:Nat):Xa->Prop
 |[]=>True
 |p::l=>X32 P f p.1 p.2/\X01 P f l
theorem Xt8 {P:Program} {f:Nat}:∀ l:Xa,X01 P f l->∀ p∈l,X32 P f p.1 p.2:=by
 intro l
 induction l with
 |nil=>intro _ p h;cases h
 |cons q l ih =>
  intro h p hp;rcases List.mem_cons.1 hp with rfl|hp
  ·exact h.1
  ·exact ih h.2 p hp
def Xt9 (f:AV->AV->Bool):List AV->List AV->Bool
 |[],[]=>true
 |a::l,b::m=>f a b&&Xt9 f l m
 |_,_=>false
theorem Xag {f:AV->AV->Bool}:∀ {l m:List AV},Xt9 f l m=true->l.length=m.length/\∀ (i:Nat) a b,l[i]?=some a->m[i]?=some b->f a b=true:=by
 intro l
 induction l with
 |nil=>intro m h;cases m with
  |nil=>exact⟨rfl,λi a b ha=>by simp at ha⟩
  |cons b m=>cases h
 |cons a l ih=>intro m h;cases m with
  |nil=>cases h
  |cons b m =>
   simp only[Xt9,Bool.and_eq_true] at h;obtain⟨h1,h2⟩:=ih h.2;refine⟨by simp[h1],λi x y hx hy=>?_⟩
   cases i with
   |zero=>simp at hx hy;subst hx hy;exact h.1
   |succ i=>exact h2 i x y (by simpa using hx) (by simpa using hy)
noncomputable def wkB:Nat->AV->AV->Bool
 |0,_,_=>false
 |n+1,a,b=>match a,b with
  |.list o es,.list o' es'=>(!o'||o)&&Xt9 (λe e'=>Xt9 (wkB n) e.cells e'.cells) es es'
  |.agg cs,.agg cs'=>Xt9 (wkB n) cs cs'
  |.tup cs,.tup cs'=>Xt9 (wkB n) cs cs'
  |.nils,.list _ []=>true
  |a,b=>eqA 60 a b
theorem Xv9 {c:Ctx}:∀ (n:Nat) (a b:AV) (d:Bool) (v:Value),wkB n a b=true->Xh c d a v->Xh c d b v:=by
 intro n
 induction n with
 |zero=>intro a b d v h;cases h
 |succ n ih =>
  intro a b d v h hr;unfold wkB at h;split at h
  ·rename_i o es o' es';simp only[Bool.and_eq_true,Bool.or_eq_true,Bool.not_eq_true'] at h;obtain⟨ho,h⟩:=h;obtain⟨hl,hE⟩:=Xag h;have hback:∀ (i:Nat) e',es'[i]?=some e'->∃ e,es[i]?=some e/\e.cells.length=e'.cells.length/\∀ (k:Nat) x',e'.cells[k]?=some x'->∃ x,e.cells[k]?=some x/\wkB n x x'=true:=λi e' he'=>by
    have hlt:i<es.length:=by rw[hl];exact(List.getElem?_eq_some_iff.1 he').1
    obtain⟨g1,g2⟩:=Xag (hE i _ e' (List.getElem?_eq_getElem hlt) he');refine⟨_,List.getElem?_eq_getElem hlt,g1,λk x' hx'=>?_⟩;have hk:k<es[i].cells.length:=by rw[g1];exact(List.getElem?_eq_some_iff.1 hx').1
    exact⟨_,List.getElem?_eq_getElem hk,g2 k _ x' (List.getElem?_eq_getElem hk) hx'⟩
   cases hr with
   |listNil =>
    have:es'=[]:=List.eq_nil_of_length_eq_zero (by rw[<-hl];rfl);subst this;exact .listNil
   |@list _ _ _ _ _ _ esz _ vf hne hS hn hcap hsz hcell h1 h =>
    refine .list (esz:=esz) vf (λe=>hne (List.eq_nil_of_length_eq_zero (by rw[hl,e];rfl))) ?_ (hn.trans hl) (by rw[<-hl];exact hcap) (λi e' he'=>?_) (λi e' k x' he' hx'=>?_) (λi e' k x' he' hx'=>?_) (λi e' k x' he' hx'=>?_)
    ·rcases ho with ho|ho
     ·subst ho;exact hS.elim (λq=>.inl ⟨rfl,q.2⟩) .inr
     ·subst ho;exact hS.elim (λq=>by cases q.1) .inr
    ·obtain⟨e,he,g,_⟩:=hback i e' he';rw[<-g];exact hsz i e he
    ·obtain⟨e,he,_,g⟩:=hback i e' he';obtain⟨x,hx,_⟩:=g k x' hx';exact hcell i e k x he hx
    ·obtain⟨e,he,_,g⟩:=hback i e' he';obtain⟨x,hx,_⟩:=g k x' hx';exact h1 i e k x he hx
    ·obtain⟨e,he,_,g⟩:=hback i e' he';obtain⟨x,hx,hw⟩:=g k x' hx';exact ih x x' true _ hw (h i e k x he hx)
  ·rename_i cs cs';obtain⟨hl,hE⟩:=Xag h
   cases hr with
   |agg hls hoc hrl =>
    refine .agg (hl.symm.trans hls) hoc λi x' v hx' hv=>?_;have hlt:i<cs.length:=by rw[hl];exact(List.getElem?_eq_some_iff.1 hx').1
    exact ih _ x' _ v (hE i _ x' (List.getElem?_eq_getElem hlt) hx') (hrl i _ v (List.getElem?_eq_getElem hlt) hv)
  ·rename_i cs cs';obtain⟨hl,hE⟩:=Xag h
   cases hr with
   |tup hls hrl =>
    refine .tup (hl.symm.trans hls) λi x' v hx' hv=>?_;have hlt:i<cs.length:=by rw[hl];exact(List.getElem?_eq_some_iff.1 hx').1
    exact ih _ x' _ v (hE i _ x' (List.getElem?_eq_getElem hlt) hx') (hrl i _ v (List.getElem?_eq_getElem hlt) hv)
  ·obtain⟨p,rfl⟩:=hr.nils_inv;exact .listNil
  ·rw[<-Xgp 60 _ _ h];exact hr
theorem X32.weaken {P:Program} {f:Nat} {as:List AV} {r r':AV} (hp:X32 P f as r) (h:wkB 100 r r'=true):X32 P f as r' :=
 ⟨hp.1,λw S vs hS hG hv=>(hp.2 w S vs hS hG hv).mono λ_ _ ⟨v,he,hr,hb⟩=>⟨v,he,Xv9 _ _ _ _ _ h hr,hb⟩⟩
noncomputable def wkO (a:Option AV) (r:AV):Bool:=match a with
 |some a=>wkB 100 a r
 |none=>false
theorem Xey {a:Option AV} {r:AV} (h:wkO a r=true):∃ a',a=some a'/\wkB 100 a' r=true:=by
 cases a with
 |none=>cases h
 |some a=>exact⟨a,rfl,h⟩
noncomputable def callM (T:Ty) (X:Nat->Option (List AV->Option AV)) (E:Env) (M:Nat->Option Xa) (fuel d:Nat):Xel :=
 Nat.rec (motive:=λ_=>Xel) (λ_ _ _ _ _ _=>stk 102) (λ_ ih yo=>Option.rec (motive:=λ_=>X4o) (meX M (X75 T X E fuel ih none)) (λyc=>X75 T X E fuel ih (some yc)) yo) d
theorem Xfk {P:Program} {T:Ty} {l:List ResultVar} {F:FX} {H:HX} {n:Nat} {k:AV->HX->Nat->Prop} (h:retX T l F H n k):∃ r,k r H n/\∃ rs,X59 T ⟨frX F,hpX H,n⟩ l rs/\X4k rs=r:=by
 unfold retX at h;split at h
 ·rename_i rs hrs;rw[Xgc X4m,X3k] at h;exact⟨_,h,rs,Xmi (s:=⟨frX F,hpX H,n⟩) _ _ hrs,rfl⟩
 ·cases h
theorem HC.of_bodyA {P:Program} {T:Ty} (hT:X2i P T) {f:Nat} {fn:Func} {code:Code} (hfn:X5a P f fn code) {as:List AV} {H:X3} {n nt:Nat} {K:AV->X3->Nat->Prop} (hnt:fn.ntmps=nt)
  (hle:as.length<=nt) (h:X1q P nt n code (Xuu T fn K) ⟨X6a as,H,n⟩ []):HC P f as H n K:=by
 refine⟨⟨fn,code,hfn⟩,λc vs hI hs hv ho=>?_⟩;have g:X1r nt c H n c ⟨X6a as,H,n⟩ { tmps:=vs++Array.replicate (fn.ntmps - vs.size) undef,defers:=[] }:=by
  refine⟨hI,hs,λt=>X3e hv _ t,λt=>X69 ho t,?_,.refl c H n,Nat.le_refl _⟩;have:=hv.len;simp only[Array.size_append,Array.size_replicate];omega
 refine X53 hfn g h ?_;intro e s' μ hq;have fin:(∃ rs,X59 T s' fn.results.toList rs/\K (X4k rs) s'.H s'.n)->∀ c' act',X1r nt c H n c' s' act'->∃ v,(results fn act'.tmps).run P c'.w=.ok v c'.w/\∃ v' r H' n' c2,K r H' n'/\Ending.returned v=.returned v'/\c2.w=c'.w/\c.Le (·<n) c2/\c2.Sa=c.Sa/\(∀ b,c2.So b->c.So b\/c.w.heap.size<=b\/∃ o x,H o=some x/\(c.ρ o).blk=b) /\
   Fr c H c'.w/\X3s c H c2 H'/\Inv c2 H' (·<n')/\(∀ o x,H' o=some x->x.solo=true/\x.spent=false)/\n<=n'/\Xh c2 false r v'/\r.Ok (·<n'):=by
  rintro⟨rs,hrs,hk⟩ c' act' g';obtain⟨v,h1,h2,h3⟩:=X9h hT g' hrs;exact⟨v,h1,v,_,s'.H,s'.n,c',hk,rfl,rfl,g'.reach.le,g'.reach.sa,g'.reach.so2,g'.reach.fr,g'.reach.own,g'.inv,g'.solo,g'.le0,h2,h3⟩
 cases e with
 |exit id=>exact hq.elim
 |normal=>exact⟨(λ_ h=>by cases h),fin hq⟩
 |ret=>exact⟨(λ_ h=>by cases h),fin hq⟩
theorem X5s {P:Program} {T:Ty} {X:Nat->Option (List AV->Option AV)} {E:Env} {fuel:Nat} {rec:Xel} (hm:P.follows .mixedOrders=true) (hX:Xaj P X) (hT:X2i P T) (hE:X9b P E) (ihr:X3n P (rec none)) (ihi:X9v P rec):X3n P (X75 T X E fuel rec none)/\X9v P (X75 T X E fuel rec):=by
  refine⟨λf as H n k h=>?_,λyc f caps H n k d hy h=>?_⟩
  ·have h:(match E f with
    |some (fn,code)=>Bool.rec (motive:=λ_=>Prop) (stk 103) (Xv3 as 0 f4 λF=>X46 T X rec fn.ntmps fuel code none .normal F H n λe _ F H n =>
      X2.rec (motive:=λ_=>Prop) (retX T fn.results.toList F H n k) (λ_=>stk 104) (retX T fn.results.toList F H n k) e) (true&&(Nat.ble as.length fn.ntmps&&Nat.ble fn.ntmps 324))
    |none=>stk (1000+f)):=h
   split at h
   ·rename_i fn code hf
    cases hle:(true&&(Nat.ble as.length fn.ntmps&&Nat.ble fn.ntmps 324)) with
    |false=>rw[hle] at h;cases h
    |true =>
     rw[hle] at h;simp only[Bool.true_and,Bool.and_eq_true,Nat.ble_eq] at hle;obtain⟨F0,h,hF0⟩:=Xhi om h;obtain⟨e,pe,F',H',n',h1,hsem⟩:=Xdh hm hle.2 hX hT ihr ihi code none ⟨#[],.skip,.skip,0,λ_=>.junk⟩ _ _ _ _ _ (λ_ h=>by cases h) h;have hs:=hsem n 0 0 { state:=.ready,pending:=none,fn:=0,tmps:=#[],params:=#[],assign:=.skip,body:=.skip,defers:=0 } [] (λh=>absurd rfl h);rw[show sf none 0 (frX F0)=X6a as from hF0] at hs
     cases e with
     |exit i=>cases h1
     |normal =>
      obtain⟨r,hk,rs,hrs,hpk⟩:=Xfk (P:=P) h1;refine⟨r,H',n',?_,hk⟩;refine HC.of_bodyA hT (hE _ _ _ hf) rfl hle.1 (hs.mono ?_);rintro e' s' μ' ⟨rfl,_,rfl⟩;exact⟨rs,hrs,hpk,rfl,rfl⟩
     |ret =>
      obtain⟨r,hk,rs,hrs,hpk⟩:=Xfk (P:=P) h1;refine⟨r,H',n',?_,hk⟩;refine HC.of_bodyA hT (hE _ _ _ hf) rfl hle.1 (hs.mono ?_);rintro e' s' μ' ⟨rfl,_,rfl⟩;exact⟨rs,hrs,hpk,rfl,rfl⟩
   ·cases h
  ·have h:(match E f with
    |some (fn,code)=>Bool.rec (motive:=λ_=>Prop) (stk 103) (Xv3 (sgn::caps) 0 f4 λF=>X46 T X rec fn.ntmps fuel code (some yc) .normal F H n λe pe F H n =>
      X2.rec (motive:=λ_=>Prop) (retY T fn.results.toList (some yc) pe F H n k) (λ_=>stk 104) (retY T fn.results.toList (some yc) pe F H n k) e) (noG caps&&(Nat.ble (caps.length+1) fn.ntmps&&Nat.ble fn.ntmps 324))
    |none=>stk (1000+f)):=h
   split at h
   ·rename_i fn code hf
    cases hle:(noG caps&&(Nat.ble (caps.length+1) fn.ntmps&&Nat.ble fn.ntmps 324)) with
    |false=>rw[hle] at h;cases h
    |true =>
     rw[hle] at h;simp only[Bool.and_eq_true,Nat.ble_eq] at hle;obtain⟨hng,hl1,hl2⟩:=hle;obtain⟨F0,h,hF0⟩:=Xhi (by simp only[List.length_cons];omega) h;obtain⟨e,pe,F',H',n',h1,hsem⟩:=Xdh hm hl2 hX hT ihr ihi code (some yc) d _ _ _ _ _ hy h;have hfr:∀ b,sf (some yc) b (frX F0)=X6a (X4r b::caps):=by
      intro b;rw[hF0];funext t
      show sfA b (X6a (sgn::caps)) t=_;unfold sfA
      cases t with
      |zero=>rfl
      |succ t =>
       have e1:X6a (sgn::caps) (t+1)=X6a (X4r b::caps) (t+1):=rfl;rw[e1];have:isG (X6a (X4r b::caps) (t+1))=false:=by
        show isG (((X4r b::caps)[t+1]?).getD (.sc undef))=false;rw[List.getElem?_cons_succ]
        cases hq:caps[t]? with
        |none=>rfl
        |some a=>exact X02q _ hng a (List.mem_of_getElem? hq)
       rw[this,cond_false]
     have fin:retY T fn.results.toList (some yc) pe F' H' n' k->fn.results=#[]/\k (encP pe) H' n':=by
      intro h;have h:List.rec (motive:=λ_=>Prop) (k (encP pe) H' n') (λ_ _ _=>stk 141) fn.results.toList:=h
      cases hrs:fn.results.toList with
      |nil =>
       rw[hrs] at h;exact⟨by rw[<-Array.toList_inj,hrs],h⟩
      |cons r l=>rw[hrs] at h;cases h
     cases e with
     |exit i=>cases h1
     |normal =>
      obtain⟨g1,g2⟩:=fin h1;refine⟨fn,code,pe,H',n',hE _ _ _ hf,g1,hl1,g2,λb m r μr hin=>?_⟩;have:=hsem n b m r μr (λ_=>hin);rw[hfr] at this;refine this.mono ?_;rintro e' s' μ' ⟨rfl,⟨μr1,hf,rfl⟩,rfl⟩;exact⟨(λ_ h=>by cases h),by rw[hf (.inr (by simp))],rfl,rfl⟩
     |ret =>
      obtain⟨g1,g2⟩:=fin h1;refine⟨fn,code,pe,H',n',hE _ _ _ hf,g1,hl1,g2,λb m r μr hin=>?_⟩;have:=hsem n b m r μr (λ_=>hin);rw[hfr] at this;refine this.mono ?_;rintro e' s' μ' ⟨rfl,⟨μr1,hf,rfl⟩,rfl⟩;exact⟨(λ_ h=>by cases h),by rw[hf (.inr (by simp))],rfl,rfl⟩
   ·cases h
theorem Xjn {P:Program} {T:Ty} {X:Nat->Option (List AV->Option AV)} {E:Env} {M:Nat->Option Xa} {fuel:Nat} (hm:P.follows .mixedOrders=true) (hX:Xaj P X) (hT:X2i P T) (hE:X9b P E) (hM:X8y P M):∀ d,X3n P (callM T X E M fuel d none)/\X9v P (callM T X E M fuel d):=by
 intro d
 induction d with
 |zero =>
  refine⟨?_,?_⟩
  ·intro f as H n k h;cases h
  ·intro yc f caps H n k d _ h;cases h
 |succ m ih =>
  obtain⟨h1,h2⟩:=X5s (fuel:=fuel) hm hX hT hE ih.1 ih.2;exact⟨Xft hM h1,λyc f caps H n k d hy h=>h2 yc f caps H n k d hy h⟩
end Go.Av.X


namespace Go.Av
variable [Gls]
theorem Oper.wp_mono2 {P:Program} {o:Oper} {a:Act} {w:World} {K K':Act->World->Prop} {Q Q':Exit->Act->World->Prop} (h:∀ a w,K a w->K' a w) (hq:∀ e a w,e≠.normal->Q e a w->Q' e a w)
  (hh:o.wp P a w K Q):o.wp P a w K' Q':=by
 unfold Oper.wp at *;generalize (execOp a.eval o).run P w=r at *
 cases r with
 |ok n w' =>
  cases n with
  |enter f args =>
   simp only[Oper.upon] at hh ⊢;refine Calls.mono hh (λe w'' he=>?_)
   cases e with
   |returned v=>exact h _ _ he
   |panicked ch=>exact hq _ _ _ (by intro h;cases h) he
   |outgrown=>obtain⟨a0,w0,h0⟩:=he;exact⟨a0,w0,hq _ _ _ (by intro h;cases h) h0⟩
  |row row args=>simp only[Oper.upon] at hh ⊢;exact Rows.mono hh (λ_ _ he=>h _ _ he)
  |_=>simp only[Oper.upon] at hh ⊢<;>exact h _ _ hh
 |halt x w'=>cases x<;>simp only[Oper.upon] at hh ⊢<;>first|exact hh|exact hq _ _ _ (by intro h;cases h) hh
section
variable {P:Program} {ops:Array Oper} {Q:Exit->Act->World->Prop}
theorem X9e:∀ (f:Nat) (listed:Array Bool) (a:Act) (w:World),wpAny P .any ops Q f listed a w->wpAny P .any ops Q (f+1) listed a w
 |0,listed,a,w,h=>⟨λ_=>h.2,λi hi=>by rw[h.1] at hi;cases hi⟩
 |f+1,listed,a,w,h=>⟨h.1,λi hi=>wpOp_mono (λa' w' h'=>X9e f _ a' w' h') (h.2 i hi)⟩
theorem Xbo (n:Nat):∀ (f:Nat) (listed:Array Bool) (a:Act) (w:World),wpAny P .any ops Q f listed a w->wpAny P .any ops Q (f+n) listed a w:=by
 induction n with
 |zero=>intro f l a w h;exact h
 |succ n ih=>intro f l a w h;exact X9e (f+n) l a w (ih f l a w h)
def Xek (j:Nat) (l:List Oper):Bool:=(List.range l.length).all λi=>Nat.blt i j||(List.range i).all λq=>((X0k l).getD i 0).testBit q
def X85 (l:List Oper):Bool:=l.all λo=>match o.guard with
 |some (j,_)=>Nat.blt j l.length
 |none=>true
theorem X9s {j:Nat} {l:List Oper} (h:Xek j l=true) {i q:Nat} (hi:i<l.length) (hj:j<=i) (hq:q<i):((X0k l).getD i 0).testBit q=true:=by
 have:=List.all_eq_true.1 h i (List.mem_range.2 hi);simp only[Bool.or_eq_true,Nat.blt_eq] at this;rcases this with h1|h1
 ·omega
 ·exact List.all_eq_true.1 h1 q (List.mem_range.2 hq)
theorem X34 {listed:Array Bool} {i:Nat} {o:Oper} (hi:i∈Region.ready .any ops listed) (ho:ops.toList[i]?=some o):∀ j∈X3l o,listed.getD j false=true:=by
 rw[X1a] at hi;obtain⟨_,_,h3⟩:=hi;have ho':ops[i]?=some o:=by simpa using ho
 rw[ho'] at h3;simp only[Option.map_some,Option.getD_some] at h3;intro j hj;obtain⟨e,he,rfl⟩:=List.mem_map.1 hj;obtain⟨he1,he2⟩:=List.mem_filter.1 he;rw[Array.all_eq_true_iff_forall_mem] at h3;have:=h3 e (by simpa using he1);rw[he2] at this;simpa using this
theorem X2u {listed:Array Bool} {i:Nat} {o:Oper} (hsz:listed.size=ops.size) (ho:ops.toList[i]?=some o) (hl:listed.getD i false=false) (h:∀ j∈X3l o,listed.getD j false=true):i∈Region.ready .any ops listed:=by
 have hi:i<ops.size:=by have:=(List.getElem?_eq_some_iff.1 ho).1;simpa using this
 rw[X1a];refine⟨hi,?_,?_⟩
 ·have hil:i<listed.size:=by omega
  simp only[Array.getD_eq_getD_getElem?,Array.getElem?_eq_getElem hil,Option.getD_some] at hl ⊢;exact hl
 ·have ho':ops[i]?=some o:=by simpa using ho
  rw[ho'];simp only[Option.map_some,Option.getD_some];rw[Array.all_eq_true_iff_forall_mem];intro e he
  cases hb:Region.binds .any e with
  |false=>rfl
  |true=>simpa using h e.on (List.mem_map.2 ⟨e,List.mem_filter.2 ⟨by simpa using he,hb⟩,rfl⟩)
def X6d (ops:Array Oper) (listed:Array Bool):Prop:=∀ (i:Nat) o,ops.toList[i]?=some o->listed.getD i false=true->∀ j∈X3l o,listed.getD j false=true
theorem X6m (hpre:X2w 0 ops.toList=true) {listed:Array Bool} (hc:X6d ops listed) {i:Nat} (hi:i∈Region.ready .any ops listed) {q:Nat} (hq:((X0k ops.toList).getD i 0).testBit q=true):listed.getD q false=true:=by
 have hlt:=(X1a.1 hi).1;have ho:ops.toList[i]?=some ops[i]:=by simp[hlt]
 have hp:∀ (i:Nat) o,ops.toList[i]?=some o->∀ j∈X3l o,j<i:=λi o ho j hj=>by have:=X30 _ 0 hpre i o ho j hj;omega
 exact(X7s (S:=λk=>listed.getD k false) hp hc i _ ho (X34 hi ho) q hq).1
theorem X27 {listed:Array Bool} {i k:Nat} (hi:i<listed.size):(listed.setIfInBounds i true).getD k false=(listed.getD k false||Nat.beq k i):=by
 simp only[Array.getD_eq_getD_getElem?];by_cases h:k=i
 ·subst h;simp[hi]
 ·have:Nat.beq k i=false:=by rw[<-Bool.not_eq_true,Nat.beq_eq];exact h
  rw[Array.getElem?_setIfInBounds_ne (λe=>h e.symm),this,Bool.or_false]
theorem Xew (hpre:X2w 0 ops.toList=true) {j:Nat} (hbar:Xek j ops.toList=true):∀ (f m:Nat) (listed:Array Bool) (a:Act) (w:World),listed.size=ops.size->j<=m->m+f=ops.size->(∀ k,k<ops.size->(listed.getD k false=true↔k<m)) ->
  wpList P ops Q (ops.toList.drop m) a w->wpAny P .any ops Q f listed a w:=by
 have hlen:ops.toList.length=ops.size:=Array.length_toList;intro f
 induction f with
 |zero =>
  intro m listed a w hsz hj hm hl h;refine⟨?_,?_⟩
  ·rw[List.eq_nil_iff_forall_not_mem];intro i hi;obtain⟨h1,h2,_⟩:=X1a.1 hi;have:=(hl i h1).2 om;have hil:i<listed.size:=by omega
   simp only[Array.getD_eq_getD_getElem?,Array.getElem?_eq_getElem hil,Option.getD_some] at h2 this;rw[h2] at this;cases this
  ·rw[List.drop_of_length_le om] at h;exact h
 |succ f ih =>
  intro m listed a w hsz hj hm hl h;have hmo:ops.toList[m]?=some (ops.toList[m]' om):=List.getElem?_eq_getElem om;have hc:X6d ops listed:=λi o ho hi q hq=>by
   have hio:i<ops.size:=by have:=(List.getElem?_eq_some_iff.1 ho).1;omega
   have h1:=X30 _ 0 hpre i o ho q hq;have h2:=(hl i hio).1 hi;exact(hl q om).2 om
  have hrm:m∈Region.ready .any ops listed:=by
   refine X2u hsz hmo ?_ λq hq=>?_
   ·rw[<-Bool.not_eq_true];exact λe=>by have:=(hl m om).1 e;omega
   ·have h1:=X30 _ 0 hpre m _ hmo q hq;exact(hl q om).2 om
  refine⟨λhr=>(by rw[hr] at hrm;cases hrm),λi hi=>?_⟩;have him:i=m:=by
   obtain⟨h1,h2,_⟩:=X1a.1 hi;have hil:i<listed.size:=by omega
   have hge:m<=i:=by
    rcases Nat.lt_or_ge i m with h3|h3
    ·have:=(hl i h1).2 h3;simp only[Array.getD_eq_getD_getElem?,Array.getElem?_eq_getElem hil,Option.getD_some] at h2 this;rw[h2] at this;cases this
    ·exact h3
   rcases Nat.lt_or_eq_of_le hge with h3|h3
   ·have:=X6m hpre hc hi (X9s hbar om om h3);have:=(hl m om).1 this;omega
   ·exact h3.symm
  subst him;rw[List.drop_eq_getElem_cons om] at h;unfold wpList at h;unfold wpOp;have ho':ops[i]?=some (ops.toList[i]' om):=by simpa using hmo
  rw[ho'];simp only;have hnext:∀ a' w',wpList P ops Q (ops.toList.drop (i+1)) a' w'->wpAny P .any ops Q f (listed.setIfInBounds i true) a' w':=λa' w' h' =>
   ih (i+1) _ a' w' (by simpa using hsz) om om (λk hk=>by
    rw[X27 om,Bool.or_eq_true,hl k hk,Nat.beq_eq];omega) h'
  by_cases hw:Region.wanted (ops.toList[i]' om) (yielded ops a.tmps)=true
  ·rw[if_pos hw] at h ⊢;exact h.imp (Oper.wp_mono hnext) id
  ·rw[if_neg hw] at h ⊢;exact hnext _ _ h
theorem Xe0 {j i:Nat} {o:Oper} (h:(ops.toList.take j)[i]?=some o):ops.toList[i]?=some o/\i<j:=by
 rw[List.getElem?_take] at h;split at h
 ·exact⟨h,by assumption⟩
 ·cases h
theorem Xex {R:Exit->Act->World->Prop} {j:Nat} {pre:Array Oper} (hp:pre.toList=ops.toList.take j) (hjl:j<=ops.size) (hpre:X2w 0 ops.toList=true) (hbar:Xek j ops.toList=true) (hgd:X85 (ops.toList.take j)=true)
  (hRQ:∀ e a w,e≠.normal->R e a w->Q e a w) (r:Nat)
  (hend:∀ listed a w,listed.size=ops.size->(∀ k,k<ops.size->(listed.getD k false=true↔k<j))->R .normal a w->wpAny P .any ops Q r listed a w) :
  ∀ (f:Nat) (lp lo:Array Bool) (a:Act) (w:World),lp.size=pre.size->lo.size=ops.size->(∀ k,lo.getD k false=(lp.getD k false&&Nat.blt k j))->X6d pre lp ->
   wpAny P .any pre R f lp a w->wpAny P .any ops Q (f+r) lo a w:=by
 have hlen:ops.toList.length=ops.size:=Array.length_toList;have hps:pre.size=j:=by rw[<-Array.length_toList,hp,List.length_take];omega
 have hpp:X2w 0 pre.toList=true:=by
  have key:∀ (l:List Oper) (i k:Nat),X2w i l=true->X2w i (l.take k)=true:=by
   intro l
   induction l with
   |nil=>intro i k _;simp[X2w]
   |cons a l ih =>
    intro i k h
    cases k with
    |zero=>rfl
    |succ k =>
     simp only[X2w,Bool.and_eq_true,List.take_succ_cons] at h ⊢;exact⟨h.1,ih _ _ h.2⟩
  rw[hp];exact key _ _ _ hpre
 have same:∀ (k:Nat) o,ops.toList[k]?=some o->k<j->pre.toList[k]?=some o:=λk o ho hk=>by rw[hp,List.getElem?_take,if_pos hk];exact ho
 have full:∀ (lp:Array Bool),lp.size=pre.size->Region.ready .any pre lp=[]->∀ k,k<j->lp.getD k false=true:=by
  intro lp hs hr k
  induction k using Nat.strongRecOn with
  |_ k ih =>
   intro hk
   cases hl:lp.getD k false with
   |true=>rfl
   |false =>
    have hko:pre.toList[k]?=some (pre.toList[k]'(by rw[Array.length_toList];omega)):=List.getElem?_eq_getElem _;have:=X2u hs hko hl λq hq=>by
     have h1:=X30 _ 0 hpp k _ hko q hq;exact ih q om om
    rw[hr] at this;cases this
 have yl:∀ (tmps:Array Value) (q:Nat),q<j->yielded ops tmps q=yielded pre tmps q:=by
  intro tmps q hq;have:ops[q]?=pre[q]?:=by
   have h1:ops.toList[q]?=pre.toList[q]?:=by rw[hp,List.getElem?_take,if_pos hq]
   simpa using h1
  unfold yielded;rw[this]
 intro f
 induction f with
 |zero =>
  intro lp lo a w hs1 hs2 hrel hcl h;obtain⟨h1,h2⟩:=h;rw[Nat.zero_add];refine hend lo a w hs2 (λk hk=>?_) h2;rw[hrel];constructor
  ·intro h3;simp only[Bool.and_eq_true,Nat.blt_eq] at h3;exact h3.2
  ·intro h3;simp only[Bool.and_eq_true,Nat.blt_eq];exact⟨full lp hs1 h1 k h3,h3⟩
 |succ f ih =>
  intro lp lo a w hs1 hs2 hrel hcl h;obtain⟨h1,h2⟩:=h;by_cases hr:Region.ready .any pre lp=[]
  ·have:wpAny P .any ops Q r lo a w:=hend lo a w hs2 (λk hk=>by
    rw[hrel];constructor
    ·intro h3;simp only[Bool.and_eq_true,Nat.blt_eq] at h3;exact h3.2
    ·intro h3;simp only[Bool.and_eq_true,Nat.blt_eq];exact⟨full lp hs1 hr k h3,h3⟩) (h1 hr)
   have:=Xbo (f+1) r lo a w this
   rwa [Nat.add_comm] at this
  ·have hclo:X6d ops lo:=by
    intro i o ho hi q hq;rw[hrel] at hi ⊢;simp only[Bool.and_eq_true,Nat.blt_eq] at hi ⊢;have hq2:=X30 _ 0 hpre i o ho q hq;exact⟨hcl i o (same i o ho hi.2) hi.1 q hq,by omega⟩
   obtain⟨p,hpr⟩:=List.exists_mem_of_ne_nil _ hr;have hpj:p<j:=by have:=(X1a.1 hpr).1;omega
   have hnl:lo.getD p false=false:=by
    rw[hrel];have h3:=(X1a.1 hpr).2.1;have hpl:p<lp.size:=by omega
    simp only[Array.getD_eq_getD_getElem?,Array.getElem?_eq_getElem hpl,Option.getD_some] at h3 ⊢;rw[h3];rfl
   have low:∀ i,i∈Region.ready .any ops lo->i<j:=by
    intro i hi;rcases Nat.lt_or_ge i j with h3|h3
    ·exact h3
    ·have:=X6m hpre hclo hi (X9s hbar (by have:=(X1a.1 hi).1;omega) h3 (show p<i by omega));rw[hnl] at this;cases this
   rw[show f+1+r=(f+r)+1 by omega];refine⟨λhro=>?_,λi hi=>?_⟩
   ·exfalso;have hpo:pre.toList[p]?=some (pre.toList[p]'(by rw[Array.length_toList];omega)):=List.getElem?_eq_getElem _;have hpo2:ops.toList[p]?=some (pre.toList[p]'(by rw[Array.length_toList];omega)):=(Xe0 (by rw[<-hp];exact hpo)).1;have:p∈Region.ready .any ops lo:=X2u hs2 hpo2 hnl λq hq=>by
     have h3:=X34 hpr hpo q hq;have h4:=X30 _ 0 hpre p _ hpo2 q hq;rw[hrel,h3];simp;omega
    rw[hro] at this;cases this
   ·have hij:=low i hi;have hio:ops.toList[i]?=some (ops.toList[i]' om):=List.getElem?_eq_getElem _;have hip:=same i _ hio hij;have hli:lp.getD i false=false:=by
     have h3:=(X1a.1 hi).2.1;have hil:i<lo.size:=by omega
     have h5:lo.getD i false=false:=by
      simp only[Array.getD_eq_getD_getElem?,Array.getElem?_eq_getElem hil,Option.getD_some] at h3 ⊢;exact h3
     rw[hrel] at h5;have:Nat.blt i j=true:=by simpa using hij
     rw[this,Bool.and_true] at h5;exact h5
    have hir:i∈Region.ready .any pre lp:=X2u hs1 hip hli λq hq=>by
     have h3:=X34 hi hio q hq;rw[hrel] at h3;simp only[Bool.and_eq_true] at h3;exact h3.1
    have hk:=h2 i hir;unfold wpOp at hk ⊢;have e1:ops[i]?=some (ops.toList[i]' om):=by simpa using hio
    have e2:pre[i]?=some (ops.toList[i]' om):=by simpa using hip
    rw[e2] at hk;rw[e1];simp only at hk ⊢;have hw:Region.wanted (ops.toList[i]' om) (yielded ops a.tmps)=Region.wanted (ops.toList[i]' om) (yielded pre a.tmps):=by
     unfold Region.wanted
     cases hgu:(ops.toList[i]' om).guard with
     |none=>rfl
     |some g =>
      obtain⟨gj,want⟩:=g;have h5:=List.all_eq_true.1 hgd (ops.toList[i]' om) (List.mem_of_getElem? (i:=i) (by rw[List.getElem?_take,if_pos hij];exact hio));rw[hgu] at h5;simp only[Nat.blt_eq,List.length_take] at h5;simp only[yl a.tmps gj om]
    rw[hw];have hnext:∀ a' w',wpAny P .any pre R f (lp.setIfInBounds i true) a' w'->wpAny P .any ops Q (f+r) (lo.setIfInBounds i true) a' w':=by
     intro a' w' h';refine ih _ _ a' w' (by simpa using hs1) (by simpa using hs2) (λk=>?_) ?_ h'
     ·rw[X27 om,X27 om,hrel];by_cases hki:k=i
      ·subst hki;have:Nat.blt k j=true:=by simpa using hij
       simp[this]
      ·have:Nat.beq k i=false:=by rw[<-Bool.not_eq_true,Nat.beq_eq];exact hki
       simp[this]
     ·intro k o ho hk q hq;rw[X27 om] at hk ⊢;rcases Bool.or_eq_true_iff.1 hk with hk|hk
      ·rw[hcl k o ho hk q hq];rfl
      ·have:k=i:=by simpa using hk
       subst this;rw[X34 hir ho q hq];rfl
    by_cases hwt:Region.wanted (ops.toList[i]' om) (yielded pre a.tmps)=true
    ·rw[if_pos hwt] at hk ⊢;rcases hk with hk|⟨hk,a0,w0,hl⟩
     ·exact .inl (Oper.wp_mono2 hnext hRQ hk)
     ·exact .inr ⟨hk,a0,w0,hRQ _ _ _ (by intro h;cases h) hl⟩
    ·rw[if_neg hwt] at hk ⊢;exact hnext _ _ hk
end
end Go.Av
namespace Go.Av
variable [Gls]
end Go.Av


namespace Go.Av
variable [Gls]
end Go.Av


namespace Go.Av
variable [Gls]
def StTo (nt n0:Nat) (s s':St):Prop:=∀ (c0:Ctx) (H0:X3) (c:Ctx) (act:Act) (μ:Mu),X1r nt c0 H0 n0 c s act->MOk n0 c0 H0 c s.H μ act->∃ c',c'.w=c.w/\X1r nt c0 H0 n0 c' s' act/\MOk n0 c0 H0 c' s'.H μ act
section
variable {P:Program} {nt n0:Nat} {s s':St} {Q:X2->St->Mu->Prop} {μ:Mu}
theorem StTo.loop (hw:StTo nt n0 s s') {b:Code} (h:X2x P nt n0 b Q s' μ):X2x P nt n0 b Q s μ:=by
 intro c0 H0 c act g hm R hR;obtain⟨c',hc,g',hm'⟩:=hw c0 H0 c act μ g hm;have:=h c0 H0 c' act g' hm' R hR
 rwa [hc] at this
theorem StTo.semM (hw:StTo nt n0 s s') {c:Code} (h:X1q P nt n0 c Q s' μ):X1q P nt n0 c Q s μ:=by
 intro c0 H0 c act g hm R hR;obtain⟨c',hc,g',hm'⟩:=hw c0 H0 c act μ g hm;have:=h c0 H0 c' act g' hm' R hR
 rwa [hc] at this
end
end Go.Av


namespace Go.D
end Go.D
namespace Go.Av
variable [Gls]
open Go.D
class Xtf {α:Type} (f:α->AV):Prop where
 flat:∀ x,Xai (f x)
 whole:∀ x,(f x).whole=true
 still:∀ x,X8w (f x)
instance iInt {k:IntKind}:Xtf (aI k):=⟨λ_=>X078,λ_=>rfl,λ_=>X74⟩
class X0gv {α:Type} (g:Bool->α->AV):Prop where
 cva:∀ {H:X3} {o:Bool} {x:α},Cv false H (g o x) (g false x)
 cvt:∀ {H:X3} {o:Bool} {x:α},Cv true H (g o x) (g o x)
 len:∀ (o o':Bool) (x:α),(g o x).cells.length=(g o' x).cells.length
 free:∀ (o:Bool) (x:α),Xcl (g o x)
 still:∀ (o:Bool) (x:α),X8w (g o x)
theorem cvR {α:Type} {f:α->AV} [i:Xtf f] {m:Bool} {H:X3} {o n:Nat} {x:Obj} {l:List α} (hH:H o=some x) (he:x.es=l.map f) (hn:n=(l.map f).length):Cv m H (.ref o 0 n) (.list m (l.map f)) :=
 X0gk hH he hn (Xa9 i.flat l)
def CvE (m:Bool) (H:X3) (e e':AV):Prop:=e.cells.length=e'.cells.length/\∀ (k:Nat) a b,e.cells[k]?=some a->e'.cells[k]?=some b->Cv m H a b
def CvL (m:Bool) (H:X3) (l l':List AV):Prop:=l.length=l'.length/\∀ (i:Nat) e e',l[i]?=some e->l'[i]?=some e'->CvE m H e e'
theorem CvL.nil {m:Bool} {H:X3}:CvL m H [] []:=⟨rfl,λi e e' h=>by simp at h⟩
theorem CvL.cons {m:Bool} {H:X3} {e e':AV} {l l':List AV} (h:CvE m H e e') (t:CvL m H l l'):CvL m H (e::l) (e'::l'):=by
 refine⟨by simp[t.1],λi a b ha hb=>?_⟩
 cases i with
 |zero=>simp at ha hb;subst ha;subst hb;exact h
 |succ i=>simp at ha hb;exact t.2 i a b ha hb
theorem cvM {P:Prop} (h:P:=by
 repeat' first
  |exact Cvs.nil
  |refine Cvs.cons ?_ ?_
  |exact Cv.sc
  |exact Cv.fn0
  |exact Cv.listS rfl
  |exact cvLf
  |exact cvW
  |exact cvGt
  |exact cvG
  |exact cvLg
  |exact cvLe
  |refine X0gj ?_
  |exact Cv.nils
  |exact cvNil (by first|rfl|assumption|(simp;done)|(simp[*];done)|fail)
  |exact cvR rfl (by first|rfl|(simp;done)|(simp;rfl)|(simp[*];done)|(simp[*];rfl)|fail) (by first|rfl|(simp;done)|(simp;omega)|(simp[*];done)|(simp[*];omega)|fail)
  |exact cvRt rfl (by first|rfl|(simp;done)|(simp;rfl)|(simp[*];done)|fail) (by first|rfl|(simp;done)|(simp;omega)|(simp[*];done)|fail)
  |exact cvRw rfl (by first|rfl|(simp;done)|(simp;rfl)|(simp[*];done)|fail) (by first|rfl|(simp;done)|(simp;omega)|(simp[*];done)|fail)
  |exact cvRg true rfl (by first|rfl|(simp;done)|(simp;rfl)|(simp[*];done)|fail) (by first|rfl|(simp;done)|(simp;omega)|(simp[*];done)|fail)
  |exact cvRg false rfl (by first|rfl|(simp;done)|(simp;rfl)|(simp[*];done)|fail) (by first|rfl|(simp;done)|(simp;omega)|(simp[*];done)|fail)
  |exact cvRe true rfl (by first|rfl|(simp;done)|(simp;rfl)|(simp[*];done)|fail) (by first|rfl|(simp;done)|(simp;omega)|(simp[*];done)|fail)
  |exact cvRe false rfl (by first|rfl|(simp;done)|(simp;rfl)|(simp[*];done)|fail) (by first|rfl|(simp;done)|(simp;omega)|(simp[*];done)|fail)
  |exact cvRf rfl (by first|rfl|(simp;done)|(simp;rfl)|(simp[*];done)|fail) (by first|rfl|(simp;done)|(simp;omega)|(simp[*];done)|fail)
  |exact cvLq (by first|rfl|(simp;done)|(simp[*];done)|fail)
  |exact cv_leqS (by first|rfl|(simp;done)|(simp[*];done)|fail)
  |exact cv_scE (by first|rfl|(simp;done)|(simp[*];done)|fail)
  |refine Xh4 ?_
  |exact Cv.nils0
  |refine cv_refs rfl ?_ rfl
  |exact CvL.nil
  |refine CvL.cons ?_ ?_
  |refine cvE_agg ?_
  |refine cvE_one ?_ rfl rfl
  |refine Cv.ptrL rfl rfl rfl rfl (cv_cells ?_)
  |refine Cv.elemD rfl rfl (cv_cells ?_)
  |refine Cv.weak ?_
 first|done|fail):P:=h
class PCs (P:Program) (f:Nat) (S:outParam Prop):Prop where
 ok:S
theorem pcM {P:Prop} (h:P:=by
 first
  |exact pcN (by intro K;apply K;assumption) cvM
  |exact pcL (by intro K;apply K;assumption) cvM ownM):P:=h
theorem Xaz {P:Prop} (h:P:=by
 repeat' first
  |refine And.intro ?_ ?_
  |exact trivial
  |exact pcM
  |exact Xkk
 first|done|fail):P:=h
class TmD (P:Program) (T:outParam Ty):Prop where
 ok:X2i P T/\P.follows .mixedOrders=true
abbrev nbS {α:Type} {l:List α} (h:l=[]:=by first|rfl|simp[*]):Nb l:=nbT h
theorem okF {α:Type} {f:α->AV} [i:Xtf f] {x:α} {M:Nat->Prop}:(f x).Ok M:=(Xgf (i.flat x) (i.whole x) M).1
theorem okG {α:Type} {g:Bool->α->AV} [i:X0gv g] {o:Bool} {x:α} {M:Nat->Prop}:(g o x).Ok M:=(i.free o x M).1
theorem okM {P:Prop} (h:P:=by
 repeat' first
  |exact X5p
  |refine X2t ?_ ?_
  |exact .sc
  |exact .list
  |exact Xfq
  |exact .elem
  |exact okF
  |exact okG
 first|done|fail):P:=h
theorem bI {α β:Type} {x:Option α} {f:α->Option β} {r:β} {G:Prop} (k:∀ v,x=some v->f v=some r->G):x.bind f=some r->G:=λh=>X0gp h k
theorem brI {α:Type} {c:Bool} {a b:Option α} {r:α} {G:Prop} (h1:c=true->a=some r->G) (h2:c=false->b=some r->G):(bif c then a else b)=some r->G:=λh=>brE h h1 h2
theorem oj {α:Type} {a b:α} (h:some a=some b):a=b:=Option.some.inj h
theorem X4d {P:Program} {T:Ty} {nt n0:Nat} {μ:Mu} {Q:X2->St->Mu->Prop} {cf cf':Cf} {K K':List Kn} {L L':List (Nat×AV)} {G G':List (Nat×Obj)} {n n':Nat} {hs':List X2j} {ps':List Prop} [hT:TmD P T] (hs:List X2j)
  (k:Xk P nt n0 Q cf' K' ⟨fr L',hp G',n'⟩ μ) (h:X4t P T nt 4000 cf K L G n hs []=some (cf',K',L',G',n',hs',ps'):=by exact rfl) (o:X28 ps':=by exact Xaz):Xk P nt n0 Q cf K ⟨fr L,hp G,n⟩ μ:=X5y hT.ok 4000 hs h o k
theorem X65 {P:Program} {T:Ty} {nt n0:Nat} {μ:Mu} {Q:X2->St->Mu->Prop} {cf cf':Cf} {K K':List Kn} {L L':List (Nat×AV)} {G G':List (Nat×Obj)} {n n':Nat} {hs':List X2j} {ps':List Prop} [hT:TmD P T] (hs:List X2j)
  (h:X4t P T nt 4000 cf K L G n hs []=some (cf',K',L',G',n',hs',ps'):=by exact rfl) (o:X28 ps':=by exact Xaz) (k:Xk P nt n0 Q cf' K' ⟨fr L',hp G',n'⟩ μ):Xk P nt n0 Q cf K ⟨fr L,hp G,n⟩ μ:=X5y hT.ok 4000 hs h o k
theorem fi {P:Program} {T:Ty} {nt n0:Nat} {fn:Func} {r:AV} {L:List (Nat×AV)} {G:List (Nat×Obj)} {n:Nat} {μ:Mu} {rs:List AV} (hr:Xhr T L G fn.results.toList=some rs:=by exact rfl) (hc:Cv true (hp G) (X4k rs) r:=by exact cvM):Xk P nt n0 (Xih T fn r) (.exit .ret) [] ⟨fr L,hp G,n⟩ μ:=Xgh hr hc
end Go.Av


namespace Go.Av
variable [Gls]
abbrev TyE (P:Program) (t:Nat):={ i:TI // X6e P t i }
theorem getD_some {α:Type} {a:Option α} {d:α} (h:a.isSome=true):a=some (a.getD d):=by cases a<;>first|rfl|cases h
noncomputable def tc {P:Program} {t:Nat} {i:TypeInfo} {d:TypeDesc} (hi:P.info? t=some i) (hd:P.underlying t=some d) (hz:i.zero.isSome=true:=by kernel_rfl)
  (hw:((X0t (i.zero.getD .nilFunc)).whole&&Nat.beq (X0t (i.zero.getD .nilFunc)).cells.length i.size)=true:=by kernel_rfl):TyE P t :=
 ⟨⟨X31 d,i.size,i.bytes,i.zero.getD .nilFunc,false⟩,tiOk hi hd (getD_some hz) hw⟩
noncomputable def te {P:Program} {t:Nat} {i:TypeInfo} {d:TypeDesc} (hi:P.info? t=some i) (hd:P.underlying t=some d) (h1:P.stoodInHeld t=false) (h2:P.eqGuardType P.depth t=false) (hz:i.zero.isSome=true:=by kernel_rfl)
  (hw:((X0t (i.zero.getD .nilFunc)).whole&&Nat.beq (X0t (i.zero.getD .nilFunc)).cells.length i.size)=true:=by kernel_rfl)
  (h3 : (match d with | .struct fs => fs.toList.all (λf => !(f.name == "_")) | _ => true) = true := by kernel_rfl) : TyE P t :=
 ⟨⟨X31 d,i.size,i.bytes,i.zero.getD .nilFunc,true⟩,X0ku hi hd (getD_some hz) hw h1 h2 h3⟩
structure TabE {V:Type} (p:Nat->V->Prop) where
 t:Tab V
 ok:t.All p
noncomputable def tl {V:Type} {p:Nat->V->Prop}:TabE p:=⟨.leaf,trivial⟩
noncomputable def tn {V:Type} {p:Nat->V->Prop} (k:Nat) (e:{ v:V // p k v }) (l r:TabE p):TabE p:=⟨.node k e.1 l.t r.t,e.2,l.ok,r.ok⟩
noncomputable def fe {P : Program} {f : Nat} {fn : Func} (h : P.funcs[f]? = some fn) (h2 : (fn.name == "runtime.NumGoroutine") = false := by kernel_rfl) (h3 : fn.body = some (X2e fn) := by rfl) : { v : Func × Code // X5a P f v.1 v.2 } := ⟨(fn, X2e fn), h, h2, h3⟩
end Go.Av


namespace Go.Av
variable [Gls]
open MapKept Go.WideMaps
def Keyd (P:Program) (kt:Nat) (es:List (Value×Value)):Prop:=(∀ p∈es,∃ l,keyOf P kt p.1=some l)/\(es.map (·.1)).Nodup
theorem Keyd.nil {P:Program} {kt:Nat}:Keyd P kt []:=⟨(λ_ h=>by cases h),List.nodup_nil⟩
open Classical in
theorem Xfd {k v:Value}:∀ (l:List (Value×Value)),(X71 k v l).map (·.1)=if k∈l.map (·.1) then l.map (·.1) else l.map (·.1)++[k]:=by
 intro l
 induction l with
 |nil=>simp[X71]
 |cons a r ih =>
  obtain⟨a1,a2⟩:=a;simp only[X71];split
  ·rename_i h;subst h;simp
  ·rename_i h;have h':¬ k=a1:=λe=>h e.symm;simp only[List.map_cons];by_cases hm:k∈r.map (·.1)
   ·rw[if_pos hm] at ih;rw[if_pos (List.mem_cons_of_mem _ hm)];simp only[ih]
   ·rw[if_neg hm] at ih;rw[if_neg (λhc=>(List.mem_cons.1 hc).elim h' hm)];simp only[ih,List.cons_append]
theorem Keyd.set {P:Program} {kt:Nat} {es:List (Value×Value)} {k v:Value} {l:Lit} (h:Keyd P kt es) (hk:keyOf P kt k=some l):Keyd P kt (X71 k v es):=by
 have hks:=Xfd (k:=k) (v:=v) es;refine⟨λp hp=>?_,?_⟩
 ·have:p.1∈(X71 k v es).map (·.1):=List.mem_map.2 ⟨p,hp,rfl⟩;rw[hks] at this;split at this
  ·obtain⟨q,hq,e⟩:=List.mem_map.1 this;rw[<-e];exact h.1 q hq
  ·rcases List.mem_append.1 this with h1|h1
   ·obtain⟨q,hq,e⟩:=List.mem_map.1 h1;rw[<-e];exact h.1 q hq
   ·rw[List.mem_singleton.1 h1];exact⟨l,hk⟩
 ·rw[hks];split
  ·exact h.2
  ·rename_i hn;exact List.nodup_append.2 ⟨h.2,by simp,λa ha b hb=>by rw[List.mem_singleton.1 hb];exact λe=>hn (e▸ha)⟩
def unSc:List AV->Option (List Value)
 |[]=>some []
 |.sc v::r=>(unSc r).map (v::·)
 |_::_=>none
def keyV:AV->Option Value
 |.sc v=>some v
 |.agg cs=>(unSc cs).map λl=>.agg l.toArray
 |_=>none
theorem Xia {c:Ctx} {d:Bool}:∀ {cs:List AV} {l:List Value} {vs:List Value},unSc cs=some l->cs.length=vs.length->(∀ (i:Nat) a v,cs[i]?=some a->vs[i]?=some v->Xh c d a v)->vs=l:=by
 intro cs
 induction cs with
 |nil=>intro l vs h hl _;simp[unSc] at h;subst h;exact List.eq_nil_of_length_eq_zero hl.symm
 |cons a r ih =>
  intro l vs h hl hr
  cases vs with
  |nil=>simp at hl
  |cons v vs =>
   have h0:=hr 0 a v rfl rfl;cases a<;>simp[unSc] at h
   obtain⟨l',hl',rfl⟩:=h;rw[h0.sc_inv,ih hl' (by simpa using hl) (λi a v ha hv=>hr (i+1) a v ha hv)]
theorem Xd4 {c:Ctx} {d:Bool} {a:AV} {v k:Value} (h:keyV a=some k) (hr:Xh c d a v):v=k:=by
 cases a<;>simp[keyV] at h
 ·subst h;exact hr.sc_inv
 ·obtain⟨l,hl,rfl⟩:=h
  cases hr with
  |agg h1 h2 h3 =>
   rename_i vs;have:=Xia (c:=c) (d:=d) (vs:=vs.toList) hl (by simpa using h1) (λi a v ha hv=>h3 i a v ha (by simpa using hv));rw[<-this]
section
variable {P:Program} {nt n0:Nat} {Q:X2->St->Mu->Prop} {ops:Array Oper} {l:List Oper} {o:Oper} {K:List Kn} {L:List (Nat×AV)} {G:List (Nat×Obj)} {n:Nat} {μ:Mu}
end
section
variable {P:Program} {nt n0:Nat} {Q:X2->St->Mu->Prop} {ops:Array Oper} {l:List Oper} {o1 o2 o3:Oper} {K:List Kn} {L:List (Nat×AV)} {G:List (Nat×Obj)} {n:Nat} {μ:Mu}
end
end Go.Av


namespace Go.Av
variable [Gls]
open MapKept Go.WideMaps
noncomputable def Xbd (k:Value):List (Value×Value)->List (Value×Value)
 |[]=>[]
 |(a,b)::r=>open Classical in if a=k then r else (a,b)::Xbd k r
theorem Xsq {k:Value}:∀ (l:List (Value×Value)) (j:Nat) (p:Value×Value),l[j]?=some p->p.1=k->(∀ i q,i<j->l[i]?=some q->q.1≠k)->Xbd k l=l.eraseIdx j:=by
 intro l
 induction l with
 |nil=>intro j p h;simp at h
 |cons a r ih =>
  obtain⟨a1,a2⟩:=a;intro j p h hp hn
  cases j with
  |zero =>
   simp only[List.getElem?_cons_zero,Option.some.injEq] at h;subst h;simp only at hp;simp[Xbd,hp]
  |succ j =>
   have h0:a1≠k:=hn 0 (a1,a2) (Nat.succ_pos _) rfl;simp only[Xbd,if_neg h0,List.eraseIdx_cons_succ];rw[ih j p (by simpa using h) hp (λi q hi hq=>hn (i+1) q om (by simpa using hq))]
theorem Xgx {k:Value}:∀ (l:List (Value×Value)),(∀ q∈l,q.1≠k)->Xbd k l=l:=by
 intro l
 induction l with
 |nil=>intro _;rfl
 |cons a r ih =>
  obtain⟨a1,a2⟩:=a;intro h;have h0:a1≠k:=h (a1,a2) (by simp);simp only[Xbd,if_neg h0];rw[ih λq hq=>h q (List.mem_cons_of_mem _ hq)]
theorem X6p {α β:Type} (f:α->β):∀ (l:List α) (j:Nat),(l.eraseIdx j).map f=(l.map f).eraseIdx j
 |[],_=>by simp
 |a::r,0=>rfl
 |a::r,j+1=>by simp[X6p f r j]
theorem Xgg {d:TypeDesc} {P:Program} {w:World} {kt:TypeId} {k:Value} (hd:P.underlying kt=some d) (hk:IsKey d k) {es:List MapEntry} {ks:List (Value×Value)} (he:es.map (λe=>(e.key,e.val))=ks) (h:∀ p∈ks,IsKey d p.1) :
  ((Instr.findKey kt k es).run P w=.ok none w/\Xbd k ks=ks/\Xam k ks=none) \/
   ∃ j e,(Instr.findKey kt k es).run P w=.ok (some (j,e.val)) w/\es[j]?=some e/\e.key=k/\Xbd k ks=ks.eraseIdx j/\Xam k ks=some e.val:=by
 have hes:∀ x∈es,IsKey d x.key:=λx hx=>h (x.key,x.val) (by rw[<-he];exact List.mem_map.2 ⟨x,hx,rfl⟩);rcases X6x hk es 0 hes with ⟨h1,h2⟩|⟨j,e,h1,h2,h3,h4⟩
 ·have hn:∀ q∈ks,q.1≠k:=λq hq=>by
   rw[<-he] at hq;obtain⟨x,hx,rfl⟩:=List.mem_map.1 hq;exact h2 x hx
  exact .inl ⟨run_findKey hd h1,Xgx _ hn,(Xcw (v:=k) ks hn).2⟩
 ·have hj:ks[j]?=some (e.key,e.val):=by rw[<-he,List.getElem?_map,h2];rfl
  have hf:∀ i q,i<j->ks[i]?=some q->q.1≠k:=λi q hi hq=>by
   rw[<-he,List.getElem?_map] at hq
   cases hx:es[i]? with
   |none=>rw[hx] at hq;cases hq
   |some x=>rw[hx] at hq;cases hq;exact h4 i x hi hx
  rw[Nat.zero_add] at h1;exact .inr ⟨j,e,run_findKey hd h1,h2,h3,Xsq ks j _ hj h3 hf,(Xfe (v:=k) ks j _ hj h3 hf).2⟩
section
variable {P:Program} {nt n0:Nat} {Q:X2->St->Mu->Prop} {ops:Array Oper} {l:List Oper} {o:Oper} {K:List Kn} {L:List (Nat×AV)} {G:List (Nat×Obj)} {n:Nat} {μ:Mu}
theorem Xdj {c0 c:Ctx} {H0:X3} {act:Act} {b:Nat} {x x':MuE} {o' ob:Go.Obj} {w':World} (g:X1r nt c0 H0 n0 c ⟨fr L,hp G,n⟩ act) (hM:MOk n0 c0 H0 c (hp G) ((b,x)::μ) act)
  (hb:c.w.heap[b]?=some ob) (hw:w'.heap=c.w.heap.setIfInBounds b o') (hos:w'.os=c.w.os) (htp:w'.tape=c.w.tape) (hou:w'.output=c.w.output) (hdr:c.w.drawn<=w'.drawn) (hx:Xjx n0 { c with w:=w' } b x') (hds:Xhv ((b,x)::μ)=Xhv ((b,x')::μ)) :
  X1r nt c0 H0 n0 { c with w:=w' } ⟨fr L,hp G,n⟩ act/\MOk n0 c0 H0 { c with w:=w' } (hp G) ((b,x')::μ) act:=by
 obtain⟨a1,a2,a3,a4⟩:=hM.away (b,x) (by simp);have hsz:w'.heap.size=c.w.heap.size:=by rw[hw];simp
 have hoth:∀ q,q≠b->w'.heap[q]?=c.w.heap[q]?:=by
  intro q hq;rw[hw];exact(heap_set (o':=o') hb).2 q hq
 obtain⟨h1,h2⟩:=g.inv.aside (w':=w') hsz hoth ⟨a1,a2⟩ a3;refine⟨⟨h2,g.solo,λq=>(g.frame q).mono h1 (.inr (g.ok q)),g.ok,g.size,?_,g.le0⟩,λp hp=>?_,λp hp=>?_,?_,hM.ds.trans hds⟩
 ·have r:=g.reach;refine⟨r.rho,hos.trans r.os,htp.trans r.tape,⟨hou.trans r.output.1,Nat.le_trans r.output.2 (X4e hdr)⟩,by show _<=w'.heap.size;rw[hsz];exact r.size,λq hq hn=>?_,λq hq=>?_,r.sa,r.so1,r.so2,r.B,r.own⟩
  ·exact(hoth q (λe=>by subst e;exact(a4.no hq hn).elim)).trans (r.block q hq hn)
  ·refine(hoth q (λe=>?_)).trans (r.stable q hq);subst e;rcases hq with hq|hq
   ·exact a1 (by rw[r.sa];exact hq)
   ·exact a2 (r.so1 _ hq)
 ·rcases List.mem_cons.1 hp with rfl|hp
  ·exact hx
  ·have hne:p.1≠b:=λe=>(List.nodup_cons.1 hM.nodup).1 (List.mem_map.2 ⟨p,hp,e⟩);exact(hM.is p (List.mem_cons_of_mem _ hp)).le (hoth _ hne) (h1.weaken λq hq=>Nat.lt_of_lt_of_le hq g.le0)
 ·rcases List.mem_cons.1 hp with rfl|hp
  ·exact hM.away (b,x) (by simp)
  ·exact hM.away p (List.mem_cons_of_mem _ hp)
 ·exact hM.nodup
theorem Xk.mapDel {T:Ty} {t b kt et t2:Nat} {m k:Operand} {qm qk:List Prop} {ka:AV} {kv:Value} {es:List (Value×Value)} {ti:TI} {d:TypeDesc} (hT:X2i P T) (ho:o.op=.call { callee:=.builtin .delete,args:=#[m,k],argTypes:=#[t,t2] }) (hg:o.guard=none) (hd:o.dst=none)
  (ht:T t=some ti) (hkd:ti.kind=.map kt et) (hu:P.underlying kt=some d)
  (hm:rd L m=(.sc (.map (some b)),qm)) (hk:rd L k=(ka,qk)) (hka:keyV ka=some kv) (hqm:X28 qm) (hqk:X28 qk) (hik:IsKey d kv) (hks:∀ p∈es,IsKey d p.1)
  (h:Xk P nt n0 Q (.ops ops l) K ⟨fr L,hp G,n⟩ ((b,Xbd kv es)::μ)):Xk P nt n0 Q (.ops ops (o::l)) K ⟨fr L,hp G,n⟩ ((b,es)::μ):=by
 intro c0 H0 c act g hM Qx hQ R hR;refine X0s λK' hK'=>?_;rw[if_pos (by simp[Region.wanted,hg])];have em:act.eval m=.map (some b):=by have:=g.ev m;rw[show evA (St.A ⟨fr L,hp G,n⟩) m=_ from Xq hm hqm] at this;exact this.sc_inv
 have ek:act.eval k=kv:=by have:=g.ev k;rw[show evA (St.A ⟨fr L,hp G,n⟩) k=_ from Xq hk hqk] at this;exact Xd4 hka this
 have hu1:P.underlying t=some (.map kt et):=by
  obtain⟨i,dd,_,hdd,_,hkk,_⟩:=X0l (hT t ti ht);rw[hkd] at hkk;cases dd<;>simp[X31] at hkk
  obtain⟨rfl,rfl⟩:=hkk;exact hdd
 obtain⟨es0,cl,hb0,hl,hpw,hcl⟩:=hM.is (b,es) (by simp);have hdel:∃ es',(Builtin.delete_ #[t,t2] o.type #[.map (some b),kv]).run P c.w=.ok (.tuple #[]) { c.w with heap:=c.w.heap.setIfInBounds b (.map es' cl) } /\
   es'.toList.map (λe=>(e.key,e.val))=Xbd kv es/\es'.toList.Pairwise (λx y=>x.born<y.born)/\∀ e∈es'.toList,e.born<cl:=by
  rcases Xgg (w:=c.w) hu hik hl hks with ⟨h1,h2,_⟩|⟨j,e,h1,h2,_,h4,_⟩
  ·refine⟨es0,?_,by rw[h2];exact hl,hpw,hcl⟩;simp[Builtin.delete_,run_underlying hu1,MapKept.run_getObj_map hb0,run_checkKey hu hik,h1,MapKept.run_setObj_map _ hb0,Result.andThen]
  ·refine⟨es0.eraseIdxIfInBounds j,?_,?_,?_,?_⟩
   ·simp[Builtin.delete_,run_underlying hu1,MapKept.run_getObj_map hb0,run_checkKey hu hik,h1,MapKept.run_setObj_map _ hb0,Result.andThen]
   ·rw[Array.toList_eraseIdxIfInBounds,h4,<-hl];exact X6p _ _ _
   ·rw[Array.toList_eraseIdxIfInBounds];exact hpw.sublist (List.eraseIdx_sublist _ _)
   ·rw[Array.toList_eraseIdxIfInBounds];exact λx hx=>hcl x (List.mem_of_mem_eraseIdx hx)
 obtain⟨es',hrun,hl',hpw',hcl'⟩:=hdel;have hex:(execOp act.eval o).run P c.w=.ok (.value (.tuple #[])) { c.w with heap:=c.w.heap.setIfInBounds b (.map es' cl) }:=by
  obtain⟨dst,op,type,pos,after,guard⟩:=o;simp only at ho;subst ho;simp[execOp,resolve,invoke,builtin,em,ek,hrun,Result.andThen]
 refine Oper.wpR (λd hd=>by rw[hd] at ho;cases ho) ?_;unfold Oper.wp;rw[hex];obtain⟨g2,hM2⟩:=Xdj (x':=.map (Xbd kv es)) g hM hb0 (w':={ c.w with heap:=c.w.heap.setIfInBounds b (.map es' cl) }) rfl rfl rfl rfl (Nat.le_refl _) ⟨es',cl,(heap_set (o':=.map es' cl) hb0).1,hl',hpw',hcl'⟩ rfl;have hact:act.put o.dst (.tuple #[])=act:=by rw[hd];rfl
 have:=hK' act _ (h c0 H0 _ act g2 hM2 Qx hQ R hR);show K' (act.put o.dst (.tuple #[])) _;rw[hact];exact this
theorem Xk.mapLookI {T:Ty} {t b kt et:Nat} {m k:Operand} {qm qk:List Prop} {ka:AV} {kv z:Value} {es:List (Value×Value)} {ti:TI} {d:TypeDesc} (hT:X2i P T) (ho:o.op=.lookup t m k false) (hg:o.guard=none) (hd:X45 nt o.dst=true)
  (ht:T t=some ti) (hkd:ti.kind=.map kt et) (hu:P.underlying kt=some d) (hz:∀ w,(zeroValue et).run P w=.ok z w)
  (hm:rd L m=(.sc (.map (some b)),qm)) (hk:rd L k=(ka,qk)) (hka:keyV ka=some kv) (hqm:X28 qm) (hqk:X28 qk) (hik:IsKey d kv) (hks:∀ p∈es,IsKey d p.1)
  (h:Xk P nt n0 Q (.ops ops l) K ⟨fr (Xdz o.dst (.sc ((Xam kv es).getD z)) L),hp G,n⟩ ((b,es)::μ)):Xk P nt n0 Q (.ops ops (o::l)) K ⟨fr L,hp G,n⟩ ((b,es)::μ):=by
 intro c0 H0 c act g hM Qx hQ R hR;refine X0s λK' hK'=>?_;rw[if_pos (by simp[Region.wanted,hg])];have em:act.eval m=.map (some b):=by have:=g.ev m;rw[show evA (St.A ⟨fr L,hp G,n⟩) m=_ from Xq hm hqm] at this;exact this.sc_inv
 have ek:act.eval k=kv:=by have:=g.ev k;rw[show evA (St.A ⟨fr L,hp G,n⟩) k=_ from Xq hk hqk] at this;exact Xd4 hka this
 have hu1:P.underlying t=some (.map kt et):=by
  obtain⟨i,dd,_,hdd,_,hkk,_⟩:=X0l (hT t ti ht);rw[hkd] at hkk;cases dd<;>simp[X31] at hkk
  obtain⟨rfl,rfl⟩:=hkk;exact hdd
 have hrun:(Instr.lookup t (.map (some b)) kv false).run P c.w=.ok ((Xam kv es).getD z) c.w:=by
  obtain⟨es0,clock,hb,hl,_⟩:=hM.is (b,es) (by simp);rcases Xgg (w:=c.w) hu hik hl hks with ⟨h1,_,h3⟩|⟨j,e,h1,_,_,_,h4⟩
  ·simp[Instr.lookup,run_underlying hu1,MapKept.run_getObj_map hb,run_checkKey hu hik,h1,h3,hz,Result.andThen]
  ·simp[Instr.lookup,run_underlying hu1,MapKept.run_getObj_map hb,run_checkKey hu hik,h1,h4,Result.andThen]
 have hex:(execOp act.eval o).run P c.w=.ok (.value ((Xam kv es).getD z)) c.w:=by
  obtain⟨dst,op,type,pos,after,guard⟩:=o;simp only at ho;subst ho;simp only[execOp,em,ek,Sem.run_bind,hrun];rfl
 refine Oper.wpR (λd hd=>by rw[hd] at ho;cases ho) ?_;unfold Oper.wp;rw[hex];have g2:=g.next (c':=c) (dst:=o.dst) (a:=.sc ((Xam kv es).getD z)) (v:=(Xam kv es).getD z) (X1s hd) (.refl c) rfl (λb hb=>.inl hb) (.refl c (hp G)) (λq x hx=>.inr ⟨q,x,hx,rfl⟩) g.inv g.solo (Nat.le_refl _) .sc .sc;rw[X2a] at h;exact hK' _ _ (h c0 H0 c _ g2 hM.act Qx hQ R hR)
theorem Xk.mapEntryI {b r:Nat} {since clock:Nat} {seen:Array Nat} {ents:Array MapEntry} {e:MapEntry} {m:Operand} {qm:List Prop} (ho:o.op=.entry m) (hg:o.guard=none) (hd:X45 nt o.dst=true)
  (hm:rd L m=(.sc (.pointer (some ⟨r,0,none⟩)),qm)) (hqm:X28 qm) (he:e∈ents.toList) (hpw:ents.toList.Pairwise (λx y=>x.born<y.born))
  (h:Xk P nt n0 Q (.ops ops l) K ⟨fr (Xdz o.dst (.tup [.sc e.key,.sc e.val]) L),hp G,n⟩ ((r,.blk (.mapIter (some b) since (seen.push e.born) clock))::(b,.blk (.map ents clock))::μ)) :
  Xk P nt n0 Q (.ops ops (o::l)) K ⟨fr L,hp G,n⟩ ((r,.blk (.mapIter (some b) since (seen.push e.born) clock))::(b,.blk (.map ents clock))::μ):=by
 intro c0 H0 c act g hM Qx hQ R hR;refine X0s λK' hK'=>?_;rw[if_pos (by simp[Region.wanted,hg])];have em:act.eval m=.pointer (some ⟨r,0,none⟩):=by have:=g.ev m;rw[show evA (St.A ⟨fr L,hp G,n⟩) m=_ from Xq hm hqm] at this;exact this.sc_inv
 have hr:c.w.heap[r]?=some (.mapIter (some b) since (seen.push e.born) clock):=hM.is (r,.blk (.mapIter (some b) since (seen.push e.born) clock)) (by simp);have hb:c.w.heap[b]?=some (.map ents clock):=hM.is (b,.blk (.map ents clock)) (by simp);have hrun:=run_entry_at (P:=P) c.w r b since seen ents clock e hr hb he (List.pairwise_map.2 (hpw.imp λh=>Nat.ne_of_lt h));refine Oper.wpR (λd hd=>by rw[hd] at ho;cases ho) ?_;unfold Oper.wp;have hex:(execOp act.eval o).run P c.w=.ok (.value (.tuple #[e.key,e.val])) c.w:=by
  obtain⟨dst,op,type,pos,after,guard⟩:=o;simp only at ho;subst ho;simp only[execOp,em,Sem.run_bind,hrun];rfl
 rw[hex];have g2:=g.next (c':=c) (dst:=o.dst) (a:=.tup [.sc e.key,.sc e.val]) (v:=.tuple #[e.key,e.val]) (X1s hd) (.refl c) rfl (λb hb=>.inl hb) (.refl c (hp G)) (λq x hx=>.inr ⟨q,x,hx,rfl⟩) g.inv g.solo (Nat.le_refl _) (.tup rfl (by
  intro i a v ha hv
  match i with
  |0=>simp at ha hv;subst ha;subst hv;exact .sc
  |1=>simp at ha hv;subst ha;subst hv;exact .sc
  |i+2=>simp at ha)) (by
  refine .tup λx hx=>?_;simp at hx;rcases hx with rfl|rfl<;>exact .sc)
 rw[X2a] at h;exact hK' _ _ (h c0 H0 c _ g2 hM.act Qx hQ R hR)
theorem Xk.mapRange {b:Nat} {t:Nat} {m:Operand} {qm:List Prop} {es:List (Value×Value)} {T:Ty} {kt et:Nat} {ti:TI} (hT:X2i P T) (ho:o.op=.range t m) (hg:o.guard=none) (hd:X45 nt o.dst=true)
  (ht:T t=some ti) (hkd:ti.kind=.map kt et) (hm:rd L m=(.sc (.map (some b)),qm)) (hqm:X28 qm)
  (h:∀ (r:Nat) (ents:Array MapEntry) (clock:Nat),ents.toList.map (λe=>(e.key,e.val))=es->ents.toList.Pairwise (λx y=>x.born<y.born)->(∀ e∈ents.toList,e.born<clock) ->
   Xk P nt n0 Q (.ops ops l) K ⟨fr (Xdz o.dst (.sc (.pointer (some ⟨r,0,none⟩))) L),hp G,n⟩ ((r,.blk (.mapIter (some b) clock #[] clock))::(b,.blk (.map ents clock))::μ)) :
  Xk P nt n0 Q (.ops ops (o::l)) K ⟨fr L,hp G,n⟩ ((b,es)::μ):=by
 intro c0 H0 c act g hM Qx hQ R hR;refine X0s λK' hK'=>?_;rw[if_pos (by simp[Region.wanted,hg])];have em:act.eval m=.map (some b):=by have:=g.ev m;rw[show evA (St.A ⟨fr L,hp G,n⟩) m=_ from Xq hm hqm] at this;exact this.sc_inv
 have hu1:P.underlying t=some (.map kt et):=by
  obtain⟨i,dd,_,hdd,_,hkk,_⟩:=X0l (hT t ti ht);rw[hkd] at hkk;cases dd<;>simp[X31] at hkk
  obtain⟨rfl,rfl⟩:=hkk;exact hdd
 obtain⟨ents,clock,hb0,hl,hpw,hcl⟩:=hM.is (b,es) (by simp);have hM':MOk n0 c0 H0 c (hp G) ((b,.blk (.map ents clock))::μ) act:=⟨λp hp=>by
   rcases List.mem_cons.1 hp with rfl|hp
   ·exact hb0
   ·exact hM.is p (List.mem_cons_of_mem _ hp),λp hp=>by
   rcases List.mem_cons.1 hp with rfl|hp
   ·exact hM.away (b,es) (by simp)
   ·exact hM.away p (List.mem_cons_of_mem _ hp),hM.nodup,hM.ds⟩
 have hrun:(execOp act.eval o).run P c.w=.ok (.value (.pointer (some ⟨c.w.heap.size,0,none⟩))) (c.w.alloc (.mapIter (some b) clock #[] clock)):=by
  obtain⟨dst,op,type,pos,after,guard⟩:=o;simp only at ho;subst ho;simp only[execOp,em,Sem.run_bind,run_range_map c.w _ _ _ _ _ _ hu1 hb0];rfl
 refine Oper.wpR (λd hd=>by rw[hd] at ho;cases ho) ?_;unfold Oper.wp;rw[hrun];obtain⟨h1,h2,h3⟩:=g.inv.waste (w':=c.w.alloc (.mapIter (some b) clock #[] clock)) (.mapIter (some b) clock #[] clock) rfl rfl rfl ⟨rfl,Nat.le_refl _⟩;have g2:=(g.rebase).next (c':={ c with w:=c.w.alloc (.mapIter (some b) clock #[] clock) }) (dst:=o.dst) (a:=.sc (.pointer (some ⟨c.w.heap.size,0,none⟩))) (v:=.pointer (some ⟨c.w.heap.size,0,none⟩)) (X1s hd) h1 rfl (λb hb=>.inl hb) h3 (λq x hx=>.inr ⟨q,x,hx,rfl⟩) h2 g.solo (Nat.le_refl _) .sc .sc;have hk:=hM'.kept g2.reach;have hnew:(c.w.alloc (.mapIter (some b) clock #[] clock)).heap[c.w.heap.size]?=some (.mapIter (some b) clock #[] clock):=(heap_alloc c.w _).1;have hb:=h c.w.heap.size ents clock hl hpw hcl;rw[X2a] at hb;refine hK' _ _ (hb c0 H0 { c with w:=c.w.alloc (.mapIter (some b) clock #[] clock) } _ (.join g.reach g2) ⟨?_,?_,?_,(put_defers _ _ _).trans hM'.ds⟩ Qx hQ R (λe=>hR e))
 ·intro p hp;rcases List.mem_cons.1 hp with rfl|hp
  ·exact hnew
  ·exact hk.is p hp
 ·intro p hp;rcases List.mem_cons.1 hp with rfl|hp
  ·refine⟨λhs=>Nat.lt_irrefl _ (g.inv.lt _ (.inl hs)),λhs=>Nat.lt_irrefl _ (g.inv.lt _ (.inr hs)),λq x hx he=>?_,⟨by rw[<-g.reach.B];exact g.inv.base,.inl g.reach.size⟩⟩;obtain⟨_,⟨⟨cur,hcb,_⟩,_,_,_⟩,_⟩:=g.inv.obj q x hx;have he':(c.ρ q).blk=c.w.heap.size:=he;rw[he'] at hcb;simp at hcb
  ·exact hk.away p hp
 ·refine List.nodup_cons.2 ⟨λhmem=>?_,hk.nodup⟩;obtain⟨p,hp,he⟩:=List.mem_map.1 hmem;have:=(hM'.is p hp).lt;simp only at he;omega
theorem Xk.mapNext {b r:Nat} {since c1 clock:Nat} {seen:Array Nat} {ents:Array MapEntry} {m:Operand} {qm:List Prop} (ho:o.op=.next m false) (hg:o.guard=none) (hd:X45 nt o.dst=true)
  (hm:rd L m=(.sc (.pointer (some ⟨r,0,none⟩)),qm)) (hqm:X28 qm) (hold:∀ x∈ents.toList,x.born<since) (hsc:since<=c1)
  (h0:(leftOf ents seen).size=0->Xk P nt n0 Q (.ops ops l) K ⟨fr (Xdz o.dst (.tup [.sc (.bool false)]) L),hp G,n⟩ ((r,.blk (.mapIter (some b) since seen c1))::(b,.blk (.map ents clock))::μ))
  (h1:∀ e∈(leftOf ents seen).toList,Xk P nt n0 Q (.ops ops l) K ⟨fr (Xdz o.dst (.tup [.sc (.bool true),.sc e.key,.sc e.val]) L),hp G,n⟩ ((r,.blk (.mapIter (some b) since (seen.push e.born) clock))::(b,.blk (.map ents clock))::μ)) :
  Xk P nt n0 Q (.ops ops (o::l)) K ⟨fr L,hp G,n⟩ ((r,.blk (.mapIter (some b) since seen c1))::(b,.blk (.map ents clock))::μ):=by
 intro c0 H0 c act g hM Qx hQ R hR;refine X0s λK' hK'=>?_;rw[if_pos (by simp[Region.wanted,hg])];have em:act.eval m=.pointer (some ⟨r,0,none⟩):=by have:=g.ev m;rw[show evA (St.A ⟨fr L,hp G,n⟩) m=_ from Xq hm hqm] at this;exact this.sc_inv
 have hr:c.w.heap[r]?=some (.mapIter (some b) since seen c1):=hM.is (r,.blk _) (by simp);have hb:c.w.heap[b]?=some (.map ents clock):=hM.is (b,.blk _) (by simp);refine Oper.wpR (λd hd=>by rw[hd] at ho;cases ho) ?_;unfold Oper.wp;rcases run_next_at (P:=P) c.w o.type r b since c1 seen ents clock hr hb hold hsc with ⟨e0,hrun⟩|⟨e,he,w1,hw1,hrun⟩
 ·have hex:(execOp act.eval o).run P c.w=.ok (.value (.tuple #[.bool false])) c.w:=by
   obtain⟨dst,op,type,pos,after,guard⟩:=o;simp only at ho;subst ho;simp only[execOp,em,Sem.run_bind,hrun];rfl
  rw[hex];have g2:=g.next (c':=c) (dst:=o.dst) (a:=.tup [.sc (.bool false)]) (v:=.tuple #[.bool false]) (X1s hd) (.refl c) rfl (λb hb=>.inl hb) (.refl c (hp G)) (λq x hx=>.inr ⟨q,x,hx,rfl⟩) g.inv g.solo (Nat.le_refl _) (.tup rfl (by
   intro i a v ha hv
   match i with
   |0=>simp at ha hv;subst ha;subst hv;exact .sc
   |i+1=>simp at ha)) (by
   refine .tup λx hx=>?_;simp at hx;subst hx;exact .sc)
  have hk:=h0 e0;rw[X2a] at hk;exact hK' _ _ (hk c0 H0 c _ g2 hM.act Qx hQ R hR)
 ·have hex:(execOp act.eval o).run P c.w=.ok (.value (.tuple #[.bool true,e.key,e.val])) (Go.ChangeMaps.setBlock w1 r (.mapIter (some b) since (seen.push e.born) clock)):=by
   obtain⟨dst,op,type,pos,after,guard⟩:=o;simp only at ho;subst ho;simp only[execOp,em,Sem.run_bind,hrun];rfl
  rw[hex];have hs:(Go.ChangeMaps.setBlock w1 r (.mapIter (some b) since (seen.push e.born) clock)).heap=c.w.heap.setIfInBounds r (.mapIter (some b) since (seen.push e.born) clock):=by rcases hw1 with rfl|rfl<;>rfl
  obtain⟨g1,hM1⟩:=Xdj (x':=.blk (.mapIter (some b) since (seen.push e.born) clock)) g hM hr (w':=Go.ChangeMaps.setBlock w1 r (.mapIter (some b) since (seen.push e.born) clock)) hs (by rcases hw1 with rfl|rfl<;>rfl) (by rcases hw1 with rfl|rfl<;>rfl) (by rcases hw1 with rfl|rfl<;>rfl)
   (by rcases hw1 with rfl|rfl;exact Nat.le_refl _;exact Nat.le_succ _) (by show _=_;rw[show({ c with w:=_ }:Ctx).w=_ from rfl,hs];exact(heap_set (o':=_) hr).1) rfl
  have g2:=g1.next (c':={ c with w:=_ }) (dst:=o.dst) (a:=.tup [.sc (.bool true),.sc e.key,.sc e.val]) (v:=.tuple #[.bool true,e.key,e.val]) (X1s hd) (.refl _) rfl (λb hb=>.inl hb) (.refl _ (hp G)) (λq x hx=>.inr ⟨q,x,hx,rfl⟩) g1.inv g1.solo (Nat.le_refl _) (.tup rfl (by
   intro i a v ha hv
   match i with
   |0=>simp at ha hv;subst ha;subst hv;exact .sc
   |1=>simp at ha hv;subst ha;subst hv;exact .sc
   |2=>simp at ha hv;subst ha;subst hv;exact .sc
   |i+3=>simp at ha)) (by
   refine .tup λx hx=>?_;simp at hx;rcases hx with rfl|rfl|rfl<;>exact .sc)
  have hk:=h1 e he;rw[X2a] at hk;exact hK' _ _ (hk c0 H0 _ _ g2 hM1.act Qx hQ R hR)
theorem Xk.mapShutC {b r:Nat} {it:Go.Obj} {s:St} {clock:Nat} {ents:Array MapEntry} {es:List (Value×Value)} {code:Code} (hl:ents.toList.map (λe=>(e.key,e.val))=es) (hpw:ents.toList.Pairwise (λx y=>x.born<y.born)) (hcl:∀ e∈ents.toList,e.born<clock)
  (h:Xk P nt n0 Q (.code code) K s ((b,es)::μ)):Xk P nt n0 Q (.code code) K s ((r,.blk it)::(b,.blk (.map ents clock))::μ):=by
 intro c0 H0 c act g hM R hR;refine h c0 H0 c act g ⟨λp hp=>?_,λp hp=>?_,(List.nodup_cons.1 hM.nodup).2,hM.ds⟩ R hR
 ·rcases List.mem_cons.1 hp with rfl|hp
  ·exact⟨ents,clock,hM.is (b,.blk (.map ents clock)) (by simp),hl,hpw,hcl⟩
  ·exact hM.is p (by simp[hp])
 ·rcases List.mem_cons.1 hp with rfl|hp
  ·exact hM.away (b,.blk (.map ents clock)) (by simp)
  ·exact hM.away p (by simp[hp])
end
end Go.Av


namespace Go.Av
variable [Gls]
open Go.WideMaps
theorem X06r {P:Program} {t:TypeId} {q:IntKind} {n:Int} (d:Nat) (h:P.underlying t=some (.int q)) (hw:(Lit.int q n).wf=true):P.keyLits (d+1) t [.int q n]=some [.int q n]:=by
 unfold Program.keyLits;rw[h];simp[hw]
theorem Xg1 {P : Program} {t : TypeId} {fs : Array Field} {cs : List Value} {ls : List (List Lit)} {d : Nat} (h : P.underlying t = some (.struct fs)) (hl : cs.length = P.cellsOf t) (hn : fs.all (λf => f.name != "_") = true)
  (hm:fs.toList.mapM (λf=>P.keyLits d f.type ((cs.drop f.offset).take (P.cellsOf f.type)))=some ls):P.keyLits (d+1) t cs=some ls.flatten:=by
 unfold Program.keyLits;rw[h];simp only[];rw[if_pos ⟨hl,hn⟩,hm];rfl
def KL (P:Program) (d:Nat) (t:TypeId) (cs:List Value):Prop:=∃ ls,P.keyLits d t cs=some ls
theorem KL.int {P:Program} {t:TypeId} {q:IntKind} {n:Int} {d:Nat} (h:P.underlying t=some (.int q)) (hw:(Lit.int q n).wf=true):KL P (d+1) t [.int q n]:=⟨_,X06r d h hw⟩
theorem KL.struct {P : Program} {t : TypeId} {fs : Array Field} {cs : List Value} {d : Nat} (h : P.underlying t = some (.struct fs)) (hl : cs.length = P.cellsOf t) (hn : fs.all (λf => f.name != "_") = true)
  (hm:∃ ls,fs.toList.mapM (λf=>P.keyLits d f.type ((cs.drop f.offset).take (P.cellsOf f.type)))=some ls):KL P (d+1) t cs:=by
 obtain⟨ls,hm⟩:=hm;exact⟨_,Xg1 h hl hn hm⟩
end Go.Av
namespace Go.D
section
variable {α:Type} [DecidableEq α]
def Xj0 (x:α):List (α×Int)->Int
 |[]=>0
 |(a,v)::r=>if a=x then v else Xj0 x r
def Xbw (x:α) (v:Int):List (α×Int)->List (α×Int)
 |[]=>[(x,v)]
 |(a,w)::r=>if a=x then (x,v)::r else (a,w)::Xbw x v r
def Xdk (ks:List (α×Int)):List α->List (α×Int)
 |[]=>ks
 |x::xs=>Xdk (Xbw x (IntKind.i64.wrap (Xj0 x ks+1)) ks) xs
end
end Go.D
namespace Go.Av
variable [Gls]
open Go.D
section
variable {α:Type} [DecidableEq α] {e:α->Value}
def kvE (e:α->Value) (p:α×Int):Value×Value:=(e p.1,.int .i64 p.2)
theorem Xo7 (he:∀ a b,e a=e b->a=b) (x:α) (v:Int):∀ ks:List (α×Int),X71 (e x) (.int .i64 v) (ks.map (kvE e))=(Xbw x v ks).map (kvE e):=by
 intro ks
 induction ks with
 |nil=>simp[X71,Xbw,kvE]
 |cons p r ih =>
  obtain⟨a,w⟩:=p;by_cases h:a=x
  ·subst h;simp[X71,Xbw,kvE]
  ·have h2:¬ e a=e x:=λq=>h (he _ _ q);have ih':X71 (e x) (.int .i64 v) (r.map (kvE e))=(Xbw x v r).map (kvE e):=ih;simp[X71,Xbw,kvE,h,h2];exact ih'
theorem Xo8 (he:∀ a b,e a=e b->a=b) (x:α):∀ ks:List (α×Int),(Xam (e x) (ks.map (kvE e))).getD (.int .i64 0)=.int .i64 (Xj0 x ks):=by
 intro ks
 induction ks with
 |nil=>simp[Xam,Xj0]
 |cons p r ih =>
  obtain⟨a,w⟩:=p;by_cases h:a=x
  ·subst h;simp[Xam,Xj0,kvE]
  ·have h2:¬ e a=e x:=λq=>h (he _ _ q);simp[Xam,Xj0,kvE,h,h2];exact ih
end
theorem MOk.drop {n0:Nat} {c0 c:Ctx} {H0 H:X3} {b:Nat} {l:List (Value×Value)} {μ:Mu} {act:Act} (h:MOk n0 c0 H0 c H ((b,.map l)::μ) act):MOk n0 c0 H0 c H μ act :=
 ⟨λq hq=>h.is q (List.mem_cons_of_mem _ hq),λq hq=>h.away q (List.mem_cons_of_mem _ hq),(List.nodup_cons.1 h.nodup).2,h.ds⟩
end Go.Av


namespace Go.D
section
variable {α:Type} [DecidableEq α]
def Xh1 (x:α):List (α×Int)->List (α×Int)
 |[]=>[]
 |(a,w)::r=>if a=x then r else (a,w)::Xh1 x r
end
def X44:List (Int×Int)->Int
 |[] => -1
 |(i,n)::r=>bif decide (n=0)&&(decide (X44 r<0)||decide (i<X44 r)) then i else X44 r
def Xij (ks:List (Int×Int)) (k:Int):Nat->List (Int×Int)
 |0=>ks
 |n+1=>Xij (Xbw k 0 ks) (k+1) n
def X7j (nx:Int) (ks:List (Int×Int)):List (Int×Int)->List (Int×Int)
 |[]=>ks
 |c::cs=>X7j nx (bif decide (c.1=nx) then Xbw c.2 (IntKind.i64.wrap (Xj0 c.2 ks - 1)) ks else ks) cs
def Xik (cs:List (Int×Int)):Nat->List (Int×Int)->List Int->Option (List Int)
 |0,_,_=>none
 |f+1,ks,out=>bif decide ((0:Int)<(ks.length:Int)) then bif decide (X44 ks<0) then some out else Xik cs f (X7j (X44 ks) (Xh1 (X44 ks) ks) cs) (out++[X44 ks]) else some out
def ordL (n:Nat) (cs:List (Int×Int)):Option (List Int):=Xik cs 1000 (Xdk (Xij [] 0 n) (cs.map (·.2))) []
def X4p (nx:Int) (S:Int×Int->Prop):Prop:=(nx = -1/\∀ p,S p->p.2≠0)\/(0<=nx/\S (nx,0)/\∀ p,S p->p.2=0->nx<=p.1)
theorem X4p.uniq {a b:Int} {S:Int×Int->Prop} (h:X4p a S) (k:X4p b S):a=b:=by
 rcases h with ⟨h1,h2⟩|⟨h1,h2,h3⟩<;>rcases k with ⟨k1,k2⟩|⟨k1,k2,k3⟩
 ·rw[h1,k1]
 ·exact absurd rfl (h2 _ k2)
 ·exact absurd rfl (k2 _ h2)
 ·have:=h3 _ k2 rfl;have:=k3 _ h2 rfl;simp only at *;omega
theorem X4p.step {nx:Int} {S S':Int×Int->Prop} (h:X4p nx S) (i n:Int) (hi:0<=i) (hS:∀ p,S' p↔p=(i,n)\/S p):X4p (bif decide (n=0)&&(decide (nx<0)||decide (i<nx)) then i else nx) S':=by
 cases hb:(decide (n=0)&&(decide (nx<0)||decide (i<nx))) with
 |true =>
  rw[cond_true];simp only[Bool.and_eq_true,Bool.or_eq_true,decide_eq_true_eq] at hb;obtain⟨rfl,hb⟩:=hb;refine .inr ⟨hi,(hS _).2 (.inl rfl),λp hp h0=>?_⟩;rcases(hS p).1 hp with rfl|hp
  ·exact Int.le_refl _
  ·rcases h with ⟨h1,h2⟩|⟨h1,h2,h3⟩
   ·exact absurd h0 (h2 p hp)
   ·have:=h3 p hp h0;omega
 |false =>
  rw[cond_false];have hb':¬ (n=0/\(nx<0\/i<nx)):=by
   intro hh;have:(decide (n=0)&&(decide (nx<0)||decide (i<nx)))=true:=by simp[hh]
   rw[hb] at this;cases this
  rcases h with ⟨h1,h2⟩|⟨h1,h2,h3⟩
  ·refine .inl ⟨h1,λp hp h0=>?_⟩;rcases(hS p).1 hp with rfl|hp
   ·exact hb' ⟨h0,.inl om⟩
   ·exact h2 p hp h0
  ·refine .inr ⟨h1,(hS _).2 (.inr h2),λp hp h0=>?_⟩;rcases(hS p).1 hp with rfl|hp
   ·by_cases hc:i<nx
    ·exact absurd ⟨h0,.inr hc⟩ hb'
    ·show nx<=i;omega
   ·exact h3 p hp h0
theorem Xfy:∀ (l:List (Int×Int)),(∀ p∈l,0<=p.1)->X4p (X44 l) (·∈l):=by
 intro l
 induction l with
 |nil=>intro _;exact .inl ⟨rfl,λp hp=>by simp at hp⟩
 |cons a r ih =>
  obtain⟨i,n⟩:=a;intro h;exact(ih λp hp=>h p (List.mem_cons_of_mem _ hp)).step i n (h (i,n) (by simp)) λp=>List.mem_cons
theorem Xbv {x v:Int} (hx:0<=x):∀ {l:List (Int×Int)},(∀ p∈l,0<=p.1)->∀ p∈Xbw x v l,0<=p.1:=by
 intro l
 induction l with
 |nil=>intro _ p hp;simp[Xbw] at hp;subst hp;exact hx
 |cons a r ih =>
  obtain⟨a,w⟩:=a;intro h p hp;simp only[Xbw] at hp;split at hp
  ·rcases List.mem_cons.1 hp with rfl|hp
   ·exact hx
   ·exact h p (List.mem_cons_of_mem _ hp)
  ·rcases List.mem_cons.1 hp with rfl|hp
   ·exact h (a,w) (by simp)
   ·exact ih (λq hq=>h q (List.mem_cons_of_mem _ hq)) p hp
theorem Xh0 {x:Int}:∀ {l:List (Int×Int)},(∀ p∈l,0<=p.1)->∀ p∈Xh1 x l,0<=p.1:=by
 intro l
 induction l with
 |nil=>intro _ p hp;simp[Xh1] at hp
 |cons a r ih =>
  obtain⟨a,w⟩:=a;intro h p hp;simp only[Xh1] at hp;split at hp
  ·exact h p (List.mem_cons_of_mem _ hp)
  ·rcases List.mem_cons.1 hp with rfl|hp
   ·exact h (a,w) (by simp)
   ·exact ih (λq hq=>h q (List.mem_cons_of_mem _ hq)) p hp
theorem Xcz:∀ (n:Nat) {k:Int} {l:List (Int×Int)},0<=k->(∀ p∈l,0<=p.1)->∀ p∈Xij l k n,0<=p.1
 |0,_,_,_,h=>h
 |n+1,_,_,hk,h=>Xcz n om (Xbv hk h)
theorem Xbg:∀ (cs:List Int) {l:List (Int×Int)},(∀ c∈cs,0<=c)->(∀ p∈l,0<=p.1)->∀ p∈Xdk l cs,0<=p.1
 |[],_,_,h=>h
 |c::cs,_,hc,h=>Xbg cs (λx hx=>hc x (List.mem_cons_of_mem _ hx)) (Xbv (hc c (by simp)) h)
theorem X8i (nx:Int):∀ (cs:List (Int×Int)) {l:List (Int×Int)},(∀ c∈cs,0<=c.2)->(∀ p∈l,0<=p.1)->∀ p∈X7j nx l cs,0<=p.1
 |[],_,_,h=>h
 |c::cs,l,hc,h=>X8i nx cs (λx hx=>hc x (List.mem_cons_of_mem _ hx)) (by
  cases decide (c.1=nx) with
  |true=>exact Xbv (hc c (by simp)) h
  |false=>exact h)
end Go.D
namespace Go.Av
open Go.D
def iV (z:Int):Value:=.int .i64 z
theorem Xg7 (a b:Int) (h:iV a=iV b):a=b:=by simpa[iV] using h
section
variable {α:Type} [DecidableEq α] {e:α->Value}
theorem Xo9 (he:∀ a b,e a=e b->a=b) (x:α):∀ ks:List (α×Int),Xbd (e x) (ks.map (kvE e))=(Xh1 x ks).map (kvE e):=by
 intro ks
 induction ks with
 |nil=>simp[Xbd,Xh1]
 |cons p r ih =>
  obtain⟨a,w⟩:=p;by_cases h:a=x
  ·subst h;simp[Xbd,Xh1,kvE]
  ·have h2:¬ e a=e x:=λq=>h (he _ _ q);have ih':Xbd (e x) (r.map (kvE e))=(Xh1 x r).map (kvE e):=ih;simp[Xbd,Xh1,kvE,h,h2];exact ih'
end
theorem Xkh (x:Int) (ks:List (Int×Int)):(Xam (.int .i64 x) (ks.map (kvE iV))).getD (.int .i64 0)=.int .i64 (Xj0 x ks):=Xo8 Xg7 x ks
theorem Xfp (x v:Int) (ks:List (Int×Int)):X71 (.int .i64 x) (.int .i64 v) (ks.map (kvE iV))=(Xbw x v ks).map (kvE iV):=Xo7 Xg7 x v ks
theorem Xki (x:Int) (ks:List (Int×Int)):Xbd (.int .i64 x) (ks.map (kvE iV))=(Xh1 x ks).map (kvE iV):=Xo9 Xg7 x ks
def Xdm (ents:Array MapEntry) (seen:Array Nat) (p:Int×Int):Prop:=∃ e∈ents.toList,seen.contains e.born=true/\(e.key,e.val)=kvE iV p
theorem Xt3 {l:List MapEntry} (h:l.Pairwise (λx y=>x.born<y.born)) {x y:MapEntry} (hx:x∈l) (hy:y∈l) (he:x.born=y.born):x=y:=by
 induction l with
 |nil=>cases hx
 |cons a r ih =>
  obtain⟨h1,h2⟩:=List.pairwise_cons.1 h;rcases List.mem_cons.1 hx with ex|hx'<;>rcases List.mem_cons.1 hy with ey|hy'
  ·rw[ex,ey]
  ·exact absurd he (Nat.ne_of_lt (ex▸h1 y hy'))
  ·exact absurd he.symm (Nat.ne_of_lt (ey▸h1 x hx'))
  ·exact ih h2 hx' hy'
theorem X81 {ents:Array MapEntry} {seen:Array Nat} {e:MapEntry}:e∈(leftOf ents seen).toList↔e∈ents.toList/\seen.contains e.born=false:=by
 simp[leftOf]
theorem Xo5 {ents:Array MapEntry} {seen:Array Nat} {e:MapEntry} (h:e∈(leftOf ents seen).toList):(leftOf ents (seen.push e.born)).size<(leftOf ents seen).size:=by
 have h1:(leftOf ents (seen.push e.born)).toList=(leftOf ents seen).toList.filter (λx=>x.born != e.born):=by
  unfold leftOf;rw[Array.toList_filter,Array.toList_filter,List.filter_filter];congr 1
  funext x
  rw[Array.contains_push];cases seen.contains x.born<;>simp[bne]
 rw[<-Array.length_toList,<-Array.length_toList,h1];refine Nat.lt_of_le_of_ne (List.length_filter_le _ _) λhl=>?_;have:=List.filter_eq_self.1 (List.Sublist.eq_of_length List.filter_sublist hl) e h;simp at this
theorem Xdm.step {ents:Array MapEntry} {seen:Array Nat} (hpw:ents.toList.Pairwise (λx y=>x.born<y.born)) {e:MapEntry} {i n:Int} (he:e∈(leftOf ents seen).toList) (hv:(e.key,e.val)=kvE iV (i,n)) (p:Int×Int):Xdm ents (seen.push e.born) p↔p=(i,n)\/Xdm ents seen p:=by
 have he':=(X81.1 he).1;constructor
 ·rintro⟨x,hx,hs,hp⟩;rw[Array.contains_push] at hs;by_cases hb:x.born=e.born
  ·have:=Xt3 hpw hx he' hb;subst this;rw[hv] at hp;refine .inl ?_;obtain⟨a,b⟩:=p;simp[kvE,iV] at hp;rw[hp.1,hp.2]
  ·refine .inr ⟨x,hx,?_,hp⟩;simpa[hb] using hs
 ·rintro(rfl|⟨x,hx,hs,hp⟩)
  ·exact⟨e,he',by rw[Array.contains_push];simp,hv⟩
  ·exact⟨x,hx,by rw[Array.contains_push,hs];rfl,hp⟩
theorem Xdm.all {ents:Array MapEntry} {seen:Array Nat} {ks:List (Int×Int)} (hl:ents.toList.map (λe=>(e.key,e.val))=ks.map (kvE iV)) (h0:(leftOf ents seen).size=0) (p:Int×Int):Xdm ents seen p↔p∈ks:=by
 have hinj:∀ a b:Int×Int,kvE iV a=kvE iV b->a=b:=by
  rintro⟨a,b⟩ ⟨c,d⟩ h;simp[kvE,iV] at h;rw[h.1,h.2]
 constructor
 ·rintro⟨x,hx,_,hp⟩;have:(x.key,x.val)∈ks.map (kvE iV):=by rw[<-hl];exact List.mem_map.2 ⟨x,hx,rfl⟩
  obtain⟨q,hq,e⟩:=List.mem_map.1 this;rw[hp] at e;rw[<-hinj _ _ e];exact hq
 ·intro hp;have:kvE iV p∈ents.toList.map (λe=>(e.key,e.val)):=by rw[hl];exact List.mem_map.2 ⟨p,hp,rfl⟩
  obtain⟨x,hx,e⟩:=List.mem_map.1 this;refine⟨x,hx,?_,e⟩
  cases hs:seen.contains x.born with
  |true=>rfl
  |false =>
   have:x∈(leftOf ents seen).toList:=X81.2 ⟨hx,hs⟩;rw[<-Array.length_toList] at h0;rw[List.eq_nil_of_length_eq_zero h0] at this;cases this
theorem Xdm.none {ents:Array MapEntry} (p:Int×Int):¬ Xdm ents #[] p:=by rintro⟨x,_,h,_⟩;simp at h
theorem Xe5 {ents:Array MapEntry} {seen:Array Nat} {ks:List (Int×Int)} {nx:Int} (hl:ents.toList.map (λe=>(e.key,e.val))=ks.map (kvE iV)) (h0:(leftOf ents seen).size=0) (hge:∀ p∈ks,0<=p.1) (h:X4p nx (Xdm ents seen)):X44 ks=nx:=by
 have e:Xdm ents seen=(·∈ks):=funext λp=>propext (Xdm.all hl h0 p);rw[e] at h;exact(Xfy ks hge).uniq h
theorem Xop {ents:Array MapEntry} {ks:List (Int×Int)} (hl:ents.toList.map (λe=>(e.key,e.val))=ks.map (kvE iV)) {e:MapEntry} (he:e∈ents.toList):∃ p∈ks,e.key=.int .i64 p.1/\e.val=.int .i64 p.2:=by
 have:(e.key,e.val)∈ks.map (kvE iV):=by rw[<-hl];exact List.mem_map.2 ⟨e,he,rfl⟩
 obtain⟨q,hq,e'⟩:=List.mem_map.1 this;simp[kvE,iV] at e';exact⟨q,hq,e'.1.symm,e'.2.symm⟩
theorem X6q {ents:Array MapEntry}:X4p (-1) (Xdm ents #[]):=.inl ⟨rfl,λp hp=>absurd hp (Xdm.none p)⟩
end Go.Av


namespace Go.Av
variable [Gls]
theorem Xk.copyS {P:Program} {T:Ty} {nt n0:Nat} {Q:X2->St->Mu->Prop} {ops:Array Oper} {l:List Oper} {o:Oper} {K:List Kn} {L:List (Nat×AV)} {G:List (Nat×Obj)} {n:Nat} {μ:Mu} {d x:Operand} {t t' q off len et:Nat} {y:Obj} {xa:AV} {xs:List AV} {te ti:TI} {qd qx:List Prop}
  (es':List AV) (m:Nat) (hT:X2i P T) (ho:o.op=.call { callee:=.builtin .copy,args:=#[d,x],argTypes:=#[t,t'] }) (hg:o.guard=none) (hdst:X45 nt o.dst=true) (hd:rd L d=(.ref q off len,qd)) (hqd:X28 qd) (hH:hp G q=some y) (hle:Nat.ble (off+len) y.es.length=true)
  (hx:rd L x=(xa,qx)) (hqx:X28 qx) (hsrc:X9t (hp G) xa xs) (hm:min xs.length len=m) (hn0:Nat.ble 1 m=true) (ht:T t=some ti) (hk:ti.kind=.slice et) (hte:T et=some te) (hsz:(xs.all λe=>Nat.beq e.cells.length te.size)=true) (hes:y.esz=te.size)
  (hsp:splice y.es off (xs.take m)=es')
  (h:Xk P nt n0 Q (.ops ops l) K ⟨fr (Xdz o.dst (.sc (.int .i64 m)) L),hp ((q,{ y with es:=es' })::G),n⟩ μ):Xk P nt n0 Q (.ops ops (o::l)) K ⟨fr L,hp G,n⟩ μ:=by
 subst hm hsp;refine X1t.plain (s:=⟨fr L,hp G,n⟩) hg (X1s hdst) (OpR.copy (s:=⟨fr L,hp G,n⟩) hT ho (Xq hd hqd) hH (by simpa using hle) (by rw[show evA (St.A ⟨fr L,hp G,n⟩) x=_ from Xq hx hqx];exact hsrc) (by simp at hn0;omega) ht hk hte (λe he=>by
  have:=List.all_eq_true.1 hsz e he;simpa using this) hes) ?_
 rintro _ _ _ ⟨rfl,rfl,rfl⟩;rw[X2a] at h;have e:goInt (min (xs.length:Int) (len:Int))=.int .i64 ((min xs.length len:Nat):Int):=by unfold goInt;congr 1;omega
 rw[e];have hgn:=Xa8 hH;rw[X7b] at h
 ·exact h
 ·exact hgn
end Go.Av


namespace Go.Av
variable [Gls]
open Go
def X7t (o:Oper):Oper:={ o with after:=o.after.push { on:=0,ground:=.data } }
def X0j (ops:Array Oper) (c:Nat):Array Oper:=ops.modify c X7t
theorem X5g (o:Oper):∀ j,j∈X3l (X7t o)↔j∈X3l o\/j=0:=by
 intro j;simp only[X3l,X7t,Array.toList_push,List.filter_append,List.map_append,List.mem_append];constructor
 ·rintro(h|h)
  ·exact .inl h
  ·right;obtain⟨e,he,rfl⟩:=List.mem_map.1 h;rw[List.mem_singleton.1 (List.mem_filter.1 he).1]
 ·rintro(h|rfl)
  ·exact .inl h
  ·right;exact List.mem_map.2 ⟨_,List.mem_filter.2 ⟨List.mem_singleton.2 rfl,rfl⟩,rfl⟩
section
variable {P:Program} {ops:Array Oper} {Q:Exit->Act->World->Prop}
theorem Oper.wp_put {o:Oper} {a a2:Act} {w:World} {K K2:Act->World->Prop} (hQ:(∀ ch a w,¬ Q (.panic ch) a w)/\∀ a w,¬ Q .outgrown a w) (he:execOp a2.eval o=execOp a.eval o) (hr:∀ n w',(execOp a.eval o).run P w=.ok n w'->∃ v,n=.value v) (hK:∀ v w',K (a2.put o.dst v) w'->K2 (a.put o.dst v) w')
  (hh:o.wp P a2 w K Q):o.wp P a w K2 Q:=by
 unfold Oper.wp at *;rw[he] at hh;generalize (execOp a.eval o).run P w=r at *
 cases r with
 |ok n w' =>
  obtain⟨v,rfl⟩:=hr n w' rfl;simp only[Oper.upon] at hh ⊢;exact hK _ _ hh
 |halt x w'=>cases x<;>simp only[Oper.upon] at hh ⊢<;>first|exact hh|exact absurd hh (hQ.1 _ _ _)|exact absurd hh (hQ.2 _ _)
theorem Xap {o:Oper} {a:Act} {w:World} {K:Act->World->Prop} (h:(X7t o).wp P a w K Q):o.wp P a w K Q:=h
theorem X9w {i:Nat} {o:Oper} {K:Act->World->Prop} {a:Act} {w:World} (hQ:(∀ ch a w,¬ Q (.panic ch) a w)/\∀ a w,¬ Q .outgrown a w) (ho:ops[i]?=some o) (hg:o.guard=none) (h:wpOp P ops Q i K a w):o.wp P a w K Q:=by
 unfold wpOp at h;rw[ho] at h;simp only at h;rw[if_pos (by simp[Region.wanted,hg])] at h;rcases h with h|⟨_,a0,w0,h⟩
 ·exact h
 ·exact absurd h (hQ.2 _ _)
theorem X9x {i:Nat} {o:Oper} {K:Act->World->Prop} {a:Act} {w:World} (ho:ops[i]?=some o) (hg:o.guard=none) (h:o.wp P a w K Q):wpOp P ops Q i K a w:=by
 unfold wpOp;rw[ho];simp only;rw[if_pos (by simp[Region.wanted,hg])];exact .inl h
theorem X6w {c:Nat} {oc:Oper} (hc:ops[c]?=some oc) (i:Nat):(X0j ops c)[i]?=if i=c then some (X7t oc) else ops[i]?:=by
 unfold X0j;rw[Array.getElem?_modify];by_cases h:i=c
 ·subst h;simp[hc]
 ·rw[if_neg (λe=>h e.symm),if_neg h]
theorem Xta (a:Act) {d d':Nat} (v v':Value) (h:d≠d'):(a.put (some d) v).put (some d') v'=(a.put (some d') v').put (some d) v:=by
 simp only[Act.put];rw[Array.setIfInBounds_comm _ _ (by exact h)]
theorem Xbp {c d0 dc src:Nat} {o0 oc:Oper} (hQ:(∀ ch a w,¬ Q (.panic ch) a w)/\∀ a w,¬ Q .outgrown a w) (hpre:X2w 0 ops.toList=true)
  (h0:ops[0]?=some o0) (hop:o0.op=.move (.tmp src)) (hg0:o0.guard=none) (hd0:o0.dst=some d0) (hp0:X3l o0=[]) (hc:ops[c]?=some oc) (hc0:c≠0) (hgc:oc.guard=none) (hdc:oc.dst=some dc) (hne:dc≠d0) (hns:dc≠src)
  (hg:∀ (i:Nat) (o:Oper),ops[i]?=some o->o.guard=none) (hres:∀ (a:Act) w n w',(execOp a.eval oc).run P w=.ok n w'->∃ v,n=.value v)
  (hex:∀ (a:Act) v,execOp (a.put (some d0) v).eval oc=execOp a.eval oc)
  (hall:∀ i,i<ops.size->i≠0->i≠c->((X0k ops.toList).getD c 0).testBit i=true\/((X0k ops.toList).getD i 0).testBit 0=true) :
  ∀ (f:Nat) (L:Array Bool) (a:Act) (w:World),L.size=ops.size->X6d ops L->wpAny P .any (X0j ops c) Q f L a w->wpAny P .any ops Q f L a w:=by
 have hsz':(X0j ops c).size=ops.size:=by simp[X0j]
 have hlt0:0<ops.size:=(Array.getElem?_eq_some_iff.1 h0).1;have hltc:c<ops.size:=(Array.getElem?_eq_some_iff.1 hc).1;have h0':(X0j ops c)[0]?=some o0:=by rw[X6w hc,if_neg (Ne.symm hc0)];exact h0
 have hc':(X0j ops c)[c]?=some (X7t oc):=by rw[X6w hc,if_pos rfl]
 have rd:∀ (L:Array Bool) i,L.size=ops.size->i∈Region.ready .any ops L->(i=c->L.getD 0 false=true)->i∈Region.ready .any (X0j ops c) L:=by
  intro L i hL hi hic;have hio:=(X1a.1 hi).1;have ho:ops.toList[i]?=some ops[i]:=by simp[hio]
  have hnl:L.getD i false=false:=by
   have h1:=(X1a.1 hi).2.1;have hil:i<L.size:=by omega
   simp only[Array.getD_eq_getD_getElem?,Array.getElem?_eq_getElem hil,Option.getD_some] at h1 ⊢;exact h1
  have hp:=X34 hi ho;by_cases h:i=c
  ·subst h;refine X2u (o:=X7t oc) om (by simpa using hc') hnl λj hj=>?_;rcases(X5g oc j).1 hj with h1|rfl
   ·have:ops[i]=oc:=by have:=hc;rw[Array.getElem?_eq_getElem hio] at this;exact Option.some.inj this
    rw[this] at hp;exact hp j h1
   ·exact hic rfl
  ·refine X2u (o:=ops[i]) om ?_ hnl hp;have:=X6w hc i;rw[if_neg h] at this;simpa[hio] using this
 have rd0:∀ (L:Array Bool),L.size=ops.size->L.getD 0 false=false->0∈Region.ready .any ops L/\0∈Region.ready .any (X0j ops c) L:=by
  intro L hL hl;have h1:0∈Region.ready .any ops L:=X2u (o:=o0) hL (by simpa using h0) hl (λj hj=>by rw[hp0] at hj;cases hj);exact⟨h1,rd L 0 hL h1 (λe=>absurd e.symm hc0)⟩
 have hmove:∀ (a:Act) (w:World),(execOp a.eval o0).run P w=.ok (.value (a.eval (.tmp src))) w:=by
  intro a w;obtain⟨dst,op,type,pos,after,guard⟩:=o0;simp only at hop;subst hop;simp[execOp]
 have mv:∀ (opsx:Array Oper) (K:Act->World->Prop) (a:Act) (w:World),opsx[0]?=some o0->(wpOp P opsx Q 0 K a w↔K (a.put (some d0) (a.eval (.tmp src))) w):=by
  intro opsx K a w hx;constructor
  ·intro h;have h1:=X9w hQ hx hg0 h;unfold Oper.wp at h1;rw[hmove] at h1;have h2:K (a.put o0.dst (a.eval (.tmp src))) w:=h1
   rwa [hd0] at h2
  ·intro h;refine X9x hx hg0 ?_;unfold Oper.wp;rw[hmove];show K (a.put o0.dst (a.eval (.tmp src))) w;rw[hd0];exact h
 have hcl:∀ (L:Array Bool) i,L.size=ops.size->X6d ops L->i∈Region.ready .any ops L->X6d ops (L.setIfInBounds i true):=by
  intro L i hL hC hi k o ho hk q hq;have hio:=(X1a.1 hi).1;rw[X27 om] at hk ⊢;rcases Bool.or_eq_true_iff.1 hk with hk|hk
  ·rw[hC k o ho hk q hq];rfl
  ·have:k=i:=by simpa using hk
   subst this;rw[X34 hi ho q hq];rfl
 intro f
 induction f using Nat.strongRecOn with
 |_ f ih =>
  intro L a w hL hC h
  cases f with
  |zero =>
   obtain⟨h1,h2⟩:=h;refine⟨?_,h2⟩;rw[List.eq_nil_iff_forall_not_mem];intro i hi
   cases hl0:L.getD 0 false with
   |true=>have:=rd L i hL hi (λ_=>hl0);rw[h1] at this;cases this
   |false=>have:=(rd0 L hL hl0).2;rw[h1] at this;cases this
  |succ f =>
   obtain⟨h1,h2⟩:=h;refine⟨λhr=>h1 ?_,λi hi=>?_⟩
   ·rw[List.eq_nil_iff_forall_not_mem];intro i hi;have hio:=(X1a.1 hi).1;have hnl:L.getD i false=false:=by
     have h3:=(X1a.1 hi).2.1;have hil:i<L.size:=by omega
     simp only[Array.getD_eq_getD_getElem?,Array.getElem?_eq_getElem hil,Option.getD_some] at h3 ⊢;exact h3
    have:i∈Region.ready .any ops L:=by
     by_cases hic:i=c
     ·subst hic;refine X2u (o:=oc) hL (by simpa using hc) hnl λj hj=>?_;exact X34 hi (by simpa using hc') j ((X5g oc j).2 (.inl hj))
     ·have hx:=X6w hc i;rw[if_neg hic] at hx;have hlt:i<ops.size:=by omega
      refine X2u (o:=ops[i]) hL (by simp[hlt]) hnl λj hj=>?_;exact X34 hi (o:=ops[i]) (by rw[Array.getElem?_toList,hx];simp[hlt]) j hj
    rw[hr] at this;cases this
   ·have hio:=(X1a.1 hi).1;by_cases hs:i=c/\L.getD 0 false=false
    ·obtain⟨rfl,hl0⟩:=hs;obtain⟨_,r0⟩:=rd0 L hL hl0;have s1:=(mv _ _ a w h0').1 (h2 0 r0);have hL0:(L.setIfInBounds 0 true).size=ops.size:=by simpa using hL
     have hi0:i∈Region.ready .any (X0j ops i) (L.setIfInBounds 0 true):=by
      have ho:ops.toList[i]?=some oc:=by simpa using hc
      refine X2u (o:=X7t oc) om (by simpa using hc') ?_ λj hj=>?_
      ·rw[X27 om];have h3:=(X1a.1 hi).2.1;have hil:i<L.size:=by omega
       simp only[Array.getD_eq_getD_getElem?,Array.getElem?_eq_getElem hil,Option.getD_some] at h3 ⊢;have hb:Nat.beq i 0=false:=by rw[<-Bool.not_eq_true,Nat.beq_eq];exact hc0
       rw[h3,hb];rfl
      ·rw[X27 om];rcases(X5g oc j).1 hj with h3|rfl
       ·rw[X34 hi ho j h3];rfl
       ·simp
     cases f with
     |zero=>exact absurd hi0 (by rw[s1.1];exact λh=>by cases h)
     |succ f =>
      have s2:=X9w hQ hc' (by exact hgc) (s1.2 i hi0);refine X9x hc hgc (Oper.wp_put hQ (a2:=a.put (some d0) (a.eval (.tmp src))) (hex _ _) (hres a w) (λv w' hk=>?_) (Xap s2));rw[hdc] at hk ⊢;have hLi:(L.setIfInBounds i true).size=ops.size:=by simpa using hL
      have hCi:=hcl L i hL hC hi;have hl0i:(L.setIfInBounds i true).getD 0 false=false:=by
       have hb:Nat.beq 0 i=false:=by rw[<-Bool.not_eq_true,Nat.beq_eq];exact Ne.symm hc0
       rw[X27 om,hl0,hb];rfl
      refine⟨λhr=>(by have:=(rd0 _ hLi hl0i).1;rw[hr] at this;cases this),λk hk2=>?_⟩;have hk0:k=0:=by
       refine Classical.byContradiction λhk0=>?_;have hks:=(X1a.1 hk2).1;have hki:k≠i:=by
        rintro rfl;have h3:=(X1a.1 hk2).2.1;have hil:k<L.size:=by omega
        simp[Array.getD_eq_getD_getElem?,hil] at h3
       rcases hall k hks hk0 hki with h3|h3
       ·have h4:=X6m hpre hC hi h3;have h5:=(X1a.1 hk2).2.1;have hkl:k<L.size:=by omega
        rw[Array.getD_eq_getD_getElem?,Array.getElem?_setIfInBounds_ne (λe=>hki e.symm),Array.getElem?_eq_getElem hkl] at h5;rw[Array.getD_eq_getD_getElem?,Array.getElem?_eq_getElem hkl] at h4;simp only[Option.getD_some] at h4 h5;rw[h4] at h5;cases h5
       ·have h4:=X6m hpre hCi hk2 h3;rw[hl0i] at h4;cases h4
      subst hk0;refine(mv _ _ _ _ h0).2 ?_;have hev:(a.put (some dc) v).eval (.tmp src)=a.eval (.tmp src):=by
       simp[Act.put,Act.eval,Array.getD_eq_getD_getElem?,Array.getElem?_setIfInBounds_ne hns]
      rw[hev,Xta _ _ _ hne];have hco:(L.setIfInBounds i true).setIfInBounds 0 true=(L.setIfInBounds 0 true).setIfInBounds i true:=by rw[Array.setIfInBounds_comm _ _ hc0]
      rw[hco];refine ih f om _ _ _ (by simpa using hL) ?_ hk;rw[<-hco];exact hcl _ 0 hLi hCi (rd0 _ hLi hl0i).1
    ·have hr':=rd L i hL hi (λe=>by
      cases hl0:L.getD 0 false with
      |true=>rfl
      |false=>exact absurd ⟨e,hl0⟩ hs)
     have h3:=h2 i hr';have hgo:ops[i].guard=none:=hg i _ (by simp[hio]);have hLi:(L.setIfInBounds i true).size=ops.size:=by simpa using hL
     have hio':ops[i]?=some ops[i]:=by simp[hio]
     by_cases hic:i=c
     ·subst hic;have hoc:ops[i]=oc:=by rw[hio'] at hc;exact Option.some.inj hc
      refine X9x hc hgc (Oper.wp_mono (λv w' hk=>ih f om _ _ _ hLi (hcl L i hL hC hi) hk) (Xap (X9w hQ hc' (by exact hgc) h3)))
     ·have hx:=X6w hc i;rw[if_neg hic,hio'] at hx;refine X9x hio' hgo (Oper.wp_mono (λv w' hk=>ih f om _ _ _ hLi (hcl L i hL hC hi) hk) (X9w hQ hx hgo h3))
end
theorem X0zl {nt n0:Nat} {c0:Ctx} {H0:X3} {Q:X2->St->Mu->Prop}:(∀ ch a w,¬ MQ nt c0 H0 n0 Q (.panic ch) a w)/\∀ a w,¬ MQ nt c0 H0 n0 Q .outgrown a w:=by
 constructor
 ·rintro ch a w ⟨c,s,ae,μ,_,_,_,h,_⟩;cases ae<;>cases h
 ·rintro a w ⟨c,s,ae,μ,_,_,_,h,_⟩;cases ae<;>cases h
theorem Xt7 {P:Program} {T:Ty} {nt n0 j n:Nat} {ops:Array Oper} {L L':List (Nat×AV)} {G G':List (Nat×Obj)} {Q:X2->St->Mu->Prop} {μ:Mu} (hT:X2i P T/\P.follows .mixedOrders=true) (hpre:X2w 0 ops.toList=true)
  (hjl:Nat.ble j ops.size=true) (hbar:Xek j ops.toList=true) (hgd:X85 (ops.toList.take j)=true) (hs:List X2j) {hs':List X2j} {ps':List Prop}
  (h:X8t hz0 P T nt n ⟨ops.toList.take j⟩ (X0k (ops.toList.take j)) ((X0k (ops.toList.take j)).zip ((ops.toList.take j).map hz0)) 0 (ops.toList.take j) L G [] hs []=some (L',G',hs',ps')) (hp':X28 ps')
  (k:X1t P nt n0 ops (ops.toList.drop j) (λs μ=>Q .normal s μ) ⟨fr L',hp G',n+j⟩ μ) (hμ:X7l μ=true):∀ (c0:Ctx) (HH:X3) (c:Ctx) (act:Act),X1r nt c0 HH n0 c ⟨fr L,hp G,n⟩ act->MOk n0 c0 HH c (hp G) μ act->wpAny P .any ops (MQ nt c0 HH n0 Q) ops.size (Array.replicate ops.size false) act { c.w with drawn:=c.w.drawn+1 }:=by
 have hjl':j<=ops.size:=by simpa using hjl
 obtain⟨_,hrun⟩:=Xdf _ _ _ _ _ _ _ _ _ _ _ h hp';obtain⟨rs,hall,hA,hH⟩:=hrun.all (fr L) (hp G) [] (Nat.zero_le _) rfl rfl rfl rfl rfl (λk o r _ hr=>by simp at hr);have hpl:X2w 0 (ops.toList.take j)=true:=by
  have key:∀ (l:List Oper) (i k:Nat),X2w i l=true->X2w i (l.take k)=true:=by
   intro l
   induction l with
   |nil=>intro i k _;simp[X2w]
   |cons a l ih =>
    intro i k h
    cases k with
    |zero=>rfl
    |succ k =>
     simp only[X2w,Bool.and_eq_true,List.take_succ_cons] at h ⊢;exact⟨h.1,ih _ _ h.2⟩
  exact key _ _ _ hpre
 have hlenp:(ops.toList.take j).length=j:=by rw[List.length_take,Array.length_toList];omega
 intro c0 HH c act g0 hm;have g:=g0.rebase.drew;have hz:∀ m k,(Array.replicate m false).getD k false=false:=by
  intro m k;simp only[Array.getD_eq_getD_getElem?,Array.getElem?_replicate];split<;>rfl
 have hfn:∀ m,(λk=>(Array.replicate m false).getD k false)=(λ_=>false):=λm=>funext (hz m);have hM:∀ q,q<n->AtS n (λ_=>false) q:=λq h=>.inl h;have hdg:=Xad (n0:=n0) (Q:=λe s=>e=.normal/\s=⟨fr L',hp G',n+j⟩) hT.1 (ops:=⟨ops.toList.take j⟩) hpl hall ⟨rfl,by rw[hA,hH];congr 1;simp only[hlenp]⟩ (c0:=c) (HH:=hp G) g.le0 j (Array.replicate j false) (List.range j)
  { c with w:={ c.w with drawn:=c.w.drawn+1 } } act (by simp[hlenp]) (by simp) (λk hk _=>List.mem_range.2 (by simpa[hlenp] using hk)) (λi o _ h=>by rw[hz] at h;cases h) (by
   rw[hfn,X3f,X3f];exact⟨g.inv.more hM,g.solo,g.frame,λt=>(g.ok t).mono hM,g.size,g.reach,λq hq=>hM q (Nat.lt_of_lt_of_le hq g.le0)⟩) rfl
 have:=Xex (Q:=MQ nt c0 HH n0 Q) (pre:=⟨ops.toList.take j⟩) (R:=CQ nt c (hp G) n0 act.defers (λe s=>e=.normal/\s=⟨fr L',hp G',n+j⟩)) (j:=j) rfl hjl' hpre hbar hgd
  (by rintro e a w hne ⟨c',s',ae,_,_,_,rfl,rfl,_⟩;exact absurd rfl hne) (ops.size - j) (by
   rintro listed a w hsz hl ⟨c',s',ae,rfl,g',hd',_,rfl,rfl⟩;refine Xew hpre hbar (ops.size - j) j listed a c'.w hsz (Nat.le_refl _) om hl ?_;exact k c0 HH c' a (.join g0.reach g') (hm.kept g'.reach hd') _ (λc2 s2 a2 μ2 g2 hm2 hq=>⟨c2,s2,.normal,μ2,rfl,g2,hm2,rfl,hq⟩) none (λ_=>hμ))
  j (Array.replicate j false) (Array.replicate ops.size false) act { c.w with drawn:=c.w.drawn+1 } (by simp[hlenp]) (by simp) (λk=>by rw[hz,hz];rfl) (λi o _ h=>by rw[hz] at h;cases h) hdg
 rwa [show j+(ops.size - j)=ops.size by omega] at this
theorem X1q.drawnCutF {P:Program} {T:Ty} {nt n0 id j n:Nat} {ops0:Array Oper} {L L':List (Nat×AV)} {G G':List (Nat×Obj)} {Q:X2->St->Mu->Prop} {μ:Mu} (hT:X2i P T/\P.follows .mixedOrders=true)
  {d0 dc src x y:Nat} {o0 oc:Oper} {ts:Array TypeId} (hpre0:X2w 0 ops0.toList=true) (h0:ops0[0]?=some o0) (hop:o0.op=.move (.tmp src)) (hg0:o0.guard=none) (hd0:o0.dst=some d0) (hp0:X3l o0=[])
  (hc:ops0[j]?=some oc) (hc0:j≠0) (hoc:oc.op=.call { callee:=.builtin .copy,args:=#[.tmp x,.tmp y],argTypes:=ts }) (hgc:oc.guard=none) (hdc:oc.dst=some dc) (hne:dc≠d0) (hns:dc≠src) (hx0:x≠d0) (hy0:y≠d0)
  (hgs':(ops0.toList.all λo=>o.guard.isNone)=true) (hall':((List.range ops0.size).all λi=>Nat.beq i 0||Nat.beq i j||((X0k ops0.toList).getD j 0).testBit i||((X0k ops0.toList).getD i 0).testBit 0)=true)
  (hpre:X2w 0 (X0j ops0 j).toList=true)
  (hjl:Nat.ble j (X0j ops0 j).size=true) (hbar:Xek j (X0j ops0 j).toList=true) (hgd:X85 ((X0j ops0 j).toList.take j)=true) (hs:List X2j) {hs':List X2j} {ps':List Prop}
  (h:X8t hz0 P T nt n ⟨(X0j ops0 j).toList.take j⟩ (X0k ((X0j ops0 j).toList.take j)) ((X0k ((X0j ops0 j).toList.take j)).zip (((X0j ops0 j).toList.take j).map hz0)) 0 ((X0j ops0 j).toList.take j) L G [] hs []=some (L',G',hs',ps')) (hp':X28 ps')
  (k:X1t P nt n0 (X0j ops0 j) ((X0j ops0 j).toList.drop j) (λs μ=>Q .normal s μ) ⟨fr L',hp G',n+j⟩ μ) (hμ:X7l μ=true:=by rfl):X1q P nt n0 (.region id ops0 true) Q ⟨fr L,hp G,n⟩ μ:=by
 have hgs:∀ (i:Nat) (o:Oper),ops0[i]?=some o->o.guard=none:=λi o ho=>by
  have:=List.all_eq_true.1 hgs' o (List.mem_of_getElem? (i:=i) (by simpa using ho));simpa using this
 have hall:∀ i,i<ops0.size->i≠0->i≠j->((X0k ops0.toList).getD j 0).testBit i=true\/((X0k ops0.toList).getD i 0).testBit 0=true:=λi hi h1 h2=>by
  have:=List.all_eq_true.1 hall' i (List.mem_range.2 hi);simp only[Bool.or_eq_true,Nat.beq_eq] at this;rcases this with ((h3|h3)|h3)|h3
  ·exact absurd h3 h1
  ·exact absurd h3 h2
  ·exact .inl h3
  ·exact .inr h3
 have hex:∀ (a:Act) v,execOp (a.put (some d0) v).eval oc=execOp a.eval oc:=λa v=>by
  obtain⟨dst,op,type,pos,after,guard⟩:=oc;simp only at hoc;subst hoc;have e1:(a.put (some d0) v).eval (.tmp x)=a.eval (.tmp x):=by simp[Act.put,Act.eval,Array.getD_eq_getD_getElem?,Array.getElem?_setIfInBounds_ne (Ne.symm hx0)]
  have e2:(a.put (some d0) v).eval (.tmp y)=a.eval (.tmp y):=by simp[Act.put,Act.eval,Array.getD_eq_getD_getElem?,Array.getElem?_setIfInBounds_ne (Ne.symm hy0)]
  simp[execOp,resolve,e1,e2]
 have hres:∀ (a:Act) w n w',(execOp a.eval oc).run P w=.ok n w'->∃ v,n=.value v:=λa w n w' hr=>by
  obtain⟨dst,op,type,pos,after,guard⟩:=oc;simp only at hoc;subst hoc;simp[execOp,resolve,invoke,builtin] at hr
  cases hq:Sem.run P (Builtin.copy_ ts type #[a.eval (.tmp x),a.eval (.tmp y)]) w with
  |ok v w2=>rw[hq] at hr;simp at hr;exact⟨v,hr.1.symm⟩
  |halt e w2=>rw[hq] at hr;simp[Result.andThen] at hr
 intro c0 HH c act g hm R0 hR0;refine X4j hT.2 hR0 (by rintro a w ⟨c,s,ae,μ,_,_,_,h,_⟩;cases ae<;>cases h) ?_;refine Xbp (ops:=ops0) (c:=j) X0zl hpre0 h0 hop hg0 hd0 hp0 hc hc0 hgc hdc hne hns hgs hres hex hall ops0.size (Array.replicate ops0.size false) act _ (by simp) (λi o _ hi=>by
  simp only[Array.getD_eq_getD_getElem?,Array.getElem?_replicate] at hi;split at hi<;>cases hi) ?_
 have:=Xt7 (L:=L) (G:=G) (n:=n) hT hpre hjl hbar hgd hs h hp' k hμ c0 HH c act g hm
 rwa [show(X0j ops0 j).size=ops0.size by simp[X0j]] at this
theorem Xk.drawnCutF {P:Program} {T:Ty} {nt n0 id n:Nat} {ops0:Array Oper} {L L':List (Nat×AV)} {G G':List (Nat×Obj)} {K:List Kn} {Q:X2->St->Mu->Prop} {μ:Mu} (j:Nat) (hT:X2i P T/\P.follows .mixedOrders=true) (hs:List X2j) {hs':List X2j} {ps':List Prop}
  {d0 dc src x y:Nat} {o0 oc:Oper} {ts:Array TypeId} (hpre0:X2w 0 ops0.toList=true) (h0:ops0[0]?=some o0) (hop:o0.op=.move (.tmp src)) (hg0:o0.guard=none) (hd0:o0.dst=some d0) (hp0:X3l o0=[])
  (hc:ops0[j]?=some oc) (hc0:j≠0) (hoc:oc.op=.call { callee:=.builtin .copy,args:=#[.tmp x,.tmp y],argTypes:=ts }) (hgc:oc.guard=none) (hdc:oc.dst=some dc) (hne:dc≠d0) (hns:dc≠src) (hx0:x≠d0) (hy0:y≠d0)
  (hgs':(ops0.toList.all λo=>o.guard.isNone)=true) (hall':((List.range ops0.size).all λi=>Nat.beq i 0||Nat.beq i j||((X0k ops0.toList).getD j 0).testBit i||((X0k ops0.toList).getD i 0).testBit 0)=true)
  (hpre:X2w 0 (X0j ops0 j).toList=true)
  (hjl:Nat.ble j (X0j ops0 j).size=true) (hbar:Xek j (X0j ops0 j).toList=true) (hgd:X85 ((X0j ops0 j).toList.take j)=true)
  (h:X8t hz0 P T nt n ⟨(X0j ops0 j).toList.take j⟩ (X0k ((X0j ops0 j).toList.take j)) ((X0k ((X0j ops0 j).toList.take j)).zip (((X0j ops0 j).toList.take j).map hz0)) 0 ((X0j ops0 j).toList.take j) L G [] hs []=some (L',G',hs',ps')) (hp':X28 ps')
  (k:Xk P nt n0 Q (.ops (X0j ops0 j) ((X0j ops0 j).toList.drop j)) K ⟨fr L',hp G',n+j⟩ μ) (hμ:X7l μ=true:=by rfl):Xk P nt n0 Q (.code (.region id ops0 true)) K ⟨fr L,hp G,n⟩ μ :=
 X1q.drawnCutF hT hpre0 h0 hop hg0 hd0 hp0 hc hc0 hoc hgc hdc hne hns hx0 hy0 hgs' hall' hpre hjl hbar hgd hs h hp' k hμ
end Go.Av


namespace Go.Av.X
open Go.Av
variable [Gls]
def Xeo (P:Program) (fi sz:Nat):Prop:=∀ (H:X3) (n o p i:Nat) (es:List AV) (x:AV),H o=some { es:=es,esz:=sz }->H p=some { es:=[x],esz:=sz }->o≠p->i<es.length->(es.length+1)*(8*sz)<=140737488355328 ->
 HC P fi [.ref o 0 es.length,.sc (.int .i64 i),.ref p 0 1] H n (λr H' n'=>r=.ref n 0 (es.length+1)/\H'=upd (upd H o none) n (some { es:=es.take i++x::es.drop i,esz:=sz })/\n'=n+1)
def objB (y:Obj) (sz:Nat):Bool:=Nat.beq y.esz sz&&(!y.spent&&(y.solo&&!y.gone))
theorem Xc1 {y:Obj} {sz:Nat} (h:objB y sz=true):y={ es:=y.es,esz:=sz }:=by
 simp only[objB,Bool.and_eq_true,Bool.not_eq_true',Nat.beq_eq] at h;obtain⟨h1,h2,h3,h4⟩:=h;cases y
 simp only at h1 h2 h3 h4;subst h1;subst h2;subst h3;subst h4;rfl
noncomputable def insC (y z:Obj) (o p len i sz:Nat):Bool :=
 objB y sz&&(objB z sz&&(Nat.beq y.es.length len&&(Nat.beq z.es.length 1&&(!Nat.beq o p&&(Nat.blt i len&&Nat.ble ((len+1)*(8*sz)) 140737488355328)))))
noncomputable def insR (sz:Nat) (as:List AV) (H:HX) (n:Nat) (no:Prop) (k:AV->HX->Nat->Prop):Prop :=
 match as with
 |[.ref o 0 len,.sc (.int .i64 (.ofNat i)),.ref p 0 1]=>match hpX H o with
  |some y=>match hpX H p with
   |some z=>Bool.rec (motive:=λ_=>Prop) no (fO sh { es:=y.es.take i++z.es++y.es.drop i,esz:=sz } λw=>X1o H o none λH=>X1o H n (some w) λH=>k (.ref n 0 (len+1)) H (n+1)) (insC y z o p len i sz)
   |none=>no
  |none=>no
 |_=>no
noncomputable def insX (fi sz:Nat) (nx:X4o):X4o:=λf as H n k =>
 Bool.rec (motive:=λ_=>Prop) (nx f as H n k) (insR sz as H n (nx f as H n k) k) (Nat.beq f fi)
theorem Xg6 {P:Program} {fi sz:Nat} {nx:X4o} (hI:Xeo P fi sz) (hn:X3n P nx):X3n P (insX fi sz nx):=by
 intro f as H n k h;unfold insX at h
 cases hb:Nat.beq f fi with
 |false=>rw[hb] at h;exact hn _ _ _ _ _ h
 |true =>
  rw[hb] at h;obtain rfl:=Nat.eq_of_beq_eq_true hb;have h:insR sz as H n (nx f as H n k) k:=h;unfold insR at h;split at h
  ·rename_i o len i p _;split at h
   ·rename_i y hy;split at h
    ·rename_i z hz
     cases hc:insC y z o p len i sz with
     |false=>rw[hc] at h;exact hn _ _ _ _ _ h
     |true =>
      rw[hc] at h;have h:fO sh { es:=y.es.take i++z.es++y.es.drop i,esz:=sz } (λw=>X1o H o none λH=>X1o H n (some w) λH=>k (.ref n 0 (len+1)) H (n+1)):=h;rw[X58 X3k] at h;simp only[insC,Bool.and_eq_true,Bool.not_eq_true',Nat.beq_eq,Nat.blt_eq,Nat.ble_eq] at hc;obtain⟨c1,c2,c3,c4,c5,c6,c7⟩:=hc;obtain⟨H1,e1,h⟩:=X1j h;obtain⟨H2,e2,h⟩:=X1j h;obtain⟨x,hx⟩:∃ x,z.es=[x]:=by
       match hq:z.es,c4 with
       |[x],_=>exact⟨x,rfl⟩
      subst c3;refine⟨_,H2,n+1,(hI (hpX H) n o p i y.es x (by rw[hy,Xc1 c1]) (by rw[hz,Xc1 c2,hx]) (Nat.ne_of_beq_eq_false c5) c6 c7).mono λr H' n' ⟨g1,g2,g3⟩=>⟨g1,?_,g3⟩,h⟩;rw[g2,e2,e1,hx];simp
    ·exact hn _ _ _ _ _ h
   ·exact hn _ _ _ _ _ h
  ·exact hn _ _ _ _ _ h
noncomputable def Xjr (T:Ty) (X:Nat->Option (List AV->Option AV)) (E:Env) (M:Nat->Option Xa) (fi sz fuel d:Nat):Xel :=
 Nat.rec (motive:=λ_=>Xel) (λ_ _ _ _ _ _=>stk 102) (λ_ ih yo=>Option.rec (motive:=λ_=>X4o) (insX fi sz (meX M (X75 T X E fuel ih none))) (λyc=>X75 T X E fuel ih (some yc)) yo) d
theorem Xjq {P:Program} {T:Ty} {X:Nat->Option (List AV->Option AV)} {E:Env} {M:Nat->Option Xa} {fi sz fuel:Nat} (hm:P.follows .mixedOrders=true) (hX:Xaj P X) (hT:X2i P T) (hE:X9b P E) (hM:X8y P M) (hI:Xeo P fi sz):∀ d,X3n P (Xjr T X E M fi sz fuel d none)/\X9v P (Xjr T X E M fi sz fuel d):=by
 intro d
 induction d with
 |zero =>
  refine⟨?_,?_⟩
  ·intro f as H n k h;cases h
  ·intro yc f caps H n k d _ h;cases h
 |succ m ih =>
  obtain⟨h1,h2⟩:=X5s (fuel:=fuel) hm hX hT hE ih.1 ih.2;exact⟨Xg6 hI (Xft hM h1),λyc f caps H n k d hy h=>h2 yc f caps H n k d hy h⟩
theorem Xfh {P:Program} {T:Ty} {X:Nat->Option (List AV->Option AV)} {E:Env} {M:Nat->Option Xa} {fi sz fuel d f:Nat} {as:List AV} {r:AV} (hm:P.follows .mixedOrders=true) (hX:Xaj P X) (hT:X2i P T) (hE:X9b P E) (hM:X8y P M) (hI:Xeo P fi sz)
  (h:X75 T X E fuel (Xjr T X E M fi sz fuel d) none f as g8 0 (λa H _=>wkO (cvF true (hpX H) 100 a) r=true)=(true=true)):X32 P f as r:=by
 have ok:=Xjq (fuel:=fuel) hm hX hT hE hM hI d;obtain⟨r',H',n',h1,h2⟩:=(X5s (fuel:=fuel) hm hX hT hE ok.1 ok.2).1 _ _ _ _ _ (cast h.symm rfl);rw[X7o] at h1;obtain⟨a',e1,e2⟩:=Xey h2;exact X32.weaken (X32.of_hc h1 (X56 _ _ _ e1)) e2
end Go.Av.X


namespace Go.Av.X
open Go.Av
variable [Gls]
def Xjz (P:Program) (fd sz:Nat):Prop:=∀ (H:X3) (n o i:Nat) (es:List AV),H o=some { es:=es,esz:=sz }->i<es.length->es.length+1<=4611686018427387904 ->
 HC P fd [.ref o 0 es.length,.sc (.int .i64 i),.sc (.int .i64 (i+1))] H n (λr H' n'=>r=.ref n 0 (es.length - 1)/\H'=upd (upd H o none) n (some { es:=es.take i++es.drop (i+1),esz:=sz })/\n'=n+1)
noncomputable def delC (y:Obj) (len i j sz:Nat):Bool :=
 objB y sz&&(Nat.beq y.es.length len&&(Nat.blt i len&&(Nat.beq j (i+1)&&Nat.ble (len+1) 4611686018427387904)))
noncomputable def delR (sz:Nat) (as:List AV) (H:HX) (n:Nat) (no:Prop) (k:AV->HX->Nat->Prop):Prop :=
 match as with
 |[.ref o 0 len,.sc (.int .i64 (.ofNat i)),.sc (.int .i64 (.ofNat j))]=>match hpX H o with
  |some y=>Bool.rec (motive:=λ_=>Prop) no (fO sh { es:=y.es.take i++y.es.drop (i+1),esz:=sz } λw=>X1o H o none λH=>X1o H n (some w) λH=>k (.ref n 0 (len - 1)) H (n+1)) (delC y len i j sz)
  |none=>no
 |_=>no
noncomputable def delX (fd sz:Nat) (nx:X4o):X4o:=λf as H n k =>
 Bool.rec (motive:=λ_=>Prop) (nx f as H n k) (delR sz as H n (nx f as H n k) k) (Nat.beq f fd)
theorem Xsp {P:Program} {fd sz:Nat} {nx:X4o} (hI:Xjz P fd sz) (hn:X3n P nx):X3n P (delX fd sz nx):=by
 intro f as H n k h;unfold delX at h
 cases hb:Nat.beq f fd with
 |false=>rw[hb] at h;exact hn _ _ _ _ _ h
 |true =>
  rw[hb] at h;obtain rfl:=Nat.eq_of_beq_eq_true hb;have h:delR sz as H n (nx f as H n k) k:=h;unfold delR at h;split at h
  ·rename_i o len i j _;split at h
   ·rename_i y hy
    cases hc:delC y len i j sz with
    |false=>rw[hc] at h;exact hn _ _ _ _ _ h
    |true =>
     rw[hc] at h;have h:fO sh { es:=y.es.take i++y.es.drop (i+1),esz:=sz } (λw=>X1o H o none λH=>X1o H n (some w) λH=>k (.ref n 0 (len - 1)) H (n+1)):=h;rw[X58 X3k] at h;simp only[delC,Bool.and_eq_true,Nat.beq_eq,Nat.blt_eq,Nat.ble_eq] at hc;obtain⟨c1,c3,c6,c8,c7⟩:=hc;obtain⟨H1,e1,h⟩:=X1j h;obtain⟨H2,e2,h9⟩:=X1j h;subst c3;subst c8;refine⟨_,H2,n+1,(hI (hpX H) n o i y.es (by rw[hy,Xc1 c1]) c6 c7).mono λr H' n' ⟨g1,g2,g3⟩=>⟨g1,?_,g3⟩,h9⟩;rw[g2,e2,e1]
   ·exact hn _ _ _ _ _ h
  ·exact hn _ _ _ _ _ h
noncomputable def Xjp (T:Ty) (X:Nat->Option (List AV->Option AV)) (E:Env) (M:Nat->Option Xa) (fi fd sz fuel d:Nat):Xel :=
 Nat.rec (motive:=λ_=>Xel) (λ_ _ _ _ _ _=>stk 102) (λ_ ih yo=>Option.rec (motive:=λ_=>X4o) (insX fi sz (delX fd sz (meX M (X75 T X E fuel ih none)))) (λyc=>X75 T X E fuel ih (some yc)) yo) d
theorem Xjo {P:Program} {T:Ty} {X:Nat->Option (List AV->Option AV)} {E:Env} {M:Nat->Option Xa} {fi fd sz fuel:Nat} (hm:P.follows .mixedOrders=true) (hX:Xaj P X) (hT:X2i P T) (hE:X9b P E) (hM:X8y P M) (hI:Xeo P fi sz) (hD:Xjz P fd sz):∀ d,X3n P (Xjp T X E M fi fd sz fuel d none)/\X9v P (Xjp T X E M fi fd sz fuel d):=by
 intro d
 induction d with
 |zero =>
  refine⟨?_,?_⟩
  ·intro f as H n k h;cases h
  ·intro yc f caps H n k d _ h;cases h
 |succ m ih =>
  obtain⟨h1,h2⟩:=X5s (fuel:=fuel) hm hX hT hE ih.1 ih.2;exact⟨Xg6 hI (Xsp hD (Xft hM h1)),λyc f caps H n k d hy h=>h2 yc f caps H n k d hy h⟩
theorem Xfg {P:Program} {T:Ty} {X:Nat->Option (List AV->Option AV)} {E:Env} {M:Nat->Option Xa} {fi fd sz fuel d f:Nat} {as:List AV} {r:AV} (hm:P.follows .mixedOrders=true) (hX:Xaj P X) (hT:X2i P T) (hE:X9b P E) (hM:X8y P M) (hI:Xeo P fi sz) (hD:Xjz P fd sz)
  (h:X75 T X E fuel (Xjp T X E M fi fd sz fuel d) none f as g8 0 (λa H _=>wkO (cvF true (hpX H) 100 a) r=true)=(true=true)):X32 P f as r:=by
 have ok:=Xjo (fuel:=fuel) hm hX hT hE hM hI hD d;obtain⟨r',H',n',h1,h2⟩:=(X5s (fuel:=fuel) hm hX hT hE ok.1 ok.2).1 _ _ _ _ _ (cast h.symm rfl);rw[X7o] at h1;obtain⟨a',e1,e2⟩:=Xey h2;exact X32.weaken (X32.of_hc h1 (X56 _ _ _ e1)) e2
end Go.Av.X


namespace Go.Av
open Go.ChangeShapes Go.RowKit
section
variable {H:Type} {enc:TypeId×Value->H} {P:Program} {w:World}
theorem law_contractG [Gls] {f:Nat} {fn:Func} {s:ChangeSpec} {n tb:Nat} (hl:laidOutB P=true) (hpl:∀ t∈fn.params.toList,plainTy P n t=true)
  (hrd:∀ t∈fn.params.toList,P.readableRec t=true/\t<P.types.size) (hres:fn.resultTypes=#[tb]) (htb:P.underlying tb=some .bool) (hsv:s.vars=[])
  (hs:∀ ds:List (DataW H),ds.length=fn.params.size->s.fn H ds={ results:=[.lit (.bool true)],args:=ds })
  (hp:∀ as,Xdn (λt a=>X6b P n t a) fn.params.toList as->X32 P f as (.sc (.bool true)))
  (W:World) (hG:GF (lawCtx W)) (base:Nat) (args:Array Value) (ds gs:List (DataW H)) (before:List MemPlace)
  (hval:∀ (j:Nat) t v,fn.params[j]?=some t->args[j]?=some v->Value.okWide P W .any base t v)
  (hW:DataW.Whole enc P fn.params.toList s.vars false W args.toList ds gs before) :
  Calls P f args W λe W'=>∃ v,e=.returned v/\s.post enc P fn false true false false W args v W':=by
 have hlt:=hW.lt;have hW0:=hW;obtain⟨p,q,hA,hV,rfl,hfz,hnd⟩:=hW;rw[hsv] at hV;obtain⟨rfl,rfl⟩:=trodVars_none hV;simp only[List.append_nil] at hlt hW0;have hlen:ds.length=fn.params.size:=by
  have:∀ (ts:List Nat) (vs:List Value) (ds:List (DataW H)) (ps:List MemPlace),DataW.TrodAll enc P W 0 (λ_=>true) true ts vs ds ps->ds.length=ts.length:=by
   intro ts
   induction ts with
   |nil=>intro vs ds ps h;cases vs<;>cases ds<;>simp_all [DataW.TrodAll]
   |cons t ts ih =>
    intro vs ds ps h
    cases vs with
    |nil=>simp[DataW.TrodAll] at h
    |cons v vs=>cases ds with
     |nil=>simp[DataW.TrodAll] at h
     |cons d ds=>simp only[DataW.TrodAll] at h;obtain⟨_,q,_,h2,_⟩:=h;simp[ih vs ds q h2]
  simpa using this _ _ _ _ hA
 obtain⟨as,h1,h2,h3⟩:=X6i (n:=n) fn.params.toList args.toList ds p hpl (λj t v hj hv=>by
  have:=hval j t v (by simpa using hj) (by simpa using hv);exact Value.okWide_any_base this) hA
 have hrel:X48 (lawCtx W) true as args:=⟨by simpa using h2,λi a v ha hv=>h3 i a v ha (by simpa using hv)⟩;refine((hp as h1).2 W (λb=>b<W.heap.size) args (λb hb=>hb) hG hrel).mono ?_;rintro e W' ⟨v,rfl,hv,hb⟩;have hvt:v=.bool true:=hv.sc_inv;subst hvt;refine⟨_,rfl,ds,[],p,[],p,[],hW0,?_,?_,?_,?_,λh=>by cases h⟩
 ·rw[List.append_nil,hs ds hlen,hres];exact trodAll_cons_mk (shut_bool htb _) trodAll_mk0
 ·rw[List.append_nil,hs ds hlen];exact X6h hl hb.toBelow _ _ _ _ hrd hlt hA
 ·rw[List.append_nil,hs ds hlen,hsv];simp[DataW.TrodVars]
 ·exact hb.frame _
end
theorem byteRow_of_laid {P:Program} {name:String} {g t tb n:Nat} {l:List (String×DataW Unit)} {zs:List Int} {W:World} (h:laidMetH P l W)
  (hf:l.filter (λx=>x.1==name)=[(name,.agg (zs.map λz=>.lit (.int .u8 z)))]) (hh:((DataW.agg (zs.map λz=>.lit (.int .u8 z)):DataW Unit).handleName?)=none)
  (hg:P.globalNamed name=some g) (ht:(P.globals[g]?).map (·.type)=some t) (hu:P.underlying t=some (.array n tb)) (hb:P.underlying tb=some (.int .u8)) (hc:P.cellsOf tb=1) (hn:zs.length=n) :
  ∀ (k:Nat) v,(zs.map λz=>Value.int .u8 z)[k]?=some v->W.cell? ⟨g,k,none⟩=some v/\v.oneCell'=true:=by
 have h1:=h.filter λx=>x.1==name;rw[hf] at h1;rw[MakeChecks.laidMetH_plain _ _ _ (by simp[hh])] at h1;obtain⟨ps,⟨g0,t0,cs,fuel,p,q,hg0,ht0,hv,hd,_,_⟩,_,_⟩:=h1;obtain rfl:=Option.some.inj (hg.symm.trans hg0);obtain rfl:=Option.some.inj (ht.symm.trans ht0);obtain⟨xs,m,_,ex,_,hl,hel⟩:=DataW.trod_array hu hd;intro r v hr;have hr1:r<zs.length:=by simpa using(List.getElem?_eq_some_iff.1 hr).1
 have hE:=hel r om;rw[hc,Nat.mul_one,List.getElem?_eq_getElem om] at hE;obtain⟨z,e1,e2,_⟩:=DataW.trod_int hb hE;have e3:(xs.map (·.1))=zs.map λz=>.lit (.int .u8 z):=(DataW.agg.inj (Prod.mk.inj ex).1).symm;have e4:(xs.map (·.1))[r]?=(zs.map λz=>(DataW.lit (.int .u8 z):DataW Unit))[r]?:=by rw[e3]
 rw[List.getElem?_map,List.getElem?_map,List.getElem?_eq_getElem (by omega:r<xs.length),List.getElem?_eq_getElem hr1,e2] at e4;have hz:z=zs[r]:=by simpa using e4
 rw[List.getElem?_map,List.getElem?_eq_getElem hr1] at hr;have hv':v=.int .u8 z:=by rw[hz];exact(Option.some.inj hr).symm
 subst hv';refine⟨?_,rfl⟩;rw[World.var?_cell hg hv r];have:cs.toList[r]?=some (.int .u8 z):=by
  have h0:((cs.toList.drop r).take 1)[0]?=some (.int .u8 z):=by rw[e1];rfl
  simpa using h0
 simpa using this
theorem goesBy_none {P:Program} {c:OpenClaim} (h:P.funcs.any Func.goes=false) (hs:c.start=.entering):false=c.goesBy P:=by
 have h1:∀ g:Nat,(P.funcs[g]?).any Func.goes=false:=by
  intro g
  cases hg:P.funcs[g]? with
  |none=>rfl
  |some fn =>
   obtain⟨hlt,he⟩:=Array.getElem?_eq_some_iff.1 hg;have:=(Array.any_eq_false.1 h) g hlt;rw[he] at this;simpa using this
 have h2:∀ f,P.goes f=false:=by
  intro f;unfold Program.goes;rw[h,Bool.and_false,Bool.or_false];simp only[h1];simp
 unfold OpenClaim.goesBy Program.goesAt Program.goesFrom;rw[hs]
 cases P.funcNamed c.func with
 |none=>rfl
 |some f=>simp[h2]
end Go.Av
