/- Parts of the proof, laid together. -/
import Derived.Test.YtmodjehiebcejaaGreatDoorAvb
import Derived.Laws.Strings
import Derived.RangeFuncLeaves
import Derived.IntWalk
import Derived.Lib.ConvBytes
import Derived.Lib.Bytealg
import Derived.Laws.Externs
set_option linter.all false

namespace Go.Av.X
variable [Gls]
open Go.Av
noncomputable def kn:IntKind->Nat:=IntKind.rec (motive:=λ_=>Nat) 0 1 2 3 4 5 6 7
theorem Xg0 {k k':IntKind} (h:Nat.beq (kn k) (kn k')=true):k=k':=by
 cases k<;>cases k'<;>first|rfl|cases h
noncomputable def ltZ (a b:Int):Bool :=
 Int.rec (motive:=λ_=>Int->Bool) (λm b=>Int.rec (motive:=λ_=>Nat->Bool) (λn m=>Nat.ble (Nat.succ m) n) (λ_ _=>false) b m) (λm b=>Int.rec (motive:=λ_=>Nat->Bool) (λ_ _=>true) (λn m=>Nat.ble (Nat.succ n) m) b m) a b
theorem Xo4 (a b:Int):ltZ a b=true↔a<b:=by
 cases a<;>cases b
 ·show Nat.ble _ _=true↔_;rw[Nat.ble_eq];simp only[Int.ofNat_eq_natCast];omega
 ·show false=true↔_;constructor
  ·intro h;cases h
  ·intro h;simp only[Int.ofNat_eq_natCast] at h;omega
 ·refine⟨λ_=>?_,λ_=>rfl⟩;simp only[Int.ofNat_eq_natCast];omega
 ·show Nat.ble _ _=true↔_;rw[Nat.ble_eq];omega
theorem Xd3 (a b:Int):ltZ a b=decide (a<b):=by
 rw[Bool.eq_iff_iff,Xo4,decide_eq_true_iff]
noncomputable def eqZ (a b:Int):Bool :=
 Int.rec (motive:=λ_=>Int->Bool) (λm b=>Int.rec (motive:=λ_=>Nat->Bool) (λn m=>Nat.beq m n) (λ_ _=>false) b m) (λm b=>Int.rec (motive:=λ_=>Nat->Bool) (λ_ _=>false) (λn m=>Nat.beq m n) b m) a b
theorem Xgm (a b:Int):eqZ a b=true↔a=b:=by
 cases a<;>cases b
 ·show Nat.beq _ _=true↔_;rw[Nat.beq_eq];simp only[Int.ofNat_eq_natCast];omega
 ·show false=true↔_;constructor<;>intro h<;>cases h
 ·show false=true↔_;constructor<;>intro h<;>cases h
 ·show Nat.beq _ _=true↔_;rw[Nat.beq_eq];omega
theorem Xku (a b:Int):eqZ a b=(a==b):=by
 rw[Bool.eq_iff_iff,Xgm,beq_iff_eq]
noncomputable def lim:IntKind->Nat:=IntKind.rec (motive:=λ_=>Nat) 127 32767 2147483647 9223372036854775807 255 65535 4294967295 18446744073709551615
noncomputable def limN:IntKind->Nat->Bool:=IntKind.rec (motive:=λ_=>Nat->Bool) (λ_=>false) (λ_=>false) (λ_=>false) (λn=>Nat.ble n 9223372036854775807) (λ_=>false) (λ_=>false) (λ_=>false) (λ_=>false)
noncomputable def wr0 (n:Nat) (k:IntKind):Int:=k.wrap (.ofNat n)
noncomputable def wr1 (n:Nat) (_:IntKind):Int:=.ofNat n
noncomputable def wr2 (n:Nat) (k:IntKind):Int:=k.wrap (.negSucc n)
noncomputable def wr3 (n:Nat) (_:IntKind):Int:=.negSucc n
noncomputable def wrP (n:Nat) (k:IntKind):Int:=Bool.rec (motive:=λ_=>Nat->IntKind->Int) wr0 wr1 (Nat.ble n (lim k)) n k
noncomputable def wrN (n:Nat) (k:IntKind):Int:=Bool.rec (motive:=λ_=>Nat->IntKind->Int) wr2 wr3 (limN k n) n k
noncomputable def wrX (k:IntKind) (z:Int):Int:=Int.rec (motive:=λ_=>IntKind->Int) wrP wrN z k
theorem Xev (k:IntKind) (z:Int):wrX k z=k.wrap z:=by
 cases z with
 |ofNat n =>
  show wrP n k=_;unfold wrP
  cases hb:Nat.ble n (lim k) with
  |false=>rfl
  |true =>
   show Int.ofNat n=_;rw[Nat.ble_eq] at hb;have hl:∀ k:IntKind,lim k=IntKind.rec (motive:=λ_=>Nat) 127 32767 2147483647 9223372036854775807 255 65535 4294967295 18446744073709551615 k:=λ_=>rfl;rw[hl] at hb;cases k<;>dsimp only at hb<;>simp only[IntKind.wrap,IntKind.bits,IntKind.signed]<;>simp<;>omega
 |negSucc n =>
  show wrN n k=_;unfold wrN
  cases hb:limN k n with
  |false=>rfl
  |true =>
   have h2:k=.i64/\n<=9223372036854775807:=by
    cases k<;>first|(cases hb;done)|(have hb:Nat.ble n 9223372036854775807=true:=hb;rw[Nat.ble_eq] at hb;exact⟨rfl,hb⟩)
   obtain⟨rfl,hb⟩:=h2;show Int.negSucc n=_;have hz:∃ z:Int,z=.negSucc n /\ -9223372036854775808<=z/\z<0:=⟨_,rfl,by omega,by omega⟩;obtain⟨z,hz,h1,h2⟩:=hz;rw[<-hz];simp only[IntKind.wrap,IntKind.bits,IntKind.signed];simp;omega
noncomputable def iX (op:BinOp) (k:IntKind) (a b:Int):Option AV :=
 match op with
 |.add=>some (.sc (.int k (wrX k (Int.add a b))))
 |.sub=>some (.sc (.int k (wrX k (Int.sub a b))))
 |.mul=>some (.sc (.int k (wrX k (Int.mul a b))))
 |.eql=>some (.sc (.bool (eqZ a b)))
 |.neq=>some (.sc (.bool (Bool.not (eqZ a b))))
 |.lss=>some (.sc (.bool (ltZ a b)))
 |.leq=>some (.sc (.bool (Bool.not (ltZ b a))))
 |.gtr=>some (.sc (.bool (ltZ b a)))
 |.geq=>some (.sc (.bool (Bool.not (ltZ a b))))
 |_=>none
theorem X070 {T:Ty} {ev:Operand->AV} {H:X3} {op:BinOp} {t yt:Nat} {x y:Operand} {k:IntKind} {a b:Int} {r:AV} (hx:ev x=.sc (.int k a)) (hy:ev y=.sc (.int k b)) (h:iX op k a b=some r):Pu T ev H (.binOp op t x y yt) r:=by
 have n1:∀ a b:Int,(!(decide (b<a)))=decide (a<=b):=by
  intro a b;rw[Bool.eq_iff_iff];simp
 unfold iX at h;split at h
 ·cases h;rw[Xev];exact .binInt hx hy rfl
 ·cases h;rw[Xev];exact .binInt hx hy rfl
 ·cases h;rw[Xev];exact .binInt hx hy rfl
 ·cases h;rw[Xku];exact .binInt hx hy rfl
 ·cases h;rw[Xku];exact .binInt hx hy rfl
 ·cases h;rw[Xd3];exact .binInt hx hy rfl
 ·cases h;rw[Xd3,n1];exact .binInt hx hy rfl
 ·cases h;rw[Xd3];exact .binInt hx hy rfl
 ·cases h;rw[Xd3,n1];exact .binInt hx hy rfl
 ·cases h
noncomputable def eqY (x:List UInt8):List UInt8->Bool :=
 List.rec (motive:=λ_=>List UInt8->Bool) (λy=>List.rec (motive:=λ_=>Bool) true (λ_ _ _=>false) y) (λa _ ih y=>List.rec (motive:=λ_=>Bool) false (λb y _=>Bool.rec (motive:=λ_=>Bool) false (ih y) (Nat.beq a.toNat b.toNat)) y) x
theorem Xgn:∀ x y:List UInt8,eqY x y=true↔x=y:=by
 intro x
 induction x with
 |nil=>intro y;cases y with
  |nil=>exact⟨λ_=>rfl,λ_=>rfl⟩
  |cons b y=>exact⟨λh=>(by cases h),λh=>(by cases h)⟩
 |cons a x ih=>intro y;cases y with
  |nil=>exact⟨λh=>(by cases h),λh=>(by cases h)⟩
  |cons b y =>
   show Bool.rec (motive:=λ_=>Bool) false (eqY x y) (Nat.beq a.toNat b.toNat)=true↔_
   cases hb:Nat.beq a.toNat b.toNat with
   |true =>
    have:a=b:=UInt8.toNat_inj.1 (Nat.eq_of_beq_eq_true hb);subst this;show eqY x y=true↔_;rw[ih];simp
   |false =>
    constructor
    ·intro h;cases h
    ·intro h;cases h;rw[Nat.beq_refl] at hb;cases hb
theorem Xhk (a b:ByteArray):a++b=⟨⟨a.data.toList++b.data.toList⟩⟩:=by
 apply ByteArray.ext;rw[ByteArray.data_append];apply Array.ext';simp
noncomputable def sX (op:BinOp) (a b:ByteArray):Option AV :=
 match op with
 |.eql=>some (.sc (.bool (eqY a.data.toList b.data.toList)))
 |.neq=>some (.sc (.bool (Bool.not (eqY a.data.toList b.data.toList))))
 |.lss=>some (.sc (.bool (Op.bytesLess a.data.toList b.data.toList)))
 |.geq=>some (.sc (.bool (Bool.not (Op.bytesLess a.data.toList b.data.toList))))
 |.add=>bif Nat.blt (a.data.toList.length+b.data.toList.length) 4611686018427387904 then some (.sc (.string ⟨⟨a.data.toList++b.data.toList⟩⟩)) else none
 |_=>none
theorem X0l1 {T:Ty} {ev:Operand->AV} {H:X3} {op:BinOp} {t yt:Nat} {x y:Operand} {a b:ByteArray} {r:AV} (hx:ev x=.sc (.string a)) (hy:ev y=.sc (.string b)) (h:sX op a b=some r):Pu T ev H (.binOp op t x y yt) r:=by
 have e:eqY a.data.toList b.data.toList=(a.toList==b.toList):=by
  rw[Bool.eq_iff_iff,Xgn,beq_iff_eq,ByteArray.toList_eq,ByteArray.toList_eq]
 unfold sX at h;split at h
 ·cases h;rw[e];exact .binStr hx hy rfl
 ·cases h;rw[e];exact .binStr hx hy rfl
 ·cases h;rw[<-ByteArray.toList_eq,<-ByteArray.toList_eq];exact .binStr hx hy rfl
 ·cases h;rw[<-ByteArray.toList_eq,<-ByteArray.toList_eq];exact .binStr hx hy rfl
 ·cases hb:Nat.blt (a.data.toList.length+b.data.toList.length) 4611686018427387904 with
  |false=>rw[hb,cond_false] at h;cases h
  |true =>
   rw[hb,cond_true] at h;cases h;rw[<-Xhk];refine .catStr hx hy ?_;have:a.data.toList.length+b.data.toList.length<4611686018427387904:=by simpa using hb
   simpa using this
 ·cases h
noncomputable def slR (T:Ty) (ev:Operand->AV) (H:X3) (t o off len:Nat) (lo hi:Option Operand):Option AV :=
 match X1v T t with
 |some te=>match bdF ev lo 0,bdF ev hi len with
  |some l,some h=>bif Nat.beq l 0&&Nat.ble h len then some (.ref o (off+l) (h - l)) else
   bif Nat.blt l h then (match H o with
    |some y=>bif Nat.beq y.esz te.size&&(Nat.ble h len||Nat.ble (off+h) y.es.length) then some (.ref o (off+l) (h - l)) else none
    |none=>none)
   else bif Nat.beq l h&&Nat.ble h len then some (.list true []) else none
  |_,_=>none
 |none=>none
theorem X00q {T:Ty} {ev:Operand->AV} {H:X3} {t o off len:Nat} {x:Operand} {lo hi:Option Operand} {r:AV} (hx:ev x=.ref o off len) (h:slR T ev H t o off len lo hi=some r):Pu T ev H (.slice t x lo hi none) r:=by
 unfold slR at h;split at h
 ·rename_i te hs;obtain⟨ti,et,h1,h2,h3⟩:=X0i hs;split at h
  ·rename_i l hh hl hhh;have b1:=X2f hl;have b2:=X2f hhh
   cases c1:(Nat.beq l 0&&Nat.ble hh len) with
   |true =>
    rw[c1,cond_true] at h;cases h;simp only[Bool.and_eq_true,Nat.beq_eq,Nat.ble_eq] at c1;exact .sliceRefZ hx b1 b2 c1.1 c1.2 h1 h2 h3
   |false =>
    rw[c1,cond_false] at h
    cases c2:Nat.blt l hh with
    |true =>
     rw[c2,cond_true] at h;split at h
     ·rename_i y hy
      cases c3:(Nat.beq y.esz te.size&&(Nat.ble hh len||Nat.ble (off+hh) y.es.length)) with
      |true =>
       rw[c3,cond_true] at h;cases h;simp only[Bool.and_eq_true,Bool.or_eq_true,Nat.beq_eq,Nat.ble_eq] at c3;have c2':l<hh:=by simpa using c2
       exact .sliceRefV hx b1 b2 (Nat.le_of_lt c2') (.inr c2') hy c3.2 h1 h2 h3 c3.1
      |false=>rw[c3,cond_false] at h;cases h
     ·cases h
    |false =>
     rw[c2,cond_false] at h
     cases c3:(Nat.beq l hh&&Nat.ble hh len) with
     |true =>
      rw[c3,cond_true] at h;cases h;simp only[Bool.and_eq_true,Nat.beq_eq,Nat.ble_eq] at c3;obtain⟨rfl,c4⟩:=c3;exact .sliceRef0 hx b1 b2 c4 h1 h2 h3
     |false=>rw[c3,cond_false] at h;cases h
  ·cases h
 ·cases h
theorem Xec (s:ByteArray) (l h:Nat):s.extract l h=⟨⟨(s.data.toList.drop l).take (h - l)⟩⟩:=by
 apply ByteArray.ext;rw[ByteArray.data_extract];apply Array.ext';simp[Array.toList_extract,List.extract_eq_take_drop]
noncomputable def slS (T:Ty) (ev:Operand->AV) (t:Nat) (s:ByteArray) (lo hi:Option Operand):Option AV :=
 match T t with
 |some ti=>match ti.kind with
  |.string=>match bdF ev lo 0,bdF ev hi s.data.toList.length with
   |some l,some h=>bif Nat.ble l h&&Nat.ble h s.data.toList.length then some (.sc (.string ⟨⟨(s.data.toList.drop l).take (h - l)⟩⟩)) else none
   |_,_=>none
  |_=>none
 |none=>none
theorem X00p {T:Ty} {ev:Operand->AV} {H:X3} {t:Nat} {x:Operand} {s:ByteArray} {lo hi:Option Operand} {r:AV} (hx:ev x=.sc (.string s)) (h:slS T ev t s lo hi=some r):Pu T ev H (.slice t x lo hi none) r:=by
 unfold slS at h;split at h
 ·rename_i ti ht;split at h
  ·rename_i hk;split at h
   ·rename_i l hh hl hhh
    cases c:(Nat.ble l hh&&Nat.ble hh s.data.toList.length) with
    |false=>rw[c,cond_false] at h;cases h
    |true =>
     rw[c,cond_true] at h;cases h;simp only[Bool.and_eq_true,Nat.ble_eq] at c;have hs:s.data.toList.length=s.size:=by simp
     rw[hs] at hhh c;rw[<-Xec];exact .sliceStr hx (X2f hl) (X2f hhh) c.1 c.2 ht hk
   ·cases h
  ·cases h
 ·cases h
theorem getY (s:ByteArray) (n:Nat):s[n]?=s.data.toList[n]?:=by
 by_cases h:n<s.size
 ·rw[getElem?_pos s n h,List.getElem?_eq_getElem (by simpa using h)];rfl
 ·rw[getElem?_neg s n h,List.getElem?_eq_none (by simpa using h)]
noncomputable def ixS (T:Ty) (t:Nat) (s:ByteArray) (i:Int):Option AV :=
 match T t with
 |some ti=>match ti.kind with
  |.string=>Int.rec (motive:=λ_=>Option AV) (λn=>match s.data.toList[n]? with
   |some b=>some (.sc (.int .u8 (.ofNat b.toNat)))
   |none=>none) (λ_=>none) i
  |_=>none
 |none=>none
theorem Xg2 {T:Ty} {ev:Operand->AV} {H:X3} {t:Nat} {x ix:Operand} {s:ByteArray} {k:IntKind} {i:Int} {r:AV} (hx:ev x=.sc (.string s)) (hi:ev ix=.sc (.int k i)) (h:ixS T t s i=some r):Pu T ev H (.index t x ix) r:=by
 unfold ixS at h;split at h
 ·rename_i ti ht;split at h
  ·rename_i hk
   cases i with
   |ofNat n =>
    have h:(match s.data.toList[n]? with
     |some b=>some (AV.sc (.int .u8 (.ofNat b.toNat)))
     |none=>none)=some r:=h
    split at h
    ·rename_i b hb;cases h
     refine .indexStr hx hi (Int.natCast_nonneg n) ht hk ?_;show s[n]?=some b;rw[<-hb];exact getY s n
    ·cases h
   |negSucc n=>cases h
  ·cases h
 ·cases h
noncomputable def nX (T:Ty) (ev:Operand->AV) (H:X3) (op:BinOp) (t:Nat) (x y:Operand) (yt:Nat) (a b:AV):Option AV :=
 match b with
 |.sc .nilIface=>match a,y with
  |.sc u,.const .nilIface=>match T t with
   |some ti=>match ti.kind,ifB op u with
    |.iface,some r=>some (.sc (.bool r))
    |_,_=>none
   |none=>none
  |_,_=>none
 |.sc (.pointer none)=>match T t,ptrA a with
  |some ti,some nl=>match ti.kind,ptB op nl with
   |.pointer _,some r=>some (.sc (.bool r))
   |_,_=>none
  |_,_=>none
 |_=>qPu T ev H (.binOp op t x y yt)
theorem X0nq {T:Ty} {ev:Operand->AV} {H:X3} {op:BinOp} {t yt:Nat} {x y:Operand} {a b r:AV} (hx:ev x=a) (hy:ev y=b) (h:nX T ev H op t x y yt a b=some r):Pu T ev H (.binOp op t x y yt) r:=by
 unfold nX at h;split at h
 ·split at h
  ·split at h
   ·split at h
    ·rename_i ht _ _ _ hk hi;cases h;exact .ifaceNil hx hy ht hk hi
    ·cases h
   ·cases h
  ·cases h
 ·split at h
  ·split at h
   ·rename_i ht hp _ _ _ _ hk hi;cases h;exact .ptrNil (by rw[hx];exact hp) hy ht hk hi
   ·cases h
  ·cases h
 ·exact X61 h
noncomputable def slM (T:Ty) (ev:Operand->AV) (t:Nat) (own:Bool) (es:List AV) (lo:Option Operand) (hi mx:Operand):Option AV :=
 match X1v T t with
 |some te=>match bdF ev lo 0,bdF ev (some hi) 0,bdF ev (some mx) 0 with
  |some l,some h,some m=>bif Nat.beq m es.length&&Nat.ble l h&&Nat.ble h es.length&&es.all (λe=>Nat.beq e.cells.length te.size) then some (.list own ((es.drop l).take (h - l))) else none
  |_,_,_=>none
 |none=>none
theorem X00r {T:Ty} {ev:Operand->AV} {H:X3} {t:Nat} {own:Bool} {es:List AV} {x:Operand} {lo:Option Operand} {hi mx:Operand} {r:AV} (hx:ev x=.list own es) (h:slM T ev t own es lo hi mx=some r):Pu T ev H (.slice t x lo (some hi) (some mx)) r:=by
 unfold slM at h;split at h
 ·rename_i te hs;obtain⟨ti,et,h1,h2,h3⟩:=X0i hs;split at h
  ·rename_i l hh m hl hhh hm
   cases hc:(Nat.beq m es.length&&Nat.ble l hh&&Nat.ble hh es.length&&es.all (λe=>Nat.beq e.cells.length te.size)) with
   |false=>rw[hc,cond_false] at h;cases h
   |true =>
    rw[hc,cond_true] at h;cases h;simp only[Bool.and_eq_true,Nat.beq_eq,Nat.ble_eq,List.all_eq_true] at hc;obtain⟨⟨⟨rfl,c2⟩,c3⟩,c4⟩:=hc;exact .sliceListM hx (X2f hl) (X2f hhh) (X2f hm) c2 c3 h1 h2 h3 c4
  ·cases h
 ·cases h
noncomputable def capX (T:Ty) (t:Nat):Option AV :=
 match T t with
 |some ti=>match ti.kind with
  |.slice _=>some (.sc (.int .i64 0))
  |_=>none
 |none=>none
theorem Xt1 {T:Ty} {ev:Operand->AV} {H:X3} {t:Nat} {x:Operand} {r:AV} (hx:ev x=.nils) (h:capX T t=some r):Pu T ev H (.call { callee:=.builtin .cap,args:=#[x],argTypes:=#[t] }) r:=by
 unfold capX at h;split at h
 ·split at h
  ·rename_i hk;cases h;exact .capNils hx (by assumption) hk
  ·cases h
 ·cases h
noncomputable def pX (T:Ty) (ev:Operand->AV) (H:X3) (op:Op):Option AV :=
 match op with
 |.binOp op t x y yt=>match ev x,ev y with
  |.sc (.int k a),.sc (.int k' b)=>Bool.rec (motive:=λ_=>Option AV) (qPu T ev H (.binOp op t x y yt)) (Option.rec (motive:=λ_=>Option AV) (qPu T ev H (.binOp op t x y yt)) (λr=>some r) (iX op k a b)) (Nat.beq (kn k) (kn k'))
  |.sc (.string a),.sc (.string b)=>sX op a b
  |a,b=>nX T ev H op t x y yt a b
 |.slice t x lo hi none=>match ev x with
  |.ref o off len=>slR T ev H t o off len lo hi
  |.sc (.string s)=>slS T ev t s lo hi
  |_=>qPu T ev H (.slice t x lo hi none)
 |.slice t x lo (some hi) (some mx)=>match qPu T ev H (.slice t x lo (some hi) (some mx)) with
  |some a=>some a
  |none=>match ev x with
   |.list own es=>slM T ev t own es lo hi mx
   |_=>none
 |.call { callee:=.builtin .cap,args:=⟨[x]⟩,argTypes:=⟨[t]⟩ }=>match ev x with
  |.nils=>capX T t
  |_=>none
 |.index t x ix=>match ev x,ev ix with
  |.sc (.string s),.sc (.int _ i)=>ixS T t s i
  |_,_=>qPu T ev H (.index t x ix)
 |.makeFunc (.func f) ⟨[x]⟩ ⟨[]⟩=>some (.mv f (ev x))
 |op=>qPu T ev H op
theorem X02h {T:Ty} {ev:Operand->AV} {H:X3} {op:Op} {a:AV} (h:pX T ev H op=some a):Pu T ev H op a:=by
 unfold pX at h;split at h
 ·rename_i op t x y yt;split at h
  ·rename_i k a' k' b hx hy
   cases hk:Nat.beq (kn k) (kn k') with
   |false=>rw[hk] at h;exact X61 h
   |true =>
    rw[hk] at h;have:=Xg0 hk;subst this;have h:Option.rec (motive:=λ_=>Option AV) (qPu T ev H (.binOp op t x y yt)) (λr=>some r) (iX op k a' b)=some a:=h
    cases hi:iX op k a' b with
    |none=>rw[hi] at h;exact X61 h
    |some r=>rw[hi] at h;cases h;exact X070 hx hy hi
  ·rename_i hx hy;exact X0l1 hx hy h
  ·exact X0nq rfl rfl h
 ·split at h
  ·rename_i hx;exact X00q hx h
  ·rename_i hx;exact X00p hx h
  ·exact X61 h
 ·split at h
  ·rename_i a' ha;cases h;exact X61 ha
  ·split at h
   ·rename_i hx;exact X00r hx h
   ·cases h
 ·split at h
  ·rename_i hx;exact Xt1 hx h
  ·cases h
 ·split at h
  ·rename_i hx hi;exact Xg2 hx hi h
  ·exact X61 h
 ·cases h;exact .makeFuncM
 ·exact X61 h
end Go.Av.X


namespace Go.Av
variable [Gls]
def Xem (w:World) (b:Nat) (l:List (Value×Value)):Prop :=
 ∃ es clock,w.heap[b]?=some (.map es clock)/\es.toList.map (λe=>(e.key,e.val))=l/\es.toList.Pairwise (λx y=>x.born<y.born)/\∀ e∈es.toList,e.born<clock
theorem Xem.lt {w:World} {b:Nat} {l:List (Value×Value)} (h:Xem w b l):b<w.heap.size:=by
 obtain⟨es,clock,hb,_⟩:=h;exact(Array.getElem?_eq_some_iff.1 hb).1
inductive MuE where
 |map (l:List (Value×Value))
 |mark
 |blk (o:Go.Obj)
 |loop (r:Loop) (nt m:Nat) (A:Nat->AV)
instance:Coe (List (Value×Value)) MuE:=⟨.map⟩
abbrev Mu:=List (Nat×MuE)
def Xjx (n0:Nat) (c:Ctx) (b:Nat):MuE->Prop
 |.map l=>Xem c.w b l
 |.mark=>c.w.heap[b]?=some (.deferred (some []))
 |.blk o=>c.w.heap[b]?=some o
 |.loop r nt m A=>(c.w.heap[b]?=some (.loop r)/\r.tmps.size=nt)/\m<=n0/\(∀ t,(A t).Ok (·<m))/\∀ t,Xh c false (A t) (r.tmps.getD t undef)
theorem Xjx.lt {n0:Nat} {c:Ctx} {b:Nat} {x:MuE} (h:Xjx n0 c b x):b<c.w.heap.size:=by
 cases x with
 |map l=>exact Xem.lt h
 |mark=>exact(Array.getElem?_eq_some_iff.1 h).1
 |blk o=>exact(Array.getElem?_eq_some_iff.1 h).1
 |loop r nt m A=>exact(Array.getElem?_eq_some_iff.1 h.1.1).1
theorem Xjx.le {n0:Nat} {c c':Ctx} {b:Nat} {x:MuE} (h:Xjx n0 c b x) (hb:c'.w.heap[b]?=c.w.heap[b]?) (hle:c.Le (·<n0) c'):Xjx n0 c' b x:=by
 cases x with
 |map l=>obtain⟨es,clock,h1,h2⟩:=h;exact⟨es,clock,hb.trans h1,h2⟩
 |mark=>exact hb.trans h
 |blk o=>exact hb.trans h
 |loop r nt m A=>exact⟨⟨hb.trans h.1.1,h.1.2⟩,h.2.1,h.2.2.1,λt=>(h.2.2.2 t).mono hle (.inr ((h.2.2.1 t).mono λq hq=>Nat.lt_of_lt_of_le hq h.2.1))⟩
def Xhv:Mu->List Deferred
 |[]=>[]
 |(D,.mark)::μ=>{ target:=.collected D,args:=#[] }::Xhv μ
 |(_,.map _)::μ=>Xhv μ
 |(_,.blk _)::μ=>Xhv μ
 |(_,.loop ..)::μ=>Xhv μ
def X7l:Mu->Bool
 |[]=>true
 |(_,.loop ..)::_=>false
 |(_,.mark)::μ=>X7l μ
 |(_,.map _)::μ=>X7l μ
 |(_,.blk _)::μ=>X7l μ
def Xtd (c0:Ctx) (H0:X3) (b:Nat):Prop:=c0.B<=b/\(c0.w.heap.size<=b\/∃ o x,H0 o=some x/\(c0.ρ o).blk=b)
theorem Xtd.no {c0:Ctx} {H0:X3} {b:Nat} (h:Xtd c0 H0 b) (h1:b<c0.w.heap.size) (h2:∀ o x,H0 o=some x->(c0.ρ o).blk≠b):False :=
 h.2.elim (λh=>by omega) λ⟨o,x,h3,h4⟩=>h2 o x h3 h4
structure MOk (n0:Nat) (c0:Ctx) (H0:X3) (c:Ctx) (H:X3) (μ:Mu) (act:Act):Prop where
 is:∀ p∈μ,Xjx n0 c p.1 p.2
 away:∀ p∈μ,¬ c.Sa p.1/\¬ c.So p.1/\(∀ o x,H o=some x->(c.ρ o).blk≠p.1)/\Xtd c0 H0 p.1
 nodup:(μ.map (·.1)).Nodup
 ds:act.defers=Xhv μ
theorem MOk.nil {n0:Nat} {c0 c:Ctx} {H0 H:X3} {act:Act} (h:act.defers=[]):MOk n0 c0 H0 c H [] act:=⟨(λ_ h=>by cases h),(λ_ h=>by cases h),List.nodup_nil,h⟩
theorem MOk.kept {c0 c c':Ctx} {H0 H H':X3} {n0:Nat} {μ:Mu} {act act':Act} (h:MOk n0 c0 H0 c H μ act) (r:Reach c H n0 c' H') (hd:act'.defers=act.defers:=by first|rfl|exact put_defers _ _ _):MOk n0 c0 H0 c' H' μ act':=by
 have hlt:∀ p∈μ,p.1<c.w.heap.size:=λp hp=>(h.is p hp).lt;have hb:∀ p∈μ,c'.w.heap[p.1]?=c.w.heap[p.1]?:=λp hp=>r.block _ (hlt p hp) (h.away p hp).2.2.1;refine⟨λp hp=>(h.is p hp).le (hb p hp) r.le,λp hp=>?_,h.nodup,hd.trans h.ds⟩;obtain⟨a1,a2,a3,a4⟩:=h.away p hp;refine⟨by rw[r.sa];exact a1,λhs=>?_,λo x hx he=>?_,a4⟩
 ·rcases r.so2 _ hs with h1|h1|⟨o,x,h1,h2⟩
  ·exact a2 h1
  ·have:=hlt p hp;omega
  ·exact a3 o x h1 h2
 ·rcases r.own o x hx with h1|⟨o',x',h1,h2⟩
  ·have:=hlt p hp;omega
  ·exact a3 o' x' h1 (h2.trans he)
theorem MOk.act {n0:Nat} {c0 c:Ctx} {H0 H:X3} {μ:Mu} {act act':Act} (h:MOk n0 c0 H0 c H μ act) (hd:act'.defers=act.defers:=by first|rfl|exact put_defers _ _ _):MOk n0 c0 H0 c H μ act':=⟨h.is,h.away,h.nodup,hd.trans h.ds⟩
theorem Reach.trans {c0 c c':Ctx} {H0 H H':X3} {n0:Nat} (h:Reach c0 H0 n0 c H) (k:Reach c H n0 c' H'):Reach c0 H0 n0 c' H':=by
 refine⟨λo ho=>(k.rho o ho).trans (h.rho o ho),k.os.trans h.os,k.tape.trans h.tape,⟨k.output.1.trans h.output.1,Nat.le_trans h.output.2 k.output.2⟩,Nat.le_trans h.size k.size,?_,?_,k.sa.trans h.sa,λb hb=>k.so1 b (h.so1 b hb),?_,k.B.trans h.B,?_⟩
 ·intro b hb hn;rw[k.block b (Nat.lt_of_lt_of_le hb h.size) ?_]
  ·exact h.block b hb hn
  ·intro o x hx he;rcases h.own o x hx with h1|⟨o',x',h1,h2⟩
   ·omega
   ·exact hn o' x' h1 (h2.trans he)
 ·intro b hb;rw[k.stable b (hb.imp (λx=>by rw[h.sa];exact x) (h.so1 b))];exact h.stable b hb
 ·intro b hb;rcases k.so2 b hb with h1|h1|⟨q,y,h1,h2⟩
  ·exact h.so2 b h1
  ·exact .inr (.inl (Nat.le_trans h.size h1))
  ·rcases h.own q y h1 with h3|⟨q',y',h3,h4⟩
   ·exact .inr (.inl om)
   ·exact .inr (.inr ⟨q',y',h3,h4.trans h2⟩)
 ·intro o x hx;rcases k.own o x hx with h1|⟨q,y,h1,h2⟩
  ·exact .inl (Nat.le_trans h.size h1)
  ·rw[<-h2];exact h.own q y h1
theorem X1r.rebase {nt n0:Nat} {c0 c:Ctx} {H0:X3} {s:St} {act:Act} (g:X1r nt c0 H0 n0 c s act):X1r nt c s.H n0 c s act :=
 ⟨g.inv,g.solo,g.frame,g.ok,g.size,.refl _ _ _,g.le0⟩
theorem X1r.join {nt n0:Nat} {c0 c c':Ctx} {H0 H:X3} {s:St} {act:Act} (r:Reach c0 H0 n0 c H) (g:X1r nt c H n0 c' s act):X1r nt c0 H0 n0 c' s act :=
 ⟨g.inv,g.solo,g.frame,g.ok,g.size,r.trans g.reach,g.le0⟩
def MQ (nt:Nat) (c0:Ctx) (H0:X3) (n0:Nat) (Q:X2->St->Mu->Prop):Exit->Act->World->Prop :=
 λe act w=>∃ c s ae μ,c.w=w/\X1r nt c0 H0 n0 c s act/\MOk n0 c0 H0 c s.H μ act/\ae.of=e/\Q ae s μ
def X1q (P:Program) (nt n0:Nat) (code:Code) (Q:X2->St->Mu->Prop) (s:St) (μ:Mu):Prop :=
 ∀ (c0:Ctx) (H0:X3) (c:Ctx) (act:Act),X1r nt c0 H0 n0 c s act->MOk n0 c0 H0 c s.H μ act->∀ R,RG code R->wpR R P code (MQ nt c0 H0 n0 Q) act c.w
def X1t (P:Program) (nt n0:Nat) (ops:Array Oper) (l:List Oper) (K:St->Mu->Prop) (s:St) (μ:Mu):Prop :=
 ∀ (c0:Ctx) (H0:X3) (c:Ctx) (act:Act),X1r nt c0 H0 n0 c s act->MOk n0 c0 H0 c s.H μ act->∀ Qx:Exit->Act->World->Prop,
  (∀ c' s' act' μ',X1r nt c0 H0 n0 c' s' act'->MOk n0 c0 H0 c' s'.H μ' act'->K s' μ'->Qx .normal act' c'.w)->∀ R,(R=none->X7l μ=true)->X3z R P ops Qx l act c.w
section
variable {P:Program} {nt n0:Nat} {s:St} {μ:Mu} {Q:X2->St->Mu->Prop}
theorem X1q.of {code:Code} (h:X38 P nt n0 code (λe s'=>Q e s' μ) s):X1q P nt n0 code Q s μ:=by
 intro c0 H0 c act g hm R hR;refine wpIn_mono (h c s.H c act g.rebase R hR) ?_;rintro e a w ⟨c',s',ae,rfl,g2,hd,rfl,hq⟩;exact⟨c',s',ae,μ,rfl,.join g.reach g2,hm.kept g2.reach hd,rfl,hq⟩
theorem X1q.mono {code:Code} {Q':X2->St->Mu->Prop} (h:X1q P nt n0 code Q s μ) (hq:∀ e s μ,Q e s μ->Q' e s μ):X1q P nt n0 code Q' s μ :=
 λc0 H0 c act g hm R hR=>wpIn_mono (h c0 H0 c act g hm R hR) (λ_ _ _ ⟨c,s,ae,μ,h1,h2,h3,h4,h5⟩=>⟨c,s,ae,μ,h1,h2,h3,h4,hq _ _ _ h5⟩)
theorem X1q.skip (h:Q .normal s μ):X1q P nt n0 .skip Q s μ:=.of (.skip h)
theorem X1q.label {l:Nat} (h:Q .normal s μ):X1q P nt n0 (.label l) Q s μ:=.of (.label h)
theorem X1q.exit {id:Nat} (h:Q (.exit id) s μ):X1q P nt n0 (.exit id) Q s μ:=.of (.exit h)
theorem X1q.ret (h:Q .ret s μ):X1q P nt n0 .ret Q s μ:=.of (.ret h)
def seqM (P:Program) (nt n0:Nat) (y:Code) (Q:X2->St->Mu->Prop):X2->St->Mu->Prop
 |.normal,s,μ=>X1q P nt n0 y Q s μ
 |e,s,μ=>Q e s μ
theorem X1q.seq {x y:Code} (h:X1q P nt n0 x (seqM P nt n0 y Q) s μ):X1q P nt n0 (.seq x y) Q s μ:=by
 intro c0 H0 c act g hm R hR;refine wpIn_seq (wpIn_mono (h c0 H0 c act g hm R hR.seq1) ?_);rintro e a w ⟨c',s',ae,μ',rfl,g',hm',rfl,hq⟩
 cases ae with
 |normal=>exact hq c0 H0 c' a g' hm' R hR.seq2
 |exit id=>exact⟨c',s',.exit id,μ',rfl,g',hm',rfl,hq⟩
 |ret=>exact⟨c',s',.ret,μ',rfl,g',hm',rfl,hq⟩
theorem X1q.cond {x:Operand} {a b:Code} {t:Bool} (hx:evA s.A x=.sc (.bool t)) (ht:t=true->X1q P nt n0 a Q s μ) (hf:t=false->X1q P nt n0 b Q s μ):X1q P nt n0 (.cond x a b) Q s μ:=by
 intro c0 H0 c act g hm R hR;have h1:=g.ev x;rw[hx] at h1;exact wpIn_cond_split h1.sc_inv (λh=>ht h c0 H0 c act g hm R hR.cond1) (λh=>hf h c0 H0 c act g hm R hR.cond2)
def X3r (id:Nat) (Q:X2->St->Mu->Prop):X2->St->Mu->Prop
 |.exit id',s,μ=>bif Nat.beq id' id then Q .normal s μ else Q (.exit id') s μ
 |e,s,μ=>Q e s μ
theorem X1q.block {id:Nat} {code:Code} (h:X1q P nt n0 code (X3r id Q) s μ):X1q P nt n0 (.block id code) Q s μ:=by
 intro c0 H0 c act g hm R hR;refine wpIn_block (wpIn_mono (h c0 H0 c act g hm R hR.block) ?_);rintro e a w ⟨c',s',ae,μ',rfl,g',hm',rfl,hq⟩
 cases ae with
 |normal=>exact⟨c',s',.normal,μ',rfl,g',hm',rfl,hq⟩
 |exit id' =>
  simp only[X3r] at hq;simp only[X2.of,Exit.inBlock];by_cases he:id'=id
  ·subst he;simp only[Nat.beq_refl,cond_true] at hq;rw[if_pos rfl];exact⟨c',s',.normal,μ',rfl,g',hm',rfl,hq⟩
  ·have:Nat.beq id' id=false:=by rw[<-Bool.not_eq_true,Nat.beq_eq];exact he
   rw[this,cond_false] at hq;rw[if_neg he];exact⟨c',s',.exit id',μ',rfl,g',hm',rfl,hq⟩
 |ret=>exact⟨c',s',.ret,μ',rfl,g',hm',rfl,hq⟩
theorem X1q.scope {code:Code} (h:X1q P nt n0 code Q s μ):X1q P nt n0 (.scope code) Q s μ:=by
 intro c0 H0 c act g hm R hR;have hR2:=hR.scope;obtain rfl:=hR rfl;refine X4u.2 (wp_scope_straight (Code.wp_mono ?_ (X4u.1 (h c0 H0 c act g hm none hR2))));rintro e a w ⟨c',s',ae,μ',rfl,g',hm',rfl,hq⟩
 cases ae with
 |normal=>exact⟨c',s',.normal,μ',rfl,g',hm',rfl,hq⟩
 |exit id=>exact⟨c',s',.exit id,μ',rfl,g',hm',rfl,hq⟩
 |ret=>exact⟨c',s',.ret,μ',rfl,g',hm',rfl,hq⟩
theorem MOk.weak {c0 c c':Ctx} {H0:X3} {s s':St} {θ:Nat->Nat} {act:Act} (hw:Xdl θ n0 s s') (hc:c'={ c with ρ:=λo=>c.ρ (θ o) }) (h:MOk n0 c0 H0 c s.H μ act):MOk n0 c0 H0 c' s'.H μ act:=by
 subst hc;refine⟨λp hp=>(h.is p hp).le rfl ⟨λo ho=>?_,λ_ hb=>hb,λ_ hb=>hb,λ_ _=>rfl,rfl⟩,λp hp=>?_,h.nodup,h.ds⟩
 ·show c.ρ (θ o)=c.ρ o;rw[hw.fix o ho]
 obtain⟨a1,a2,a3,a4⟩:=h.away p hp;refine⟨a1,a2,λo x' hx'=>?_,a4⟩;obtain⟨x,hx,_⟩:=hw.heap o x' hx';exact a3 _ x hx
end
end Go.Av


namespace Go.Av
variable [Gls]
def hp:List (Nat×Obj)->X3
 |[],_=>none
 |(d,x)::l,o=>bif Nat.beq o d then (bif x.gone then none else some x) else hp l o
theorem Xa8:∀ {G:List (Nat×Obj)} {o:Nat} {y:Obj},hp G o=some y->y.gone=false:=by
 intro G
 induction G with
 |nil=>intro o y h;cases h
 |cons p l ih =>
  intro o y h;obtain⟨d,x⟩:=p;simp only[hp] at h
  cases hb:Nat.beq o d with
  |false=>rw[hb] at h;exact ih h
  |true =>
   rw[hb,cond_true] at h
   cases hg:x.gone with
   |true=>rw[hg] at h;cases h
   |false=>rw[hg] at h;cases h;exact hg
inductive X2j where
 |el (e:AV)
 |ld (e:AV)
 |no
 |pure (bs:List AV) (r:AV)
 |call (r:AV) (G:List (Nat×Obj)) (n:Nat)
 |go (b:Bool)
 |br (b:Bool)
 |ne (b:Bool)
 |wrap
 |ix (j:Nat)
 |stop (j:Nat)
 |via (a:AV)
 |trunc (o:Nat) (es:List AV)
 |see (l:List (Nat×List Nat))
def X28:List Prop->Prop
 |[]=>True
 |p::r=>p/\X28 r
theorem Xf {a b:List Prop}:X28 (a++b)↔X28 a/\X28 b:=by
 induction a with
 |nil=>simp[X28]
 |cons p a ih=>simp[X28,ih,and_assoc]
def Xar (g:Bool):List Prop->List Prop
 |[]=>[]
 |p::r=>(g=true->p)::Xar g r
theorem X8c {g:Bool} {l:List Prop} (h:X28 (Xar g l)) (hg:g=true):X28 l:=by
 induction l with
 |nil=>trivial
 |cons p l ih=>exact⟨h.1 hg,ih h.2⟩
def X4y (v:Value):AV :=
 match v with
 |.agg ⟨vs⟩=>match vs.all (λv=>v.oneCell') with
  |true=>.agg (vs.map X7k)
  |false=>.sc (.agg ⟨vs⟩)
 |v=>X7k v
theorem X43 (v:Value):X4y v=X0t v:=by
 cases v with
 |agg vs =>
  obtain⟨vs⟩:=vs;simp only[X4y,X0t];have h1:(Array.all ⟨vs⟩ λv=>v.oneCell')=vs.all λv=>v.oneCell':=by simp
  rw[h1];cases vs.all λv=>v.oneCell'<;>rfl
 |_=>rfl
def rdA (a:AV):AV×List Prop :=
 match a with
 |.cond g v=>(v,[g=true])
 |.junk=>(.junk,[])
 |.sc v=>(.sc v,[])
 |.nils=>(.nils,[])
 |.agg cs=>(.agg cs,[])
 |.tup cs=>(.tup cs,[])
 |.list o es=>(.list o es,[])
 |.ref o f l=>(.ref o f l,[])
 |.ptr o i n=>(.ptr o i n,[])
 |.elem o e n=>(.elem o e n,[])
 |.fn f cs=>(.fn f cs,[])
 |.mref o m=>(.mref o m,[])
 |.mv f a=>(.mv f a,[])
theorem X00z {a b:AV} {ps:List Prop} (h:rdA a=(b,ps)) (hp:X28 ps):X24 a=b:=by
 cases a with
 |cond g v =>
  cases h
  simp only[X28,and_true] at hp;simp[X24,hp]
 |_=>cases h;rfl
def rd (L:List (Nat×AV)) (x:Operand):AV×List Prop :=
 match x with
 |.tmp t=>rdA (fr L t)
 |.const v=>(X4y v,[])
 |.global g=>(.sc (.pointer (some ⟨g,0,none⟩)),[])
 |.func f=>(.fn f [],[])
theorem Xq {L:List (Nat×AV)} {x:Operand} {a:AV} {ps:List Prop} (h:rd L x=(a,ps)) (hp:X28 ps):evA (fr L) x=a:=by
 unfold rd at h;split at h
 ·exact X00z h hp
 ·cases h;exact(X43 _).symm
 ·cases h;rfl
 ·cases h;rfl
def rds (L:List (Nat×AV)):List Operand->List AV×List Prop
 |[]=>([],[])
 |x::r=>match rd L x,rds L r with
  |(a,p),(l,q)=>(a::l,p++q)
theorem X6n {L:List (Nat×AV)}:∀ {xs:List Operand} {as:List AV} {ps:List Prop},rds L xs=(as,ps)->X28 ps->xs.map (evA (fr L))=as:=by
 intro xs
 induction xs with
 |nil=>intro as ps h _;simp[rds] at h;simp[<-h.1]
 |cons x r ih =>
  intro as ps h hp;simp only[rds] at h;cases h
  obtain⟨h1,h2⟩:=Xf.1 hp;simp only[List.map_cons];rw[Xq (a:=(rd L x).1) (ps:=(rd L x).2) rfl h1,ih (as:=(rds L r).1) (ps:=(rds L r).2) rfl h2]
def Xks {β:Type} (v:Value) (k:Value->Option β):Option β :=
 match v with
 |.int q z=>k (.int q z)
 |.bool b=>k (.bool b)
 |.string s=>k (.string s)
 |v=>k v
theorem Xge {β:Type} (v:Value) (k:Value->Option β):Xks v k=k v:=by cases v<;>rfl
def Xdb {β:Type} (a:AV) (k:AV->Option β):Option β :=
 match a with
 |.junk=>k .junk
 |.sc v=>Xks v λv=>k (.sc v)
 |.nils=>k .nils
 |.agg cs=>k (.agg cs)
 |.tup cs=>k (.tup cs)
 |.list o es=>k (.list o es)
 |.ref o f l=>k (.ref o f l)
 |.ptr o i n=>k (.ptr o i n)
 |.elem o e n=>k (.elem o e n)
 |.fn f cs=>k (.fn f cs)
 |.mref o m=>k (.mref o m)
 |.mv f a=>k (.mv f a)
 |.cond b v=>k (.cond b v)
theorem Xba {β:Type} (a:AV) (k:AV->Option β):Xdb a k=k a:=by cases a<;>simp[Xdb,Xge]
def X7d {β:Type}:List AV->(List AV->Option β)->Option β
 |[],k=>k []
 |a::r,k=>Xdb a λa=>X7d r λr=>k (a::r)
theorem Xe7 {β:Type}:∀ (l:List AV) (k:List AV->Option β),X7d l k=k l:=by
 intro l
 induction l with
 |nil=>intro k;rfl
 |cons a r ih=>intro k;simp[X7d,Xba,ih]
def Xda {β:Type} (a:AV) (k:AV->Option β):Option β :=
 match a with
 |.agg cs=>X7d cs λcs=>k (.agg cs)
 |.tup cs=>X7d cs λcs=>k (.tup cs)
 |.fn f cs=>X7d cs λcs=>k (.fn f cs)
 |a=>Xdb a k
theorem Xb9 {β:Type} (a:AV) (k:AV->Option β):Xda a k=k a:=by cases a<;>simp[Xda,Xe7,Xba]
def X6v {β:Type}:List AV->(List AV->Option β)->Option β
 |[],k=>k []
 |a::r,k=>Xda a λa=>X6v r λr=>k (a::r)
theorem X5i {β:Type}:∀ (l:List AV) (k:List AV->Option β),X6v l k=k l:=by
 intro l
 induction l with
 |nil=>intro k;rfl
 |cons a r ih=>intro k;simp[X6v,Xb9,ih]
def X5k {β:Type} (a:AV) (k:AV->Option β):Option β :=
 match a with
 |.agg cs=>X6v cs λcs=>k (.agg cs)
 |.tup cs=>X6v cs λcs=>k (.tup cs)
 |a=>Xda a k
theorem X35 {β:Type} (a:AV) (k:AV->Option β):X5k a k=k a:=by
 cases a<;>simp[X5k,X5i,Xb9]
abbrev PR:=Option (AV×List X2j×List Prop)
def X159:List X2j->Bool
 |.wrap::_=>true
 |_=>false
def Xj3 (k:IntKind) (z:Int) (hs:List X2j) (ps:List Prop):PR :=
 match hs with
 |.wrap::hs=>some (.sc (.int k (k.wrap z)),hs,ps)
 |hs=>some (.sc (.int k z),hs,(k.wrap z=z)::ps)
theorem X68 {k:IntKind} {z:Int} {hs hs':List X2j} {ps ps':List Prop} {a:AV} (h:Xj3 k z hs ps=some (a,hs',ps')) (hp:X28 ps'):a=.sc (.int k (k.wrap z))/\X28 ps:=by
 unfold Xj3 at h;split at h
 ·cases h;exact⟨rfl,hp⟩
 ·cases h;exact⟨by rw[hp.1],hp.2⟩
def binS (T:Ty) (op:BinOp) (t:Nat) (x y:AV) (hs:List X2j) (ps:List Prop):PR :=
 match op,x,y with
 |.add,.sc (.int k a),.sc (.int k' b)=>if k=k' then Xj3 k (a+b) hs ps else none
 |.sub,.sc (.int k a),.sc (.int k' b)=>if k=k' then Xj3 k (a - b) hs ps else none
 |.mul,.sc (.int k a),.sc (.int k' b)=>if k=k' then Xj3 k (a*b) hs ps else none
 |.quo,.sc (.int k a),.sc (.int k' b)=>if k=k' then Xj3 k (a.tdiv b) hs ((b≠0)::ps) else none
 |.rem,.sc (.int k a),.sc (.int k' b)=>if k=k' then some (.sc (.int k (a.tmod b)),hs,(b≠0)::ps) else none
 |.shl,.sc (.int k a),.sc (.int _ b)=>Xj3 k (a*2 ^ (min b.toNat k.bits)) hs ((0<=b)::ps)
 |.shr,.sc (.int k a),.sc (.int _ b)=>some (.sc (.int k (a.fdiv (2 ^ (min b.toNat k.bits)))),hs,(0<=b)::ps)
 |op,x,y=>match binF T op t x y with
  |some a=>some (a,hs,ps)
  |none=>none
theorem Xt4 {T:Ty} {ev:Operand->AV} {H:X3} {op:BinOp} {t yt:Nat} {x y:Operand} {u v:AV} {hs hs':List X2j} {ps ps':List Prop} {a:AV} (hx:X28 ps->ev x=u) (hy:X28 ps->ev y=v)
  (h:binS T op t u v hs ps=some (a,hs',ps')) (hp:X28 ps'):Pu T ev H (.binOp op t x y yt) a:=by
 unfold binS at h;split at h
 ·split at h
  ·rename_i hk;subst hk;obtain⟨rfl,h2⟩:=X68 h hp;exact .binInt (hx h2) (hy h2) rfl
  ·cases h
 ·split at h
  ·rename_i hk;subst hk;obtain⟨rfl,h2⟩:=X68 h hp;exact .binInt (hx h2) (hy h2) rfl
  ·cases h
 ·split at h
  ·rename_i hk;subst hk;obtain⟨rfl,h2⟩:=X68 h hp;exact .binInt (hx h2) (hy h2) rfl
  ·cases h
 ·split at h
  ·rename_i hk;subst hk;obtain⟨rfl,h2⟩:=X68 h hp;exact .quo (hx h2.2) (hy h2.2) h2.1
  ·cases h
 ·split at h
  ·rename_i hk;subst hk;cases h;exact .rem (hx hp.2) (hy hp.2) hp.1
  ·cases h
 ·obtain⟨rfl,h2⟩:=X68 h hp;exact .shl (hx h2.2) (hy h2.2) h2.1
 ·cases h;exact .shr (hx hp.2) (hy hp.2) hp.1
 ·split at h
  ·rename_i hb;cases h
   rw[<-hx hp,<-hy hp] at hb;exact Xhh hb
  ·cases h
def Xsw (T:Ty) (src dst:Nat) (x:AV) (hs:List X2j) (ps:List Prop):PR :=
 match x with
 |.sc (.int _ n)=>match T src with
  |some _=>match T dst with
   |some td=>match td.kind with
    |.int k'=>Xj3 k' n hs ps
    |_=>none
   |none=>none
  |none=>none
 |x=>match Xjk T src dst x with
  |some a=>some (a,hs,ps)
  |none=>none
def unS (op:UnOp) (x:AV) (hs:List X2j) (ps:List Prop):PR :=
 match op,x with
 |.neg,.sc (.int k n)=>Xj3 k (0 - n) hs ps
 |.not,.sc (.bool b)=>some (.sc (.bool (!b)),hs,ps)
 |_,_=>none
def Xgw (H:X3) (p:AV) (hs:List X2j) (ps:List Prop):Option (AV×Nat×List X2j×List Prop) :=
 match p with
 |.elem _ e k=>some (e,k,hs,ps)
 |.ptr o i k=>match H o with
  |some y=>match hs with
   |.ld e::hs=>some (e,k,hs,(y.es[i]?=some e)::ps)
   |hs=>match y.es[i]? with
    |some e=>some (e,k,hs,ps)
    |none=>none
  |none=>none
 |_=>none
theorem Xgv {H:X3} {p e:AV} {k:Nat} {hs hs':List X2j} {ps ps':List Prop} (h:Xgw H p hs ps=some (e,k,hs',ps')) (hp:X28 ps'):Xbh H p e k/\X28 ps:=by
 unfold Xgw at h;split at h
 ·cases h;exact⟨.elem,hp⟩
 ·split at h
  ·rename_i hH;split at h
   ·cases h;exact⟨.ptr hH hp.1,hp.2⟩
   ·split at h
    ·rename_i he;cases h;exact⟨.ptr hH he,hp⟩
    ·cases h
  ·cases h
 ·cases h
def ixS (T:Ty) (H:X3) (t:Nat) (x:AV) (i:Int) (hs:List X2j) (ps:List Prop):PR :=
 match x,hs with
 |.list own es,.el e::hs=>match X1v T t with
  |some te=>if e.cells.length=te.size then some (.elem own e 0,hs,(0<=i)::(es[i.toNat]?=some e)::ps) else none
  |none=>none
 |.ref o off len,.el e::hs=>match X1v T t with
  |some te=>match H o with
   |some y=>if e.cells.length=te.size then some (.ptr o (off+i.toNat) 0,hs,(0<=i)::(i<len)::(y.es[off+i.toNat]?=some e)::ps) else none
   |none=>none
  |none=>none
 |.ptr o j q,.ix m::hs=>match X8v T t with
  |some (n,te)=>some (.ptr o j (q+m*te.size),hs,(i=(m:Int))::(m<n)::ps)
  |none=>none
 |.elem own e q,.ix m::hs=>match X8v T t with
  |some (n,te)=>some (.elem own e (q+m*te.size),hs,(i=(m:Int))::(m<n)::ps)
  |none=>none
 |.ptr o j q,hs=>match X8v T t with
  |some (n,te)=>some (.ptr o j (q+i.toNat*te.size),hs,(0<=i)::(i<n)::ps)
  |none=>none
 |.elem own e q,hs=>match X8v T t with
  |some (n,te)=>some (.elem own e (q+i.toNat*te.size),hs,(0<=i)::(i<n)::ps)
  |none=>none
 |x,hs=>match ixF T H t x i with
  |some a=>some (a,hs,(0<=i)::ps)
  |none=>none
def bdS (L:List (Nat×AV)) (o:Option Operand) (d:Nat) (ps:List Prop):Option (Nat×List Prop) :=
 match o with
 |none=>some (d,ps)
 |some x=>match rd L x with
  |(.sc (.int _ z),qs)=>some (z.toNat,(0<=z)::(qs++ps))
  |_=>none
theorem X3a {L:List (Nat×AV)} {o:Option Operand} {d n:Nat} {ps ps':List Prop} (h:bdS L o d ps=some (n,ps')) (hp:X28 ps'):Bd (evA (fr L)) o d n/\X28 ps:=by
 unfold bdS at h;split at h
 ·cases h;exact⟨.dflt,hp⟩
 ·split at h
  ·rename_i hr;cases h
   obtain⟨h1,h2⟩:=hp;obtain⟨h3,h4⟩:=Xf.1 h2;exact⟨.given (Xq hr h3) h1,h4⟩
  ·cases h
def Xfa (T:Ty) (L:List (Nat×AV)) (H:X3) (t:Nat) (x:AV) (lo hi:Option Operand) (hs:List X2j) (ps:List Prop):PR :=
 match x with
 |.list own es=>match X1v T t with
  |some te=>match bdS L lo 0 ps with
   |some (l,ps)=>match bdS L hi es.length ps with
    |some (h,ps)=>match hs with
     |.via (.list _ es')::hs=>some (.list own es',hs,((es.drop l).take (h - l)=es')::(l<=h)::(h<=es.length)::(∀ e∈es,e.cells.length=te.size)::ps)
     |hs=>some (.list own ((es.drop l).take (h - l)),hs,(l<=h)::(h<=es.length)::(∀ e∈es,e.cells.length=te.size)::ps)
    |none=>none
   |none=>none
  |none=>none
 |.ref o off len=>match X1v T t with
  |some te=>match bdS L lo 0 ps with
   |some (l,ps)=>match bdS L hi len ps with
    |some (h,ps)=>match hs with
     |.ne false::hs=>some (.list true [],hs,(l=h)::(l<=len)::ps)
     |.via (.ref _ off' h')::hs=>match H o with
      |some y=>if y.esz=te.size then some (.ref o off' h',hs,(off+l=off')::(h - l=h')::(l<=h)::(l=0\/l<h)::(h<=len\/off+h<=y.es.length)::ps) else none
      |none=>some (.ref o off' h',hs,(off+l=off')::(h - l=h')::(l=0)::(h<=len)::ps)
     |hs=>match H o with
      |some y=>some (.ref o (off+l) (h - l),hs,(l<h)::(h<=len)::(∃ e∈y.es,e.cells.length=te.size)::ps)
      |none=>some (.ref o (off+l) (h - l),hs,(l=0)::(h<=len)::ps)
    |none=>none
   |none=>none
  |none=>none
 |.nils=>match X1v T t with
  |some _=>match bdS L lo 0 ps with
   |some (l,ps)=>match bdS L hi 0 ps with
    |some (h,ps)=>some (.nils,hs,(l=0)::(h=0)::ps)
    |none=>none
   |none=>none
  |none=>none
 |_=>none
theorem Xf9 {T:Ty} {L:List (Nat×AV)} {H:X3} {t:Nat} {x:Operand} {u:AV} {lo hi:Option Operand} {hs hs':List X2j} {ps ps':List Prop} {a:AV} (hx:X28 ps->evA (fr L) x=u)
  (h:Xfa T L H t u lo hi hs ps=some (a,hs',ps')) (hp:X28 ps'):Pu T (evA (fr L)) H (.slice t x lo hi none) a:=by
 unfold Xfa at h;split at h
 ·split at h
  ·rename_i hs;obtain⟨ti,et,h1,h2,h3⟩:=X0i hs;split at h
   ·rename_i hl;split at h
    ·rename_i hh;split at h
     ·cases h
      obtain⟨p0,p1,p2,p3,p4⟩:=hp;obtain⟨b2,q2⟩:=X3a hh p4;obtain⟨b1,q1⟩:=X3a hl q2;rw[<-p0];exact .sliceList (hx q1) b1 b2 p1 p2 h1 h2 h3 p3
     ·cases h
      obtain⟨p1,p2,p3,p4⟩:=hp;obtain⟨b2,q2⟩:=X3a hh p4;obtain⟨b1,q1⟩:=X3a hl q2;exact .sliceList (hx q1) b1 b2 p1 p2 h1 h2 h3 p3
    ·cases h
   ·cases h
  ·cases h
 ·split at h
  ·rename_i hs;obtain⟨ti,et,h1,h2,h3⟩:=X0i hs;split at h
   ·rename_i hl;split at h
    ·rename_i hh;split at h
     ·cases h
      obtain⟨rfl,p2,p4⟩:=hp;obtain⟨b2,q2⟩:=X3a hh p4;obtain⟨b1,q1⟩:=X3a hl q2;exact .sliceRef0 (hx q1) b1 b2 p2 h1 h2 h3
     ·split at h
      ·rename_i hH;split at h
       ·rename_i hes;cases h
        obtain⟨rfl,rfl,p1,p2,p3,p4⟩:=hp;obtain⟨b2,q2⟩:=X3a hh p4;obtain⟨b1,q1⟩:=X3a hl q2;exact .sliceRefV (hx q1) b1 b2 p1 p2 hH p3 h1 h2 h3 hes
       ·cases h
      ·cases h
       obtain⟨rfl,rfl,p1,p2,p4⟩:=hp;obtain⟨b2,q2⟩:=X3a hh p4;obtain⟨b1,q1⟩:=X3a hl q2;exact .sliceRefZ (hx q1) b1 b2 p1 p2 h1 h2 h3
     ·split at h
      ·rename_i hH;cases h
       obtain⟨p1,p2,p3,p4⟩:=hp;obtain⟨b2,q2⟩:=X3a hh p4;obtain⟨b1,q1⟩:=X3a hl q2;exact .sliceRef (hx q1) b1 b2 p1 p2 h1 h2 h3 hH p3
      ·cases h
       obtain⟨p1,p2,p4⟩:=hp;obtain⟨b2,q2⟩:=X3a hh p4;obtain⟨b1,q1⟩:=X3a hl q2;exact .sliceRefZ (hx q1) b1 b2 p1 p2 h1 h2 h3
    ·cases h
   ·cases h
  ·cases h
 ·split at h
  ·rename_i hs;obtain⟨ti,et,h1,h2,h3⟩:=X0i hs;split at h
   ·rename_i hl;split at h
    ·rename_i hh;cases h
     obtain⟨rfl,rfl,p4⟩:=hp;obtain⟨b2,q2⟩:=X3a hh p4;obtain⟨b1,q1⟩:=X3a hl q2;exact .sliceNils (hx q1) b1 b2 h1 h2 h3
    ·cases h
   ·cases h
  ·cases h
 ·cases h
theorem Xg2 {T:Ty} {ev:Operand->AV} {H:X3} {t:Nat} {x ix:Operand} {u:AV} {q:IntKind} {i:Int} {hs hs':List X2j} {ps ps':List Prop} {a:AV} (hx:X28 ps->ev x=u) (hi:X28 ps->ev ix=.sc (.int q i))
  (h:ixS T H t u i hs ps=some (a,hs',ps')) (hp:X28 ps'):Pu T ev H (.indexAddr t x ix) a:=by
 unfold ixS at h;split at h
 ·split at h
  ·rename_i hs;obtain⟨ti,et,h1,h2,h3⟩:=X0i hs;split at h
   ·rename_i hsz;cases h
    exact .indexList (hx hp.2.2) (hi hp.2.2) hp.1 h1 h2 h3 hp.2.1 hsz
   ·cases h
  ·cases h
 ·split at h
  ·rename_i hs;obtain⟨ti,et,h1,h2,h3⟩:=X0i hs;split at h
   ·rename_i hH;split at h
    ·rename_i hsz;cases h
     exact .indexRef (hx hp.2.2.2) (hi hp.2.2.2) hp.1 hp.2.1 h1 h2 h3 hH hp.2.2.1 hsz
    ·cases h
   ·cases h
  ·cases h
 ·split at h
  ·rename_i hs;obtain⟨ti,et,h1,h2,h3⟩:=X4h hs;cases h
   have he:=hp.1;subst he;exact .indexArr (hx hp.2.2) (hi hp.2.2) (Int.natCast_nonneg _) (Int.ofNat_lt.2 hp.2.1) h1 h2 h3
  ·cases h
 ·split at h
  ·rename_i hs;obtain⟨ti,et,h1,h2,h3⟩:=X4h hs;cases h
   have he:=hp.1;subst he;exact .indexArrElem (hx hp.2.2) (hi hp.2.2) (Int.natCast_nonneg _) (Int.ofNat_lt.2 hp.2.1) h1 h2 h3
  ·cases h
 ·split at h
  ·rename_i hs;obtain⟨ti,et,h1,h2,h3⟩:=X4h hs;cases h
   exact .indexArr (hx hp.2.2) (hi hp.2.2) hp.1 hp.2.1 h1 h2 h3
  ·cases h
 ·split at h
  ·rename_i hs;obtain⟨ti,et,h1,h2,h3⟩:=X4h hs;cases h
   exact .indexArrElem (hx hp.2.2) (hi hp.2.2) hp.1 hp.2.1 h1 h2 h3
  ·cases h
 ·split at h
  ·rename_i hix;cases h
   refine X62 ?_;simp only[puF,hi hp.2,hx hp.2,if_pos hp.1];exact hix
  ·cases h
def lenS (T:Ty) (t:Nat) (x:AV):Option AV :=
 match T t with
 |some ti=>match ti.kind with
  |.slice _=>match x with
   |.list _ es=>some (.sc (.int .i64 es.length))
   |.ref _ _ n=>some (.sc (.int .i64 n))
   |.nils=>some (.sc (.int .i64 (0:Nat)))
   |_=>none
  |.string=>match x with
   |.sc (.string s)=>some (.sc (.int .i64 s.size))
   |_=>none
  |.array n _=>some (.sc (.int .i64 n))
  |_=>none
 |none=>none
def Xuy (hi:Bool) (x y:AV):Option AV :=
 match x,y with
 |.sc (.int k a),.sc (.int k' b)=>if k=k' then some (.sc (.int k (bif hi then (if b>a then b else a) else (if b<a then b else a)))) else none
 |_,_=>none
def Xke (L:List (Nat×AV)):List (Nat×Operand)->List (Nat×AV)×List Prop
 |[]=>([],[])
 |(i,x)::r=>match rd L x,Xke L r with
  |(a,p),(l,q)=>((i,a)::l,p++q)
theorem Xfl {L:List (Nat×AV)}:∀ {xs:List (Nat×Operand)} {as:List (Nat×AV)} {ps:List Prop},Xke L xs=(as,ps)->X28 ps->(xs.map λp=>(p.1,evA (fr L) p.2))=as:=by
 intro xs
 induction xs with
 |nil=>intro as ps h _;simp[Xke] at h;simp[<-h.1]
 |cons x r ih =>
  intro as ps h hp;obtain⟨i,x⟩:=x;simp only[Xke] at h;cases h
  obtain⟨h1,h2⟩:=Xf.1 hp;simp only[List.map_cons];rw[Xq (a:=(rd L x).1) (ps:=(rd L x).2) rfl h1,ih (as:=(Xke L r).1) (ps:=(Xke L r).2) rfl h2]
def buildS (T:Ty) (t:Nat) (vs:List (Nat×AV)):Option AV :=
 match T t with
 |some ti=>match X4y ti.zero with
  |.agg cs=>match ti.kind with
   |.struct fs=>if fs.all (λp=>(T p.2).isSome) then (match X7y (λi=>(fs[i]?).map λp=>(p.1,((T p.2).map (·.size)).getD 0)) cs vs with
    |some r=>some (.agg r)
    |none=>none) else none
   |.array _ et=>match T et with
    |some te=>match X7y (λi=>some (i*te.size,te.size)) cs vs with
     |some r=>some (.agg r)
     |none=>none
    |none=>none
   |_=>none
  |_=>none
 |none=>none
def Xnm (L:List (Nat×AV)) (c a b:Operand) (hs:List X2j):PR :=
 match rd L c with
 |(.sc (.bool t),pc)=>match rd L a,rd L b with
  |(.sc (.bool x),pa),(.sc (.bool y),pb)=>some (.sc (.bool (bif t then x else y)),hs,pc++(Xar t pa++Xar (!t) pb))
  |(u,pa),(v,pb)=>match hs with
   |.go true::hs=>some (u,hs,(t=true)::(pc++pa))
   |.go false::hs=>some (v,hs,(t=false)::(pc++pb))
   |_=>none
 |_=>none
def puS (T:Ty) (L:List (Nat×AV)) (H:X3) (op:Op) (hs:List X2j):PR :=
 match op with
 |.move x=>match rd L x with
  |(a,ps)=>some (a,hs,ps)
 |.assign x=>match rd L x with
  |(a,ps)=>some (a,hs,ps)
 |.pick c a b=>Xnm L c a b hs
 |.load t x=>match T t with
  |some ti=>match rd L x with
   |(p,ps)=>match Xgw H p hs ps with
    |some (e,k,hs,ps)=>match X67 ti e k with
     |some a=>some (a,hs,ps)
     |none=>none
    |none=>none
  |none=>none
 |.nilCheck x=>match rd L x with
  |(.ptr o i k,ps)=>some (.ptr o i k,hs,ps)
  |(.elem own e k,ps)=>some (.elem own e k,hs,ps)
  |(.fn f caps,ps)=>some (.fn f caps,hs,ps)
  |_=>none
 |.binOp op t x y _=>match rd L x,rd L y with
  |(a,p),(b,q)=>binS T op t a b hs (p++q)
 |.unOp op _ x=>match rd L x with
  |(a,p)=>unS op a hs p
 |.convert src dst x=>match rd L x with
  |(a,p)=>Xsw T src dst a hs p
 |.fieldAddr s x f=>match X64 T s f with
  |some (off,tf)=>if tf.size≠0 then (match rd L x with
   |(.ptr o i k,ps)=>some (.ptr o i (k+off),hs,ps)
   |(.elem own e k,ps)=>some (.elem own e (k+off),hs,ps)
   |_=>none) else none
  |none=>none
 |.field s x f=>match X64 T s f with
  |some (off,tf)=>match rd L x with
   |(.agg cs,ps)=>match eqT.partA tf cs off with
    |some a=>some (a,hs,ps)
    |none=>none
   |_=>none
  |none=>none
 |.indexAddr t x ix=>match rd L ix with
  |(.sc (.int _ i),p)=>match rd L x with
   |(a,q)=>ixS T H t a i hs (p++q)
  |_=>none
 |.index t x ix=>match rd L ix with
  |(.sc (.int _ i),p)=>match rd L x with
   |(.agg cs,q)=>match X8v T t with
    |some (n,te)=>match hs with
     |.ix m::hs=>match eqT.partA te cs (m*te.size) with
      |some a=>some (a,hs,(i=(m:Int))::(m<n)::(p++q))
      |none=>none
     |hs=>match eqT.partA te cs (i.toNat*te.size) with
      |some a=>some (a,hs,(0<=i)::(i<n)::(p++q))
      |none=>none
    |none=>none
   |(.sc (.string s),q)=>match T t with
    |some ti=>match ti.kind with
     |.string=>match hs with
      |.el (.sc (.int .u8 b))::hs=>some (.sc (.int .u8 b),hs,(0<=i)::(∃ c,s[i.toNat]?=some c/\b=c.toNat)::(p++q))
      |hs=>match s[i.toNat]? with
       |some b=>some (.sc (.int .u8 b.toNat),hs,(0<=i)::(p++q))
       |none=>none
     |_=>none
    |none=>none
   |_=>none
  |_=>none
 |.slice t x lo hi none=>match rd L x with
  |(a,p)=>Xfa T L H t a lo hi hs p
 |.slice t x none (some hi) (some mx)=>match X1v T t with
  |some _=>match rd L x with
   |(a,p)=>match bdS L (some hi) 0 p with
    |some (h,p)=>match bdS L (some mx) 0 p with
     |some (m,p)=>match a with
      |.list _ _=>some (.nils,hs,(h=0)::(m=0)::p)
      |.ref _ _ _=>some (.nils,hs,(h=0)::(m=0)::p)
      |.nils=>some (.nils,hs,(h=0)::(m=0)::p)
      |_=>none
     |none=>none
    |none=>none
  |none=>none
 |.extract x i=>match rd L x with
  |(.tup cs,p)=>match cs[i]? with
   |some a=>some (a,hs,p)
   |none=>none
  |_=>none
 |.makeFunc (.func f) ⟨[]⟩ caps=>match rds L caps.toList with
  |(l,p)=>some (.fn f l,hs,p)
 |.call { callee:=.builtin .len,args:=⟨[x]⟩,argTypes:=⟨[t]⟩ }=>match rd L x with
  |(a,p)=>match lenS T t a with
   |some r=>match hs with
    |.el r'::hs=>some (r',hs,(r=r')::p)
    |hs=>some (r,hs,p)
   |none=>none
 |.call { callee:=.builtin .min,args:=⟨[x,y]⟩,argTypes:=_ }=>match rd L x,rd L y with
  |(a,p),(b,q)=>match Xuy false a b with
   |some r=>some (r,hs,p++q)
   |none=>none
 |.call { callee:=.builtin .max,args:=⟨[x,y]⟩,argTypes:=_ }=>match rd L x,rd L y with
  |(a,p),(b,q)=>match Xuy true a b with
   |some r=>some (r,hs,p++q)
   |none=>none
 |.build t ps=>match Xke L ps.toList with
  |(l,p)=>match buildS T t l with
   |some r=>some (r,hs,p)
   |none=>none
 |_=>none
theorem Xii {T:Ty} {L:List (Nat×AV)} {H:X3} {c a b:Operand} {hs hs':List X2j} {ps:List Prop} {r:AV} (h:Xnm L c a b hs=some (r,hs',ps)) (hp:X28 ps):Pu T (evA (fr L)) H (.pick c a b) r:=by
 unfold Xnm at h;split at h
 ·rename_i t pc hc;split at h
  ·rename_i x pa y pb ha hb;cases h
   obtain⟨h1,h2⟩:=Xf.1 hp;obtain⟨h3,h4⟩:=Xf.1 h2;exact .pickB (Xq hc h1) (λht=>Xq ha (X8c h3 ht)) (λht=>Xq hb (X8c h4 (by rw[ht];rfl)))
  ·rename_i u pa v pb _ ha hb;split at h
   ·cases h
    obtain⟨h0,h1⟩:=hp;obtain⟨h3,h4⟩:=Xf.1 h1;exact .pick (Xq hc h3) (λ_=>Xq ha h4) (λht=>by rw[h0] at ht;cases ht)
   ·cases h
    obtain⟨h0,h1⟩:=hp;obtain⟨h3,h4⟩:=Xf.1 h1;exact .pick (Xq hc h3) (λht=>by rw[h0] at ht;cases ht) (λ_=>Xq hb h4)
   ·cases h
 ·cases h
theorem Xfx {T:Ty} {ev:Operand->AV} {H:X3} {t:Nat} {x:Operand} {r:AV} (h:lenS T t (ev x)=some r):Pu T ev H (.call { callee:=.builtin .len,args:=⟨[x]⟩,argTypes:=⟨[t]⟩ }) r:=by
 refine X62 ?_;unfold lenS at h;simp only[puF];exact h
theorem Xnt {T:Ty} {ev:Operand->AV} {H:X3} {x y:Operand} {ts:Array Nat} {r:AV} (h:Xuy false (ev x) (ev y)=some r):Pu T ev H (.call { callee:=.builtin .min,args:=⟨[x,y]⟩,argTypes:=ts }) r:=by
 refine X62 ?_;simp only[puF];unfold Xuy at h;split at h
 ·rename_i h1 h2;first|(rw[h1,h2];exact h)|exact h
 ·cases h
theorem Xnu {T:Ty} {ev:Operand->AV} {H:X3} {x y:Operand} {ts:Array Nat} {r:AV} (h:Xuy true (ev x) (ev y)=some r):Pu T ev H (.call { callee:=.builtin .max,args:=⟨[x,y]⟩,argTypes:=ts }) r:=by
 refine X62 ?_;simp only[puF];unfold Xuy at h;split at h
 ·rename_i h1 h2;first|(rw[h1,h2];exact h)|exact h
 ·cases h
theorem Xhd {T:Ty} {ev:Operand->AV} {H:X3} {t:Nat} {ps:Array (Nat×Operand)} {r:AV} (h:buildS T t (ps.toList.map λp=>(p.1,ev p.2))=some r):Pu T ev H (.build t ps) r:=by
 refine X62 ?_;unfold buildS at h;simp only[puF];simp only[X43] at h;exact h
theorem Xjj {T:Ty} {ev:Operand->AV} {H:X3} {src dst:Nat} {x:Operand} {u:AV} {hs hs':List X2j} {ps ps':List Prop} {a:AV} (hx:X28 ps->ev x=u) (h:Xsw T src dst u hs ps=some (a,hs',ps')) (hp:X28 ps') :
  Pu T ev H (.convert src dst x) a:=by
 unfold Xsw at h;split at h
 ·split at h
  ·split at h
   ·split at h
    ·obtain⟨rfl,h2⟩:=X68 h hp;exact .conv (hx h2) (by assumption) (by assumption) (by assumption)
    ·cases h
   ·cases h
  ·cases h
 ·split at h
  ·rename_i hc;cases h
   refine X62 ?_;simp only[puF,hx hp];exact hc
  ·cases h
theorem X00j {T:Ty} {ev:Operand->AV} {H:X3} {op:UnOp} {t:Nat} {x:Operand} {u:AV} {hs hs':List X2j} {ps ps':List Prop} {a:AV} (hx:X28 ps->ev x=u) (h:unS op u hs ps=some (a,hs',ps')) (hp:X28 ps') :
  Pu T ev H (.unOp op t x) a:=by
 unfold unS at h;split at h
 ·obtain⟨rfl,h2⟩:=X68 h hp;exact .neg (hx h2)
 ·cases h;exact .not (hx hp)
 ·cases h
theorem Xkg {T:Ty} {L:List (Nat×AV)} {H:X3} {op:Op} {hs hs':List X2j} {ps:List Prop} {a:AV} (h:puS T L H op hs=some (a,hs',ps)) (hp:X28 ps):Pu T (evA (fr L)) H op a:=by
  unfold puS at h;split at h
  · rename_i x
    rcases hr:rd L x with ⟨a1,p1⟩;rw[hr] at h;cases h
    rw[<-Xq hr hp];exact .move
  · rename_i x
    rcases hr:rd L x with ⟨a1,p1⟩;rw[hr] at h;cases h
    rw[<-Xq hr hp];exact .assign
  · exact Xii h hp
  · split at h
    · rename_i ht
      split at h
      rename_i hr;split at h
      · rename_i hd
        split at h
        · rename_i hl
          cases h
          obtain⟨h1,h2⟩:=Xgv hd hp;rw[<-Xq hr h2] at h1;exact .load ht h1 hl
        · cases h
      · cases h
    · cases h
  · split at h
    · rename_i hr;cases h
      have:=Xq hr hp;rw[<-this];exact .nilCheckPtr this
    · rename_i hr;cases h
      have:=Xq hr hp;rw[<-this];exact .nilCheckElem this
    · rename_i hr;cases h
      have:=Xq hr hp;rw[<-this];exact .nilCheckFn this
    · cases h
  · exact Xt4 (λhq=>Xq rfl (Xf.1 hq).1) (λhq=>Xq rfl (Xf.1 hq).2) h hp
  · exact X00j (λhq=>Xq rfl hq) h hp
  · exact Xjj (λhq=>Xq rfl hq) h hp
  · split at h
    · rename_i hf
      obtain⟨ti,fs,ft,g1,g2,g3,g4⟩:=X5m hf;split at h
      · rename_i hz
        split at h
        · rename_i hr;cases h;exact .fieldAddrPtr (Xq hr hp) g1 g2 g3 g4 hz
        · rename_i hr;cases h;exact .fieldAddrElem (Xq hr hp) g1 g2 g3 g4 hz
        · cases h
      · cases h
    · cases h
  · split at h
    · rename_i hf
      obtain⟨ti,fs,ft,g1,g2,g3,g4⟩:=X5m hf;split at h
      · rename_i hr
        split at h
        · rename_i ha;cases h;exact .field (Xq hr hp) g1 g2 g3 g4 ha
        · cases h
      · cases h
    · cases h
  · split at h
    · rename_i hr
      exact Xg2 (λhq=>Xq rfl (Xf.1 hq).2) (λhq=>Xq hr (Xf.1 hq).1) h hp
    · cases h
  · split at h
    · rename_i hi
      split at h
      · rename_i hr
        split at h
        · rename_i ha
          obtain⟨ti,et,h1,h2,h3⟩:=X4h ha;split at h
          · split at h
            · rename_i hpa
              cases h
              obtain⟨p1,p2,p3⟩:=hp;obtain⟨p4,p5⟩:=Xf.1 p3;subst p1;exact .indexAgg (Xq hr p5) (Xq hi p4) (Int.natCast_nonneg _) (Int.ofNat_lt.2 p2) h1 h2 h3 hpa
            · cases h
          · split at h
            · rename_i hpa
              cases h
              obtain⟨p1,p2,p3⟩:=hp;obtain⟨p4,p5⟩:=Xf.1 p3;exact .indexAgg (Xq hr p5) (Xq hi p4) p1 p2 h1 h2 h3 hpa
            · cases h
        · cases h
      · rename_i hr
        split at h
        · rename_i ht
          split at h
          · rename_i hk
            split at h
            · cases h
              obtain⟨p1,⟨c,p2,rfl⟩,p3⟩:=hp;obtain⟨p4,p5⟩:=Xf.1 p3;exact .indexStr (Xq hr p5) (Xq hi p4) p1 ht hk p2
            · split at h
              · rename_i hb
                cases h
                obtain⟨p1,p3⟩:=hp;obtain⟨p4,p5⟩:=Xf.1 p3;exact .indexStr (Xq hr p5) (Xq hi p4) p1 ht hk hb
              · cases h
          · cases h
        · cases h
      · cases h
    · cases h
  · exact Xf9 (λhq=>Xq rfl hq) h hp
  · split at h
    · rename_i hs
      obtain⟨ti,et,h1,h2,h3⟩:=X0i hs;split at h
      rename_i a1 p1 hr;split at h
      · rename_i hb1
        split at h
        · rename_i hb2
          split at h
          all_goals first
            | (cases h
               obtain⟨rfl,rfl,p4⟩:=hp;obtain⟨b2,q2⟩:=X3a hb2 p4;obtain⟨b1,q1⟩:=X3a hb1 q2;have hx:=Xq hr q1;exact .sliceClone (by rw[hx];rfl) (λs hs=>by rw[hx] at hs;cases hs) b1 b2 h1 h2 h3)
            |cases h
        · cases h
      · cases h
    · cases h
  · split at h
    · rename_i hr
      split at h
      · rename_i hi
        cases h
        exact .extract (Xq hr hp) hi
      · cases h
    · cases h
  · split at h
    rename_i hr;cases h
    have:=X6n hr hp;refine X62 ?_;simp only[puF,this]
  · split at h
    rename_i hr;split at h
    · rename_i hl
      split at h
      · cases h
        obtain⟨rfl,hp⟩:=hp;rw[<-Xq hr hp] at hl;exact Xfx hl
      · cases h
        rw[<-Xq hr hp] at hl;exact Xfx hl
    · cases h
  · split at h
    rename_i hx hy;split at h
    · rename_i hl
      cases h
      obtain⟨p1,p2⟩:=Xf.1 hp;rw[<-Xq hx p1,<-Xq hy p2] at hl;exact Xnt hl
    · cases h
  · split at h
    rename_i hx hy;split at h
    · rename_i hl
      cases h
      obtain⟨p1,p2⟩:=Xf.1 hp;rw[<-Xq hx p1,<-Xq hy p2] at hl;exact Xnu hl
    · cases h
  · split at h
    rename_i hr;split at h
    · rename_i hl
      cases h
      rw[<-Xfl hr hp] at hl;exact Xhd hl
    · cases h
  · cases h
end Go.Av


namespace Go.Av
variable [Gls]
def srcS (H:X3) (a:AV) (ps:List Prop):Option (List AV×List Prop) :=
 match a with
 |.list _ es=>some (es,ps)
 |.nils=>some ([],ps)
 |.ref o off len=>match H o with
  |some x=>some ((x.es.drop off).take len,(off+len<=x.es.length)::ps)
  |none=>none
 |_=>none
theorem X2l {H:X3} {a:AV} {xs:List AV} {ps ps':List Prop} (h:srcS H a ps=some (xs,ps')) (hp:X28 ps'):X9t H a xs/\X28 ps:=by
 unfold srcS at h;split at h
 ·cases h;exact⟨.list,hp⟩
 ·cases h;exact⟨.nils,hp⟩
 ·split at h
  ·rename_i hH;cases h;exact⟨.ref hH hp.1,hp.2⟩
  ·cases h
 ·cases h
abbrev MR:=Option (AV×Eff×List X2j×List Prop)
def Xv4 (H:X3) (id:Nat) (te:TI) (s:AV) (xs:List AV) (hs:List X2j) (ps:List Prop):MR :=
 match s with
 |.nils=>if te.size≠0 then some (.ref id 0 xs.length,.new { es:=xs,esz:=te.size },hs,
   (xs≠[])::(xs.length<=maxLen)::(xs.length*te.bytes<=140737488355328)::(∀ e∈xs,e.cells.length=te.size)::ps) else none
 |.ref o 0 n=>match H o with
  |some y=>match y.spent with
   |false=>if y.esz=te.size then some (.ref id 0 (n+xs.length),.app o { es:=y.es++xs,esz:=te.size },hs,
     (y.es.length=n)::(xs≠[])::(n+xs.length<=maxLen)::((n+xs.length)*te.bytes<=140737488355328)::(∀ e∈xs,e.cells.length=te.size)::ps) else none
   |true=>none
  |none=>none
 |_=>none
def X5e:AV->Bool
 |.list ..|.ref ..|.nils=>true
 |_=>false
theorem X4v {a:AV} (h:X5e a=true):(∃ n,Xa6 a=some n)/\∀ u,a≠.sc (.string u):=by
 cases a<;>simp[X5e] at h<;>exact⟨⟨_,rfl⟩,λu hu=>by cases hu⟩
def mkS (T:Ty) (L:List (Nat×AV)) (H:X3) (id:Nat) (op:Op) (hs:List X2j):MR :=
 match op with
 |.box _ x=>match rd L x with
  |(a,ps)=>match a.whole with
   |true=>match a.cells with
    |[]=>none
    |_::_=>some (.ptr id 0 0,.new { es:=[a],esz:=a.cells.length },hs,ps)
   |false=>none
 |.alloc elem=>match T elem with
  |some ti=>if ti.size≠0 then X5k (X4y ti.zero) λz=>some (.ptr id 0 0,.new { es:=[z],esz:=ti.size },hs,[]) else none
  |none=>none
 |.buildSlice t len ps=>match X1v T t with
  |some te=>if len=0 then (match ps with
    |⟨[]⟩=>some (.nils,.none,hs,[])
    |_=>none)
   else if te.size≠0 then (if len*te.size<=2 ^ 24 then (match Xke L ps.toList with
    |(vs,qs)=>match X4w te.size (List.replicate len (X4y te.zero)) vs with
     |some es=>X6v es λes=>some (.ref id 0 len,.new { es:=es,esz:=te.size },hs,qs)
     |none=>none) else none) else none
  |none=>none
 |.makeSlice t l cc=>match X1v T t with
  |some te=>match rd L l,rd L cc with
   |(.sc (.int _ n),p),(.sc (.int _ m),q)=>match hs with
    |.ne false::hs=>some (.nils,.none,hs,(n=0)::(m=0)::(p++q))
    |hs=>if te.size≠0 then some (.ref id 0 n.toNat,.new { es:=List.replicate n.toNat (X4y te.zero),esz:=te.size },hs,
      (0<=n)::(n<=m)::(0<m)::(te.bytes*m<=2 ^ 48)::(m<2 ^ 62)::(p++q)) else none
   |_,_=>none
  |none=>none
 |.call { callee:=.builtin .append,args:=⟨[s,x]⟩,argTypes:=⟨[t,t']⟩ }=>if t=t' then (match X1v T t with
  |some te=>match rd L s,rd L x with
   |(a,p),(b,q)=>match srcS H b (p++q) with
    |some (xs,ps)=>match hs with
     |.ne false::hs=>match X5e a with
      |true=>some (a,.none,hs,(xs=[])::ps)
      |false=>none
     |.ne true::hs=>Xv4 H id te a xs hs ps
     |.via (.list _ xs')::hs=>Xv4 H id te a xs' hs ((xs=xs')::ps)
     |.stop _::_=>none
     |.no::hs=>X6v xs λxs=>match xs with
      |[]=>match X5e a with
       |true=>some (a,.none,hs,ps)
       |false=>none
      |e::r=>Xv4 H id te a (e::r) hs ps
     |hs=>X6v xs λxs=>match xs with
      |[]=>match X5e a with
       |true=>some (a,.none,hs,ps)
       |false=>none
      |e::r=>Xv4 H id te a (e::r) hs ps
    |none=>none
  |none=>none) else none
 |_=>none
theorem Xaf {T:Ty} {ev:Operand->AV} {H:X3} {id:Nat} {s x:Operand} {t:Nat} {ti te:TI} {et:Nat} {u:AV} {xs:List AV} {hs hs':List X2j} {ps ps':List Prop} {a:AV} {e:Eff}
  (ht:T t=some ti) (hk:ti.kind=.slice et) (hte:T et=some te) (hsu:X28 ps->ev s=u) (hx:X28 ps->X9t H (ev x) xs) (h:Xv4 H id te u xs hs ps=some (a,e,hs',ps')) (hp:X28 ps') :
  Mk T ev H id (.call { callee:=.builtin .append,args:=#[s,x],argTypes:=#[t,t] }) a e/\∀ old x,e=.app old x\/e=.new x->x.solo=true/\x.spent=false:=by
 unfold Xv4 at h;split at h
 ·split at h
  ·rename_i hz;cases h
   obtain⟨p1,p2,p3,p4,p5⟩:=hp;refine⟨.appendNil (hsu p5) (hx p5) p1 ht hk hte p4 hz p2 p3,λold y hy=>by rcases hy with hy|hy<;>cases hy;exact⟨rfl,rfl⟩⟩
  ·cases h
 ·split at h
  ·rename_i hH;split at h
   ·rename_i hsp;split at h
    ·rename_i hes;cases h
     obtain⟨p0,p1,p2,p3,p4,p5⟩:=hp;refine⟨.append (hsu p5) hH p0 hsp hes (hx p5) p1 ht hk hte p4 p2 p3,λold y hy=>by rcases hy with hy|hy<;>cases hy;exact⟨rfl,rfl⟩⟩
    ·cases h
   ·cases h
  ·cases h
 ·cases h
theorem Xd1 {T:Ty} {L:List (Nat×AV)} {H:X3} {id:Nat} {op:Op} {hs hs':List X2j} {ps:List Prop} {a:AV} {e:Eff} (h:mkS T L H id op hs=some (a,e,hs',ps)) (hp:X28 ps) :
  Mk T (evA (fr L)) H id op a e/\∀ old x,e=.app old x\/e=.new x->x.solo=true/\x.spent=false:=by
 unfold mkS at h;split at h
 ·split at h
  rename_i hr;split at h
  ·rename_i hw;split at h
   ·cases h
   ·rename_i hc;cases h
    have:=Xq hr hp;rw[<-this];exact⟨.box (by rw[this];exact hw) (by rw[this,hc];simp),λold y hy=>by rcases hy with hy|hy<;>cases hy;exact⟨rfl,rfl⟩⟩
  ·cases h
 ·split at h
  ·rename_i ht;split at h
   ·rename_i hz;rw[X35,X43] at h;cases h
    exact⟨.alloc ht hz,λold y hy=>by rcases hy with hy|hy<;>cases hy;exact⟨rfl,rfl⟩⟩
   ·cases h
  ·cases h
 ·split at h
  ·rename_i hs;obtain⟨ti,et,h1,h2,h3⟩:=X0i hs;split at h
   ·rename_i hl;subst hl;split at h
    ·cases h
     exact⟨.slice0 h1 h2 h3,λold y hy=>by rcases hy with hy|hy<;>cases hy⟩
    ·cases h
   ·rename_i hl;split at h
    ·rename_i hz;split at h
     ·rename_i hb;split at h
      rename_i hr;split at h
      ·rename_i hsp;rw[X5i] at h;cases h
       rw[<-Xfl hr hp,X43] at hsp;exact⟨.buildSlice h1 h2 h3 hl hz hb hsp,λold y hy=>by rcases hy with hy|hy<;>cases hy;exact⟨rfl,rfl⟩⟩
      ·cases h
     ·cases h
    ·cases h
  ·cases h
 ·split at h
  ·rename_i hs;obtain⟨ti,et,h1,h2,h3⟩:=X0i hs;split at h
   ·rename_i hl hc;split at h
    ·cases h
     obtain⟨rfl,rfl,p3⟩:=hp;obtain⟨q1,q2⟩:=Xf.1 p3;exact⟨.make0 (Xq hl q1) (Xq hc q2) h1 h2 h3,λold y hy=>by rcases hy with hy|hy<;>cases hy⟩
    ·split at h
     ·rename_i hz;cases h
      obtain⟨p1,p2,p3,p4,p5,p6⟩:=hp;obtain⟨q1,q2⟩:=Xf.1 p6;rw[X43];exact⟨.make (Xq hl q1) (Xq hc q2) p1 p2 p3 h1 h2 h3 hz p4 p5,λold y hy=>by rcases hy with hy|hy<;>cases hy;exact⟨rfl,rfl⟩⟩
     ·cases h
   ·cases h
  ·cases h
 ·split at h
  ·rename_i htt;subst htt;split at h
   ·rename_i hs;obtain⟨ti,et,h1,h2,h3⟩:=X0i hs;split at h
    rename_i hra hrb;split at h
    ·rename_i hsrc;split at h
     ·split at h
      ·rename_i hsl;cases h
       obtain⟨rfl,p2⟩:=hp;obtain⟨s1,s2⟩:=X2l hsrc p2;obtain⟨q1,q2⟩:=Xf.1 s2;have e1:=Xq hra q1;have e2:=Xq hrb q2;obtain⟨⟨n,hn⟩,hu⟩:=X4v hsl;rw[<-e1] at hn hu ⊢;rw[<-e2] at s1;exact⟨.append0 hn hu s1 h1 h2 h3,λold y hy=>by rcases hy with hy|hy<;>cases hy⟩
      ·cases h
     ·refine Xaf h1 h2 h3 (λhq=>?_) (λhq=>?_) h hp
      ·exact Xq hra (Xf.1 (X2l hsrc hq).2).1
      ·rw[Xq hrb (Xf.1 (X2l hsrc hq).2).2];exact(X2l hsrc hq).1
     ·refine Xaf h1 h2 h3 (λhq=>?_) (λhq=>?_) h hp
      ·exact Xq hra (Xf.1 (X2l hsrc hq.2).2).1
      ·rw[Xq hrb (Xf.1 (X2l hsrc hq.2).2).2,<-hq.1];exact(X2l hsrc hq.2).1
     ·cases h
     ·rw[X5i] at h;split at h
      ·split at h
       ·rename_i hsl;cases h
        obtain⟨s1,s2⟩:=X2l hsrc hp;obtain⟨q1,q2⟩:=Xf.1 s2;have e1:=Xq hra q1;have e2:=Xq hrb q2;obtain⟨⟨n,hn⟩,hu⟩:=X4v hsl;rw[<-e1] at hn hu ⊢;rw[<-e2] at s1;exact⟨.append0 hn hu s1 h1 h2 h3,λold y hy=>by rcases hy with hy|hy<;>cases hy⟩
       ·cases h
      ·refine Xaf h1 h2 h3 (λhq=>?_) (λhq=>?_) h hp
       ·exact Xq hra (Xf.1 (X2l hsrc hq).2).1
       ·rw[Xq hrb (Xf.1 (X2l hsrc hq).2).2];exact(X2l hsrc hq).1
     ·rw[X5i] at h;split at h
      ·split at h
       ·rename_i hsl;cases h
        obtain⟨s1,s2⟩:=X2l hsrc hp;obtain⟨q1,q2⟩:=Xf.1 s2;have e1:=Xq hra q1;have e2:=Xq hrb q2;obtain⟨⟨n,hn⟩,hu⟩:=X4v hsl;rw[<-e1] at hn hu ⊢;rw[<-e2] at s1;exact⟨.append0 hn hu s1 h1 h2 h3,λold y hy=>by rcases hy with hy|hy<;>cases hy⟩
       ·cases h
      ·refine Xaf h1 h2 h3 (λhq=>?_) (λhq=>?_) h hp
       ·exact Xq hra (Xf.1 (X2l hsrc hq).2).1
       ·rw[Xq hrb (Xf.1 (X2l hsrc hq).2).2];exact(X2l hsrc hq).1
    ·cases h
   ·cases h
  ·cases h
 ·cases h
def Xgz (o:Nat):List (Nat×Obj)->List (Nat×Obj)
 |[]=>[]
 |(d,x)::l=>bif Nat.beq d o then Xgz o l else (d,x)::Xgz o l
theorem Xcc (o:Nat):∀ G:List (Nat×Obj),hp (Xgz o G)=upd (hp G) o none:=by
 intro G;funext q
 induction G with
 |nil=>simp[Xgz,hp,upd]
 |cons a l ih =>
  obtain⟨d,x⟩:=a;simp only[Xgz]
  cases hb:Nat.beq d o with
  |true =>
   have hd:d=o:=Nat.eq_of_beq_eq_true hb;subst hd;simp only[cond_true,ih,hp];by_cases hq:q=d
   ·subst hq;rw[X1,X1]
   ·have:Nat.beq q d=false:=by rw[<-Bool.not_eq_true,Nat.beq_eq];exact hq
    rw[X0 _ _ hq,X0 _ _ hq];simp only[this,cond_false]
  |false =>
   have hd:d≠o:=λe=>by rw[e,Nat.beq_refl] at hb;cases hb
   simp only[cond_false,hp,ih];by_cases hq:q=o
   ·subst hq;have:Nat.beq q d=false:=by rw[<-Bool.not_eq_true,Nat.beq_eq];exact λe=>hd e.symm
    rw[this,X1,cond_false,X1]
   ·rw[X0 _ _ hq,X0 _ _ hq]
theorem X7b (o:Nat) (x:Obj) (G:List (Nat×Obj)) (hx:x.gone=false):hp ((o,x)::G)=upd (hp G) o (some x):=by
 funext q
 simp only[hp,hx,cond_false];by_cases h:q=o
 ·subst h;rw[X1];simp
 ·have:Nat.beq q o=false:=by rw[<-Bool.not_eq_true,Nat.beq_eq];exact h
  rw[X0 _ _ h,this];rfl
theorem Xc4 (o:Nat) (x:Obj) (G:List (Nat×Obj)) (hx:x.gone=false):hp ((o,x)::Xgz o G)=upd (hp G) o (some x):=by
 rw[X7b _ _ _ hx,Xcc];funext q
 by_cases hq:q=o
 ·subst hq;rw[X1,X1]
 ·rw[X0 _ _ hq,X0 _ _ hq,X0 _ _ hq]
def effS (id:Nat) (G:List (Nat×Obj)):Eff->List (Nat×Obj)
 |.none=>G
 |.new x=>(id,x)::G
 |.app old x=>(id,x)::Xgz old G
def Xj7:Eff->Bool
 |.none=>true
 |.new x=>!x.gone
 |.app _ x=>!x.gone
theorem Xor (id:Nat) (G:List (Nat×Obj)) (e:Eff) (he:Xj7 e=true):hp (effS id G e)=e.seq id (hp G):=by
 cases e with
 |none=>rfl
 |new x=>exact X7b _ _ _ (by simpa[Xj7] using he)
 |app old x=>simp only[effS,Eff.seq,X7b _ _ _ (show x.gone=false by simpa[Xj7] using he),Xcc]
structure X5v (P:Program) (f:Nat) (H:X3) (as bs:List AV) (r:AV):Prop where
 isPure:X32 P f bs r
 lends:∃ Hr,Cvs false Hr as bs/\(∀ o x,Hr o=some x->H o=some x)/\(Xbm r\/∀ o,Hr o=none)
structure Xte (P:Program) (f:Nat) (as:List AV) (G:List (Nat×Obj)) (n:Nat) (r:AV) (G':List (Nat×Obj)) (n':Nat):Prop where
 hc:HC P f as (hp G) n (λr2 H2 n2=>r2=r/\H2=hp G'/\n2=n')
def stO (T:Ty) (L:List (Nat×AV)) (G:List (Nat×Obj)) (t:Nat) (p x:Operand) (hs:List X2j):Option (Nat×Obj×List X2j×List Prop) :=
 match T t with
 |some ti=>match rd L p,rd L x with
  |(.ptr o i k,p1),(v,p2)=>match hp G o with
   |some y=>match y.solo,v.whole with
    |true,true=>match hs with
     |.ld e::hs=>if v.cells.length=ti.size then (if k+ti.size<=e.cells.length then (if ti.size≠0 then
       some (o,{ y with es:=y.es.set i (X2k e k v) },hs,(y.es[i]?=some e)::(p1++p2)) else none) else none) else none
     |hs=>match y.es[i]? with
      |some e=>if v.cells.length=ti.size then (if k+ti.size<=e.cells.length then (if ti.size≠0 then
       X5k (X2k e k v) λw=>X6v (y.es.set i w) λes=>some (o,{ y with es:=es },hs,p1++p2) else none) else none) else none
      |none=>none
    |_,_=>none
   |none=>none
  |_,_=>none
 |none=>none
theorem Xkb {T:Ty} {L:List (Nat×AV)} {G:List (Nat×Obj)} {t q:Nat} {z:Obj} {p x:Operand} {hs hs':List X2j} {ps:List Prop} (h:stO T L G t p x hs=some (q,z,hs',ps)) (hp':X28 ps) :
  ∃ i k y e ti,evA (fr L) p=.ptr q i k/\hp G q=some y/\y.solo=true/\y.es[i]?=some e/\T t=some ti/\(evA (fr L) x).whole=true/\(evA (fr L) x).cells.length=ti.size/\k+ti.size<=e.cells.length/\ti.size≠0 /\
   z={ y with es:=y.es.set i (X2k e k (evA (fr L) x)) }:=by
 unfold stO at h;split at h
 ·rename_i ht;split at h
  ·rename_i hrp hrx;split at h
   ·rename_i hH;split at h
    ·rename_i hs1 hw1;split at h
     ·split at h
      ·rename_i c1;split at h
       ·rename_i c2;split at h
        ·rename_i c3;cases h
         obtain⟨q1,q2⟩:=hp';obtain⟨q3,q4⟩:=Xf.1 q2;have e1:=Xq hrp q3;have e2:=Xq hrx q4;rw[<-e2] at hw1 c1;exact⟨_,_,_,_,_,e1,hH,hs1,q1,ht,hw1,c1,c2,c3,by rw[e2]⟩
        ·cases h
       ·cases h
      ·cases h
     ·split at h
      ·rename_i he;split at h
       ·rename_i c1;split at h
        ·rename_i c2;split at h
         ·rename_i c3;rw[X35,X5i] at h;cases h
          obtain⟨q3,q4⟩:=Xf.1 hp';have e1:=Xq hrp q3;have e2:=Xq hrx q4;rw[<-e2] at hw1 c1;exact⟨_,_,_,_,_,e1,hH,hs1,he,ht,hw1,c1,c2,c3,by rw[e2]⟩
         ·cases h
        ·cases h
       ·cases h
      ·cases h
    ·cases h
   ·cases h
  ·cases h
 ·cases h
def stS (T:Ty) (L:List (Nat×AV)) (G:List (Nat×Obj)) (t:Nat) (p x:Operand) (hs:List X2j):Option (List (Nat×Obj)×List X2j×List Prop) :=
 match stO T L G t p x hs with
 |some (o,z,hs,ps)=>some ((o,z)::Xgz o G,hs,ps)
 |none=>none
theorem X00n {T:Ty} {L:List (Nat×AV)} {G G':List (Nat×Obj)} {t:Nat} {p x:Operand} {hs hs':List X2j} {ps:List Prop} (h:stS T L G t p x hs=some (G',hs',ps)) (hp':X28 ps) :
  StR T (evA (fr L)) (hp G) (.store t p x) (hp G'):=by
 unfold stS at h;split at h
 ·rename_i ho;cases h
  obtain⟨i,k,y,e,ti,h1,h2,h3,h4,h5,h6,h7,h8,h9,rfl⟩:=Xkb ho hp';have hgn:({ y with es:=y.es.set i (X2k e k (evA (fr L) x)) }:Obj).gone=false:=show y.gone=false from Xa8 h2;rw[Xc4 _ _ _ hgn];exact .store h1 h2 h3 h4 h5 h6 h7 h8 h9
 ·cases h
abbrev OR:=Option (AV×List (Nat×Obj)×Nat×List X2j×List Prop)
def quS (P:Program) (T:Ty) (L:List (Nat×AV)) (G:List (Nat×Obj)) (op:Op) (hs:List X2j):PR :=
 match op with
 |.call { callee:=.value x,args:=args,argTypes:=_ }=>match hs with
  |.pure bs r::hs=>match rd L x with
   |(.fn f caps,p)=>match rds L args.toList with
    |(as,q)=>some (r,hs,X5v P f (hp G) (as++caps) bs r::(p++q))
   |_=>none
  |_=>none
 |op=>puS T L (hp G) op hs
theorem Xfn {P:Program} {T:Ty} {nt:Nat} {L:List (Nat×AV)} {G:List (Nat×Obj)} {n:Nat} {o:Oper} {hs hs':List X2j} {ps:List Prop} {a:AV} (hT:X2i P T)
  (h:quS P T L G o.op hs=some (a,hs',ps)) (hp':X28 ps):OpR P nt o ⟨fr L,hp G,n⟩ (λa' H' n2=>a'=a/\H'=hp G/\n2=n):=by
 unfold quS at h;split at h
 ·rename_i ho;split at h
  ·split at h
   ·rename_i hx;split at h
    rename_i hargs;cases h
    obtain⟨⟨p1,Hr,p2,p3,p4⟩,q⟩:=hp';obtain⟨q1,q2⟩:=Xf.1 q;refine OpR.call (s:=⟨fr L,hp G,n⟩) ho (Xq hx q1) ?_;rw[X6n hargs q2];exact HC.of_pure p1 p2 p3 p4
   ·cases h
  ·cases h
 ·exact OpR.pu hT (s:=⟨fr L,hp G,n⟩) (Xkg h hp')
def opS (P:Program) (T:Ty) (L:List (Nat×AV)) (G:List (Nat×Obj)) (n:Nat) (op:Op) (hs:List X2j):OR :=
 match op with
 |.store t p x=>match stS T L G t p x hs with
  |some (G,hs,ps)=>some (.sc undef,G,n,hs,ps)
  |none=>none
 |.call { callee:=.value x,args:=args,argTypes:=ts }=>match hs with
  |.call r G' n'::hs=>match rd L x with
   |(.fn f caps,p)=>match rds L args.toList with
    |(as,q)=>some (r,G',n',hs,Xte P f (as++caps) G n r G' n'::(p++q))
   |_=>none
  |hs=>match quS P T L G (.call { callee:=.value x,args:=args,argTypes:=ts }) hs with
   |some (a,hs,ps)=>some (a,G,n,hs,ps)
   |none=>none
 |op=>match quS P T L G op hs with
  |some (a,hs,ps)=>some (a,G,n,hs,ps)
  |none=>match mkS T L (hp G) n op hs with
   |some (a,e,hs,ps)=>match Xj7 e with
    |true=>some (a,effS n G e,n+1,hs,ps)
    |false=>none
   |none=>none
theorem Xkj {P:Program} {T:Ty} {nt:Nat} {L:List (Nat×AV)} {G G':List (Nat×Obj)} {n n':Nat} {o:Oper} {hs hs':List X2j} {ps:List Prop} {a:AV} (hT:X2i P T)
  (h:opS P T L G n o.op hs=some (a,G',n',hs',ps)) (hp':X28 ps):OpR P nt o ⟨fr L,hp G,n⟩ (λa' H' n2=>a'=a/\H'=hp G'/\n2=n'):=by
 unfold opS at h;split at h
 ·rename_i ho;split at h
  ·rename_i hs;cases h
   have:=X00n hs hp';exact OpR.st hT (s:=⟨fr L,hp G,n⟩) (by rw[ho];exact this)
  ·cases h
 ·rename_i ho;split at h
  ·split at h
   ·rename_i hx;split at h
    rename_i hargs;cases h
    obtain⟨p1,q⟩:=hp';obtain⟨q1,q2⟩:=Xf.1 q;refine OpR.call (s:=⟨fr L,hp G,n⟩) ho (Xq hx q1) ?_;rw[X6n hargs q2];exact p1.hc
   ·cases h
  ·split at h
   ·rename_i hq;cases h
    rw[<-ho] at hq;exact Xfn hT hq hp'
   ·cases h
 ·split at h
  ·rename_i hpu;cases h
   exact Xfn hT hpu hp'
  ·split at h
   ·rename_i hmk;split at h
    ·rename_i he;cases h
     obtain⟨h1,h2⟩:=Xd1 hmk hp';rw[Xor _ _ _ he];exact OpR.mk hT (s:=⟨fr L,hp G,n⟩) h1 h2
    ·cases h
   ·cases h
end Go.Av


namespace Go.Av
variable [Gls]
def X8z (R:Option Nat) (P:Program) (c:Code) (Q:Exit->Act->World->Prop) (a:Act) (w:World):Prop :=
 ∀ (b:Frame) (k:List Item) (cs:List Frame),b.roundOf=R->∃ e a' w',Q e a' w'/\ArrivesIn (Machine.fenced P (FR R)) P (lone (b.atR a (.code c::.inLoop c::k)) cs w) b k cs e a' w'
theorem X8z.start {R:Option Nat} {P:Program} {c:Code} {Q:Exit->Act->World->Prop} {a:Act} {w:World} (h:X8z R P c Q a w):wpR R P (Code.loop c) Q a w:=by
 intro b k cs hro hb hr;obtain⟨e,a',w',hq,harr⟩:=h b k cs hro;exact⟨e,a',w',hq,.of_steps (.one (Xbc P R _) stepR_loop) harr⟩
theorem X8z.round {R:Option Nat} {P:Program} {c:Code} {Q:Exit->Act->World->Prop} {a:Act} {w:World} (h:wpR R P c (Exit.then (X8z R P c Q) Q) a w):X8z R P c Q a w:=by
 intro b k cs hro;obtain⟨e,a₁,w₁,hq,harr⟩:=h b (.inLoop c::k) cs hro trivial (Xmh R _)
 cases e with
 |normal =>
  obtain⟨e₂,a₂,w₂,hq₂,harr₂⟩:=hq b k cs hro;exact⟨e₂,a₂,w₂,hq₂,.of_steps (StepsIn.trans harr (.one (Xbc P R _) stepR_inLoop)) harr₂⟩
 |exit id=>exact⟨_,a₁,w₁,hq,.pass (x:=.inLoop c) rfl (λ_ _=>.inl (by simp)) harr⟩
 |goto l=>exact⟨_,a₁,w₁,hq,.pass (x:=.inLoop c) rfl (λ_ _=>.inl (by simp)) harr⟩
 |ret=>exact⟨_,a₁,w₁,hq,.pass (x:=.inLoop c) rfl (λ_ _=>.inl (by simp)) harr⟩
 |panic ch=>exact⟨_,a₁,w₁,hq,.pass (x:=.inLoop c) rfl (λ_ _=>.inl (by simp)) harr⟩
 |outgrown=>exact⟨_,a₁,w₁,hq,.pass (x:=.inLoop c) rfl (λ_ _=>.inl (by simp)) harr⟩
def X2x (P:Program) (nt n0:Nat) (b:Code) (Q:X2->St->Mu->Prop) (s:St) (μ:Mu):Prop :=
 ∀ (c0:Ctx) (H0:X3) (c:Ctx) (act:Act),X1r nt c0 H0 n0 c s act->MOk n0 c0 H0 c s.H μ act->∀ R,RG b R->X8z R P b (MQ nt c0 H0 n0 Q) act c.w
def rndM (P:Program) (nt n0:Nat) (b:Code) (Q:X2->St->Mu->Prop):X2->St->Mu->Prop
 |.normal,s,μ=>X2x P nt n0 b Q s μ
 |e,s,μ=>Q e s μ
theorem X1q.loop {P:Program} {nt n0:Nat} {b:Code} {Q:X2->St->Mu->Prop} {s:St} {μ:Mu} (h:X2x P nt n0 b Q s μ):X1q P nt n0 (.loop b) Q s μ :=
 λc0 H0 c act g hm R hR=>(h c0 H0 c act g hm R hR).start
theorem X2x.round {P:Program} {nt n0:Nat} {b:Code} {Q:X2->St->Mu->Prop} {s:St} {μ:Mu} (h:X1q P nt n0 b (rndM P nt n0 b Q) s μ):X2x P nt n0 b Q s μ:=by
 intro c0 H0 c act g hm R hR;refine X8z.round (wpIn_mono (h c0 H0 c act g hm R hR) ?_);rintro e a w ⟨c',s',ae,μ',rfl,g',hm',rfl,hq⟩
 cases ae with
 |normal=>exact hq c0 H0 c' a g' hm' R hR
 |exit id=>exact⟨c',s',.exit id,μ',rfl,g',hm',rfl,hq⟩
 |ret=>exact⟨c',s',.ret,μ',rfl,g',hm',rfl,hq⟩
section
variable {P:Program} {nt n0:Nat} {s:St} {μ:Mu} {ops:Array Oper} {l:List Oper} {o:Oper} {K:St->Mu->Prop}
theorem X1t.nil (h:K s μ):X1t P nt n0 ops [] K s μ:=λ_ _ c act g hm Qx hQ _ _=>X89 (hQ c s act μ g hm h)
theorem X1t.step {R:AV->X3->Nat->Prop} (hw:∀ (c0 c:Ctx) (H0:X3) (act:Act),X1r nt c0 H0 n0 c s act->Region.wanted o (yielded ops act.tmps)=true) (hd:∀ d,o.dst=some d->d<nt) (h:OpR P nt o s R)
  (hn:∀ a H' n',R a H' n'->X1t P nt n0 ops l K ⟨X2h s.A o.dst a,H',n'⟩ μ):X1t P nt n0 ops (o::l) K s μ:=by
 intro c0 H0 c act g hm Qx hQ R hR;refine X0s λK' hK'=>?_;rw[if_pos (hw c0 c H0 act g)];refine h c s.H n0 c act g.rebase K' Qx (λc' a H' n' v hr hgood=>?_) R;have g2:=hgood o.dst hd;exact hK' _ _ (hn a H' n' hr c0 H0 c' _ (.join g.reach g2) (hm.kept g2.reach) Qx hQ R hR)
theorem X1t.plain {R:AV->X3->Nat->Prop} (hg:o.guard=none) (hd:∀ d,o.dst=some d->d<nt) (h:OpR P nt o s R)
  (hn:∀ a H' n',R a H' n'->X1t P nt n0 ops l K ⟨X2h s.A o.dst a,H',n'⟩ μ):X1t P nt n0 ops (o::l) K s μ :=
 X1t.step (λ_ _ _ _ _=>by simp[Region.wanted,hg]) hd h hn
def gdS (want:Bool):AV->Option Bool
 |.sc (.bool b)=>match want with
  |true=>some b
  |false=>some (!b)
 |.cond g (.sc (.bool b))=>match want with
  |true=>some (g&&b)
  |false=>some (g&&!b)
 |_=>none
theorem X5b {j t:Nat} {want g:Bool} (hg:o.guard=some (j,want)) (hj:(ops[j]?).bind (·.dst)=some t) (ht:Nat.blt t nt=true) (hb:gdS want (s.A t)=some g)
  {c0 c:Ctx} {H0:X3} {act:Act} (gd:X1r nt c0 H0 n0 c s act):Region.wanted o (yielded ops act.tmps)=g:=by
 have hlt:t<act.tmps.size:=by rw[gd.size];simpa using ht
 have hf:=gd.frame t;have hy:∀ v,act.tmps.getD t undef=v->yielded ops act.tmps j=(match v with|.bool b=>some b|_=>none):=by
  intro v hv;unfold yielded;rw[hj];simp only[Option.bind_some,Array.getElem?_eq_getElem hlt];have:act.tmps[t]=v:=by simpa[hlt] using hv
  rw[this];cases v<;>rfl
 unfold gdS at hb;split at hb
 ·rename_i b hA;rw[hA] at hf;have:=hy _ hf.sc_inv;simp only at this;unfold Region.wanted;rw[hg];simp only[this];cases b<;>(split at hb<;>cases hb<;>rfl)
 ·rename_i q b hA;rw[hA] at hf
  cases hf with
  |cond h hn =>
   cases q with
   |true =>
    have:=hy _ (h rfl).sc_inv;simp only at this;unfold Region.wanted;rw[hg];simp only[this];cases b<;>(split at hb<;>cases hb<;>rfl)
   |false =>
    have:=hy _ (hn rfl);have hu:yielded ops act.tmps j=none:=this;unfold Region.wanted;rw[hg];simp only[hu];split at hb<;>cases hb<;>rfl
 ·cases hb
theorem X1t.skip {j t:Nat} {want:Bool} (hg:o.guard=some (j,want)) (hj:(ops[j]?).bind (·.dst)=some t) (ht:Nat.blt t nt=true) (hb:gdS want (s.A t)=some false)
  (hd:∀ d,o.dst=some d->d<nt) (hn:X1t P nt n0 ops l K ⟨X2h s.A o.dst (.cond false (.sc (.bool false))),s.H,s.n⟩ μ):X1t P nt n0 ops (o::l) K s μ:=by
 intro c0 H0 c act g hm Qx hQ R hR;refine X0s λK' hK'=>?_;rw[if_neg (by rw[X5b hg hj ht hb g];simp)];have g2:X1r nt c s.H n0 c _ _:=g.rebase.next hd (.refl c) rfl (λb hb=>.inl hb) (.refl c s.H) (λq x hx=>.inr ⟨q,x,hx,rfl⟩) g.inv g.solo (Nat.le_refl _) (v:=undef) (a:=.cond false (.sc (.bool false))) (.cond (λh=>by cases h) (λ_=>rfl)) (.cond .sc);exact hK' _ _ (hn c0 H0 c _ (.join g.reach g2) (hm.kept g2.reach) Qx hQ R hR)
theorem X1t.quiet {j t:Nat} {want b:Bool} {a:AV} (hg:o.guard=some (j,want)) (hj:(ops[j]?).bind (·.dst)=some t) (ht:Nat.blt t nt=true) (hb:gdS want (s.A t)=some b)
  (hd:∀ d,o.dst=some d->d<nt) (hok:a.Ok (·<s.n)) (h:b=true->OpR P nt o s (λa' H' n'=>a'=a/\H'=s.H/\n'=s.n))
  (hn:X1t P nt n0 ops l K ⟨X2h s.A o.dst (.cond b a),s.H,s.n⟩ μ):X1t P nt n0 ops (o::l) K s μ:=by
 cases b with
 |true =>
  refine X1t.step (λc0 c H0 act g=>X5b hg hj ht hb g) hd (R:=λa' H' n'=>(a'=.cond true a)/\H'=s.H/\n'=s.n) ?_ ?_
  ·intro c0 H0 n0 c act g K Q hK R;refine h rfl c0 H0 n0 c act g K Q (λc' a' H' n' v hR hgood=>?_) R;obtain⟨rfl,rfl,rfl⟩:=hR;refine hK c' (.cond true a') _ _ v ⟨rfl,rfl,rfl⟩ λdst hd=>?_;have g2:=hgood dst hd;refine⟨g2.inv,g2.solo,λq=>?_,λq=>?_,g2.size,g2.reach,g2.le0⟩
   ·have h1:=g2.frame q
    cases dst with
    |none=>exact h1
    |some d =>
     simp only[X2h] at h1 ⊢;by_cases hq:q=d
     ·subst hq;rw[X1] at h1 ⊢;exact .cond (λ_=>h1) (λh=>by cases h)
     ·rw[X0 _ _ hq] at h1 ⊢;exact h1
   ·have h1:=g2.ok q
    cases dst with
    |none=>exact h1
    |some d =>
     simp only[X2h] at h1 ⊢;by_cases hq:q=d
     ·subst hq;rw[X1] at h1 ⊢;exact .cond h1
     ·rw[X0 _ _ hq] at h1 ⊢;exact h1
  ·rintro _ _ _ ⟨rfl,rfl,rfl⟩;exact hn
 |false =>
  intro c0 H0 c act g hm Qx hQ R hR;refine X0s λK' hK'=>?_;rw[if_neg (by rw[X5b hg hj ht hb g];simp)];have g2:X1r nt c s.H n0 c _ _:=g.rebase.next hd (.refl c) rfl (λb hb=>.inl hb) (.refl c s.H) (λq x hx=>.inr ⟨q,x,hx,rfl⟩) g.inv g.solo (Nat.le_refl _) (v:=undef) (a:=.cond false a) (.cond (λh=>by cases h) (λ_=>rfl)) (.cond hok);exact hK' _ _ (hn c0 H0 c _ (.join g.reach g2) (hm.kept g2.reach) Qx hQ R hR)
theorem X1q.region {id:Nat} {Q:X2->St->Mu->Prop} (h:X1t P nt n0 ops ops.toList (λs μ=>Q .normal s μ) s μ):X1q P nt n0 (.region id ops false) Q s μ:=by
 intro c0 H0 c act g hm R _;exact wpIn_region_list (h c0 H0 c act g hm _ (λc' s' act' μ' g' hm' hq=>⟨c',s',.normal,μ',rfl,g',hm',rfl,hq⟩) (some R) (λh=>by cases h))
end
mutual
theorem X9i (M:Nat->Bool):∀ (a:AV),AV.okB M a=true->a.Ok (λo=>M o=true)
 |.junk=>λ_=>.junk
 |.sc _=>λ_=>.sc
 |.nils=>λ_=>.nils
 |.agg cs=>λh=>.agg (Xa2 M cs h)
 |.tup cs=>λh=>.tup (Xa2 M cs h)
 |.list ..=>λ_=>.list
 |.ref ..=>λh=>.ref h
 |.ptr ..=>λh=>.ptr h
 |.elem ..=>λ_=>.elem
 |.fn _ caps=>λh=>.fn (Xa2 M caps h)
 |.mref ..=>λh=>.mref h
 |.cond _ v=>λh=>.cond (X9i M v h)
 |.mv _ v=>λh=>.mv (X9i M v h)
theorem Xa2 (M:Nat->Bool):∀ (l:List AV),AV.oksB M l=true->∀ a∈l,a.Ok (λo=>M o=true)
 |[]=>λ_ _ h=>by cases h
 |a::r=>λh x hx=>by
  have h':(AV.okB M a&&AV.oksB M r)=true:=h;simp only[Bool.and_eq_true] at h';rcases List.mem_cons.1 hx with he|hx
  ·rw[he];exact X9i M a h'.1
  ·exact Xa2 M r h'.2 x hx
end
theorem okLt {n:Nat} {a:AV} (h:AV.okB (λo=>Nat.blt o n) a=true):a.Ok (·<n):=(X9i _ a h).mono λo ho=>by simpa using ho
inductive Kn where
 |seq (c:Code)
 |block (id:Nat)
 |loop (b:Code)
inductive Cf where
 |code (c:Code)
 |exit (e:X2)
 |ops (ops:Array Oper) (l:List Oper)
 |loop (b:Code)
def Cl (nt n0:Nat) (Q:X2->St->Mu->Prop):X2->St->Mu->Prop:=λe s μ =>
 ∀ (c0:Ctx) (H0:X3) (c:Ctx) (act:Act),X1r nt c0 H0 n0 c s act->MOk n0 c0 H0 c s.H μ act->∃ c' s',c'.w=c.w/\X1r nt c0 H0 n0 c' s' act/\MOk n0 c0 H0 c' s'.H μ act/\Q e s' μ
theorem Cl.mk {nt n0:Nat} {Q:X2->St->Mu->Prop} {e:X2} {s:St} {μ:Mu} (h:Q e s μ):Cl nt n0 Q e s μ:=λ_ _ c _ g hm=>⟨c,s,rfl,g,hm,h⟩
theorem X1q.ofCl {P:Program} {nt n0:Nat} {Q:X2->St->Mu->Prop} {code:Code} {s:St} {μ:Mu} (h:X1q P nt n0 code (Cl nt n0 Q) s μ):X1q P nt n0 code Q s μ:=by
 intro c0 H0 c act g hm R hR;refine wpIn_mono (h c0 H0 c act g hm R hR) ?_;rintro e a w ⟨c',s',ae,μ',rfl,g',hm',rfl,hq⟩;obtain⟨c2,s2,h1,h2,h3,h4⟩:=hq c0 H0 c' a g' hm';exact⟨c2,s2,ae,μ',h1,h2,h3,rfl,h4⟩
def X6c (P:Program) (nt n0:Nat) (Q:X2->St->Mu->Prop):List Kn->X2->St->Mu->Prop
 |[]=>Cl nt n0 Q
 |.seq c::K=>seqM P nt n0 c (X6c P nt n0 Q K)
 |.block id::K=>X3r id (X6c P nt n0 Q K)
 |.loop b::K=>rndM P nt n0 b (X6c P nt n0 Q K)
def Xk (P:Program) (nt n0:Nat) (Q:X2->St->Mu->Prop) (cf:Cf) (K:List Kn) (s:St) (μ:Mu):Prop :=
 match cf with
 |.code c=>X1q P nt n0 c (X6c P nt n0 Q K) s μ
 |.exit e=>X6c P nt n0 Q K e s μ
 |.ops ops l=>X1t P nt n0 ops l (λs μ=>X6c P nt n0 Q K .normal s μ) s μ
 |.loop b=>X2x P nt n0 b (X6c P nt n0 Q K) s μ
def SSt (L:List (Nat×AV)) (G:List (Nat×Obj)) (n:Nat):St:=⟨fr L,hp G,n⟩
def Xig {β:Type} (d:Option Nat) (a:AV) (L:List (Nat×AV)) (k:List (Nat×AV)->Option β):Option β :=
 match d with
 |some d=>k ((d,a)::L)
 |none=>k L
def Xdz (d:Option Nat) (a:AV) (L:List (Nat×AV)):List (Nat×AV) :=
 match d with
 |some d=>(d,a)::L
 |none=>L
theorem X5f {β:Type} (d:Option Nat) (a:AV) (L:List (Nat×AV)) (k:List (Nat×AV)->Option β):Xig d a L k=k (Xdz d a L):=by cases d<;>rfl
theorem X2a (d:Option Nat) (a:AV) (L:List (Nat×AV)):fr (Xdz d a L)=X2h (fr L) d a:=by
 cases d<;>rfl
def X7p {β:Type}:List (Nat×Obj)->(List (Nat×Obj)->Option β)->Option β
 |[],k=>k []
 |p::r,k=>X7p r λr=>k (p::r)
theorem X5j {β:Type}:∀ (G:List (Nat×Obj)) (k:List (Nat×Obj)->Option β),X7p G k=k G:=by
 intro G
 induction G with
 |nil=>intro k;rfl
 |cons p r ih=>intro k;simp[X7p,ih]
def Xet {β:Type}:List Prop->List Prop->(List Prop->Option β)->Option β
 |[],ps,k=>k ps
 |q::r,ps,k=>Xet r (q::ps) k
def oweL:List Prop->List Prop->List Prop
 |[],ps=>ps
 |q::r,ps=>oweL r (q::ps)
theorem X4x {β:Type}:∀ (qs ps:List Prop) (k:List Prop->Option β),Xet qs ps k=k (oweL qs ps):=by
 intro qs
 induction qs with
 |nil=>intro ps k;rfl
 |cons q r ih=>intro ps k;simp[Xet,oweL,ih]
theorem X3t:∀ {qs ps:List Prop},X28 (oweL qs ps)->X28 qs/\X28 ps:=by
 intro qs
 induction qs with
 |nil=>intro ps h;exact⟨trivial,h⟩
 |cons q r ih=>intro ps h;obtain⟨h1,h2⟩:=ih h;exact⟨⟨h2.1,h1⟩,h2.2⟩
def Xhu (bad:List Nat):List (Nat×AV)->List (Nat×AV)
 |[]=>[]
 |(d,a)::l=>bif X94 d bad then Xhu bad l else (d,a)::Xhu bad l
theorem X8q (bad:List Nat):∀ L,fr (Xhu bad L)=frD bad (fr L):=by
 intro L;funext t
 induction L with
 |nil=>simp[Xhu,fr,frD]
 |cons p l ih =>
  obtain⟨d,a⟩:=p;simp only[Xhu]
  cases hb:X94 d bad with
  |true =>
   simp only[cond_true,ih,frD,fr]
   cases ht:X94 t bad with
   |true=>rfl
   |false =>
    have:Nat.beq t d=false:=by
     rw[<-Bool.not_eq_true,Nat.beq_eq];intro e;subst e;rw[hb] at ht;cases ht
    simp[this]
  |false =>
   simp only[cond_false,frD,fr]
   cases hq:Nat.beq t d with
   |true =>
    have:t=d:=Nat.eq_of_beq_eq_true hq;subst this;simp[hb]
   |false =>
    simp only[cond_false,ih,frD]
def Xok (base mi:Nat) (hf:Nat->Bool) (es:List X1k):List (Nat×Obj)->List (Nat×Obj)
 |[]=>[]
 |(o,x)::l=>bif X3m base mi hf es o then Xok base mi hf es l else (o,x)::Xok base mi hf es l
theorem Xgj (base mi:Nat) (hf:Nat->Bool) (es:List X1k):∀ G,hp (Xok base mi hf es G)=hpD base mi hf es (hp G):=by
 intro G;funext q
 induction G with
 |nil=>simp[Xok,hp,hpD]
 |cons p l ih =>
  obtain⟨o,x⟩:=p;simp only[Xok]
  cases hb:X3m base mi hf es o with
  |true =>
   simp only[cond_true,ih,hpD,hp]
   cases ht:X3m base mi hf es q with
   |true=>rfl
   |false =>
    have:Nat.beq q o=false:=by
     rw[<-Bool.not_eq_true,Nat.beq_eq];intro e;subst e;rw[hb] at ht;cases ht
    simp[this]
  |false =>
   simp only[cond_false,hpD,hp]
   cases hq:Nat.beq q o with
   |true =>
    have:q=o:=Nat.eq_of_beq_eq_true hq;subst this;simp[hb]
   |false =>
    simp only[cond_false,ih,hpD]
def Xi1 (id:Nat) (G:List (Nat×Obj)):X1k->List (Nat×Obj)
 |.none=>G
 |.new x=>(id,x)::G
 |.app old x=>(id,x)::Xgz old G
 |.set o x=>(o,x)::Xgz o G
def X9f:X1k->Bool
 |.none=>true
 |.new x=>!x.gone
 |.app _ x=>!x.gone
 |.set _ x=>!x.gone
theorem Xcn (id:Nat) (G:List (Nat×Obj)) (e:X1k) (he:X9f e=true):hp (Xi1 id G e)=e.go id (hp G):=by
 cases e with
 |none=>rfl
 |new x=>rw[X1k.go_new];exact X7b _ _ _ (by simpa[X9f] using he)
 |app old x=>rw[X1k.go_app];simp only[Xi1,X7b _ _ _ (show x.gone=false by simpa[X9f] using he),Xcc]
 |set o x=>rw[X1k.go_set];exact Xc4 o x G (by simpa[X9f] using he)
abbrev DR:=Option (AV×X1k×List X2j×List Prop)
def capS (T:Ty) (L:List (Nat×AV)) (G:List (Nat×Obj)) (id:Nat) (op:Op) (hs:List X2j):DR :=
 match op with
 |.call { callee:=.builtin .append,args:=⟨[s,x]⟩,argTypes:=⟨[t,t']⟩ }=>if t=t' then (match hs with
  |.go b::.ix g::hs=>match X1v T t with
   |some te=>match rd L (.tmp g) with
    |(.mref o' m,p0)=>match rd L s,rd L x with
     |(.ref o 0 n,p),(xb,q)=>if o'=o then (match hp G o with
      |some y=>if y.esz=te.size then (match srcS (hp G) xb (p0++(p++q)) with
       |some (xs,ps)=>match b with
        |true=>some (.ref id 0 (n+xs.length),.new { es:=y.es++xs,esz:=te.size },hs,
          (m=n)::(y.es.length=n)::(xs≠[])::(n+xs.length<=maxLen)::((n+xs.length)*te.bytes<=140737488355328)::(∀ e∈xs,e.cells.length=te.size)::ps)
        |false=>match hs with
         |.via (.list _ es')::hs=>some (.ref o 0 (n+xs.length),.set o { y with es:=es' },hs,
          (y.es.take n++xs++y.es.drop (n+xs.length)=es')::(n+xs.length<=m)::(n<=y.es.length)::(xs≠[])::(∀ e∈xs,e.cells.length=te.size)::ps)
         |_=>none
       |none=>none) else none
      |none=>none) else none
     |_,_=>none
    |_=>none
   |none=>none
  |_=>none) else none
 |_=>none
theorem Xt2 {P:Program} {T:Ty} {L:List (Nat×AV)} {G:List (Nat×Obj)} {id:Nat} {o:Oper} {hs hs':List X2j} {ps:List Prop} {a:AV} {e:X1k} (h:capS T L G id o.op hs=some (a,e,hs',ps)) (hp':X28 ps) :
  DOp P T (fr L) (hp G) id o a e:=by
 unfold capS at h;split at h
 ·rename_i ho;split at h
  ·rename_i htt;subst htt;split at h
   ·split at h
    ·rename_i hty;obtain⟨ti,et,h1,h2,h3⟩:=X0i hty;split at h
     ·rename_i hrg;split at h
      ·rename_i hrs hrx;split at h
       ·rename_i hoo;subst hoo;split at h
        ·rename_i hH;split at h
         ·rename_i hes;split at h
          ·rename_i hsrc;split at h
           ·cases h
            obtain⟨p1,p2,p3,p4,p5,p6,p7⟩:=hp';obtain⟨s1,s2⟩:=X2l hsrc p7;obtain⟨q0,q12⟩:=Xf.1 s2;obtain⟨q1,q2⟩:=Xf.1 q12;refine .new ?_ rfl rfl;rw[ho];exact .appendFull (Xq hrs q1) (by rw[Xq hrg q0,p1]) hH p2 hes (by rw[Xq hrx q2];exact s1) p3 h1 h2 h3 p6 p4 p5
           ·split at h
            ·cases h
             obtain⟨rfl,p1,p2,p3,p6,p7⟩:=hp';obtain⟨s1,s2⟩:=X2l hsrc p7;obtain⟨q0,q12⟩:=Xf.1 s2;obtain⟨q1,q2⟩:=Xf.1 q12;exact .room ho (Xq hrs q1) (Xq hrg q0) hH p2 p1 hes (by rw[Xq hrx q2];exact s1) p3 h1 h2 h3 p6
            ·cases h
          ·cases h
         ·cases h
        ·cases h
       ·cases h
      ·cases h
     ·cases h
    ·cases h
   ·cases h
  ·cases h
 ·cases h
def Xtc (P:Program) (f:Nat) (V:X3) (as:List AV) (r:AV) (q:Nat) (y':Obj):Prop :=
 ∃ v y len bs,r=.sc v/\as=.ref q 0 len::bs/\V q=some y/\(∀ a∈bs,∀ M,a.Ok M)/\(∀ e∈y.es,∀ a∈e.cells,∀ M,a.Ok M)/\(∀ e∈y'.es,∀ a∈e.cells,∀ M,a.Ok M) /\
  HC P f (.ref 0 0 len::bs) (λp=>bif Nat.beq p 0 then some y else none) 1 (λr H' _=>r=.sc v/\H' 0=some y')/\y'.solo=true/\y'.spent=false
def dopS (P:Program) (T:Ty) (L:List (Nat×AV)) (G:List (Nat×Obj)) (id:Nat) (o:Oper) (hs:List X2j):DR :=
 match o.op with
 |.store t p x=>match o.dst with
  |none=>match stO T L G t p x hs with
   |some (q,z,hs,ps)=>some (.sc undef,.set q z,hs,ps)
   |none=>none
  |some _=>none
 |.call { callee:=.value x,args:=args,argTypes:=_ }=>match hs with
  |.pure bs r::hs=>match rd L x with
   |(.fn f [],p)=>match rds L args.toList with
    |(as,q)=>match AV.okB (λ_=>false) r with
     |true=>some (r,.none,hs,X5v P f (hp G) as bs r::(p++q))
     |false=>none
   |(.fn f (u::us),p)=>match rds L args.toList with
    |(as,q)=>match AV.okB (λ_=>false) r with
     |true=>some (r,.none,hs,X5v P f (hp G) (as++(u::us)) bs r::(p++q))
     |false=>none
   |_=>none
  |.call r ((w,y')::_) _::hs=>match rd L x with
   |(.fn f caps,p)=>match rds L args.toList,r with
    |(as,q),.sc v=>some (.sc v,.set w y',hs,Xtc P f (hp G) (as++caps) (.sc v) w y'::(p++q))
    |_,_=>none
   |_=>none
  |_=>none
 |op=>match puS T L (hp G) op hs with
  |some (a,hs,ps)=>some (a,.none,hs,ps)
  |none=>match capS T L G id op hs with
   |some r=>some r
   |none=>match mkS T L (hp G) id op hs with
    |some (a,.none,hs,ps)=>some (a,.none,hs,ps)
    |some (a,.new x,hs,ps)=>some (a,.new x,hs,ps)
    |some (a,.app old x,hs,ps)=>some (a,.app old x,hs,ps)
    |none=>none
theorem Xgu {P:Program} {T:Ty} {L:List (Nat×AV)} {G:List (Nat×Obj)} {id:Nat} {o:Oper} {hs hs':List X2j} {ps:List Prop} {a:AV} {e:X1k} (h:dopS P T L G id o hs=some (a,e,hs',ps)) (hp':X28 ps) :
  DOp P T (fr L) (hp G) id o a e:=by
 unfold dopS at h;split at h
 ·rename_i ho;split at h
  ·rename_i hd;split at h
   ·rename_i hst;cases h
    obtain⟨i,k,y,e,ti,h1,h2,h3,h4,h5,h6,h7,h8,h9,rfl⟩:=Xkb hst hp';exact .store ho hd h1 h2 h4 h5 h6 h7 h8 h9
   ·cases h
  ·cases h
 ·rename_i ho;split at h
  ·split at h
   ·rename_i hx;split at h
    rename_i hargs;split at h
    ·rename_i hok;cases h
     obtain⟨⟨p1,Hr,p2,p3,p4⟩,q⟩:=hp';obtain⟨q1,q2⟩:=Xf.1 q;rw[<-X6n hargs q2] at p2;refine .pure ho (Xq hx q1) (by rw[List.append_nil];exact p2) p1 p3 (p4.imp (λh=>h) λhn=>⟨hn,λM=>?_⟩);exact(X9i _ _ hok).mono λo ho=>by cases ho
    ·cases h
   ·rename_i hx;split at h
    rename_i hargs;split at h
    ·rename_i hok;cases h
     obtain⟨⟨p1,Hr,p2,p3,p4⟩,q⟩:=hp';obtain⟨q1,q2⟩:=Xf.1 q;rw[<-X6n hargs q2] at p2;refine .pure ho (Xq hx q1) p2 p1 p3 (p4.imp (λh=>h) λhn=>⟨hn,λM=>?_⟩);exact(X9i _ _ hok).mono λo ho=>by cases ho
    ·cases h
   ·cases h
  ·split at h
   ·rename_i hx;split at h
    ·rename_i hargs;cases h
     obtain⟨⟨v,y,len,bs,k1,k2,k3,k4,k5,k6,k7,k8,k9⟩,q⟩:=hp';obtain⟨q1,q2⟩:=Xf.1 q;rw[<-X6n hargs q2] at k2;cases k1
     exact .callSet ho (Xq hx q1) k3 .ref k2 k4 k5 k6 k7 k8 k9
    ·cases h
   ·cases h
  ·cases h
 ·split at h
  ·rename_i hpu;cases h
   exact .pu (Xkg hpu hp')
  ·split at h
   ·rename_i hca;cases h;exact Xt2 hca hp'
   ·split at h
    ·rename_i hm;cases h;exact .zero (Xd1 hm hp').1
    ·rename_i hm;cases h;obtain⟨h1,h2⟩:=Xd1 hm hp';have:=h2 0 _ (.inr rfl);exact .new h1 this.1 this.2
    ·rename_i hm;cases h;obtain⟨h1,h2⟩:=Xd1 hm hp';have:=h2 _ _ (.inl rfl);exact .app h1 this.1 this.2
    ·cases h
def rawB (want:Bool) (a:AV):Option (Bool×List Prop) :=
 match a with
 |.sc (.bool b)=>match want with
  |true=>some (b,[])
  |false=>some (!b,[])
 |.cond g (.sc (.bool b))=>match want with
  |true=>some (b,[g=true])
  |false=>some (!b,[g=true])
 |_=>none
theorem Xfm {want g:Bool} {a:AV} {qs:List Prop} (h:rawB want a=some (g,qs)) (hq:X28 qs):∃ b,X24 a=.sc (.bool b)/\g=(b==want):=by
 unfold rawB at h;split at h
 ·rename_i b;refine⟨b,rfl,?_⟩;cases b<;>(split at h<;>(cases h;rfl))
 ·rename_i q b;split at h
  ·cases h;obtain⟨rfl,_⟩:=hq;exact⟨g,rfl,by cases g<;>rfl⟩
  ·cases h;obtain⟨rfl,_⟩:=hq;exact⟨b,rfl,by cases b<;>rfl⟩
 ·cases h
def tb (m k:Nat):Bool:=Nat.beq (Nat.land (Nat.shiftRight m k) 1) 1
theorem Xic (m k:Nat):tb m k=Nat.testBit m k:=by
 rw[Nat.testBit_eq_decide_div_mod_eq];show Nat.beq ((m >>> k) &&& 1) 1=_;rw[Nat.and_one_is_mod,Nat.shiftRight_eq_div_pow];by_cases h:m / 2 ^ k % 2=1
 ·rw[h];simp
 ·rw[decide_eq_false h,<-Bool.not_eq_true,Nat.beq_eq];exact h
def X5h {α γ:Type}:List α->(List α->γ)->γ
 |[],k=>k []
 |a::r,k=>X5h r λr=>k (a::r)
theorem X9o {α γ:Type}:∀ (l:List α) (k:List α->γ),X5h l k=k l:=by
 intro l
 induction l with
 |nil=>intro k;rfl
 |cons a r ih=>intro k;simp only[X5h,ih]
def Xc6 {γ:Type} (e:X1k) (k:X1k->γ):γ :=
 match e with
 |.none=>k .none
 |.new x=>k (.new x)
 |.app o x=>k (.app o x)
 |.set o x=>k (.set o x)
theorem Xe6 {γ:Type} (e:X1k) (k:X1k->γ):Xc6 e k=k e:=by cases e<;>rfl
def Xjt (i mi:Nat):Nat->List Oper->List Nat->List Nat
 |k,o::r,m::ms =>
  match o.dst with
  |none=>Xjt i mi (k+1) r ms
  |some d=>bif Nat.beq k i then Xjt i mi (k+1) r ms else bif Nat.blt k i then (bif tb mi k then Xjt i mi (k+1) r ms else d::Xjt i mi (k+1) r ms) else (bif tb m i then Xjt i mi (k+1) r ms else d::Xjt i mi (k+1) r ms)
 |_,_,_=>[]
theorem Xt5 (i mi:Nat):∀ (l:List Oper) (k:Nat) (ms:List Nat),Xjt i mi k l ms=X2c i mi k l ms:=by
 intro l
 induction l with
 |nil=>intro k ms;rfl
 |cons o r ih =>
  intro k ms
  cases ms with
  |nil=>rfl
  |cons m ms=>simp only[Xjt,X2c,ih,Xic];cases o.dst<;>rfl
def Xb7 (base mi o:Nat):Nat->List X1k->Bool
 |k,e::es=>bif X94 o (e.objs (base+k)) then (bif tb mi k then Xb7 base mi o (k+1) es else true) else Xb7 base mi o (k+1) es
 |_,[]=>false
theorem Xg9 (base mi o:Nat):∀ (es:List X1k) (k:Nat),Xb7 base mi o k es=X5t base mi o k es:=by
 intro es
 induction es with
 |nil=>intro k;rfl
 |cons e es ih =>
  intro k;simp only[Xb7,X5t,ih,Xic];cases X94 o (e.objs (base+k))<;>cases Nat.testBit mi k<;>rfl
def hidF (base mi:Nat) (hf:Nat->Bool) (es:List X1k) (o:Nat):Bool :=
 bif hf o then true else bif (bif Nat.ble base o then !tb mi (o - base) else false) then true else Xb7 base mi o 0 es
theorem Xga (base mi:Nat) (hf:Nat->Bool) (es:List X1k) (o:Nat):hidF base mi hf es o=X3m base mi hf es o:=by
 unfold hidF X3m;rw[Xg9,Xic];cases hf o<;>cases Nat.ble base o<;>cases Nat.testBit mi (o - base)<;>rfl
def Xea (base mi:Nat) (hf:Nat->Bool) (es:List X1k):List (Nat×Obj)->List (Nat×Obj)
 |[]=>[]
 |(o,x)::r=>bif hidF base mi hf es o then Xea base mi hf es r else (o,x)::Xea base mi hf es r
def Xao (base mk:Nat) (os:List Nat):Nat->List (Nat×(Nat->Bool))->List X1k->List X1k->Bool
 |i,(mi,hf)::ms,pre,e::es =>
  bif (bif tb mk i then true else os.all (λo=>bif hidF base mi hf pre o then !X94 o (e.objs (base+i)) else false)) then X5h (pre++[e]) λpre=>Xao base mk os (i+1) ms pre es else false
 |_,_,_,_=>true
theorem Xj5 (base mi:Nat) (hf:Nat->Bool) (es:List X1k):∀ G,Xea base mi hf es G=Xok base mi hf es G:=by
 intro G
 induction G with
 |nil=>rfl
 |cons p r ih=>obtain⟨o,x⟩:=p;simp only[Xea,Xok,Xga,ih]
theorem Xeu (base mk:Nat) (os:List Nat):∀ (es:List X1k) (i:Nat) (ms:List (Nat×(Nat->Bool))) (pre:List X1k),Xao base mk os i ms pre es=X29 base mk os i ms pre es:=by
 intro es
 induction es with
 |nil=>intro i ms pre;cases ms<;>rfl
 |cons e es ih =>
  intro i ms pre
  cases ms with
  |nil=>rfl
  |cons m ms =>
   obtain⟨mi,hf⟩:=m;simp only[Xao,X29,X9o,ih,Xic];have:(os.all λo=>bif hidF base mi hf pre o then !X94 o (e.objs (base+i)) else false)=os.all λo=>X3m base mi hf pre o&&!X94 o (e.objs (base+i)):=by
    congr 1;funext o;rw[Xga];cases X3m base mi hf pre o<;>rfl
   rw[this];cases Nat.testBit mk i<;>cases(os.all λo=>X3m base mi hf pre o&&!X94 o (e.objs (base+i)))<;>simp
def Xb8 {β:Type} (n:Nat) (k:Nat->Option β):Option β :=
 match n with
 |0=>k 0
 |m+1=>k (m+1)
theorem X6u {β:Type} (n:Nat) (k:Nat->Option β):Xb8 n k=k n:=by cases n<;>rfl
def X8o {β:Type}:List Nat->(List Nat->Option β)->Option β
 |[],k=>k []
 |a::r,k=>Xb8 a λa=>X8o r λr=>k (a::r)
theorem X9p {β:Type}:∀ (l:List Nat) (k:List Nat->Option β),X8o l k=k l:=by
 intro l
 induction l with
 |nil=>intro k;rfl
 |cons a r ih=>intro k;simp only[X8o,X6u,ih]
def Xd2 {β:Type}:List Nat->List Oper->(List Nat->Option β)->Option β
 |done,[],k=>k done
 |done,o::r,k=>Xb8 ((X3l o).foldl (λm j=>m |||2 ^ j |||done.getD j 0) 0) λm=>X8o (done++[m]) λdone=>Xd2 done r k
theorem Xfu {β:Type}:∀ (l:List Oper) (done:List Nat) (k:List Nat->Option β),Xd2 done l k=k (X66 done l):=by
 intro l
 induction l with
 |nil=>intro done k;rfl
 |cons o r ih=>intro done k;simp only[Xd2,X6u,X9p,ih,X66]
def X8t (hz:Oper->Nat->Bool) (P:Program) (T:Ty) (nt base:Nat) (ops:Array Oper) (ms:List Nat) (zs:List (Nat×(Nat->Bool))):Nat->List Oper->List (Nat×AV)->List (Nat×Obj)->List X1k->List X2j->List Prop->Option (List (Nat×AV)×List (Nat×Obj)×List X2j×List Prop)
 |_,[],L,G,_,hs,ps=>some (L,G,hs,ps)
 |i,o::l,L,G,es,hs,ps=>Xb8 (ms.getD i 0) λmi=>X8o (Xjt i mi 0 ops.toList ms) λbad =>
  if X39 nt bad o.dst=true then (match o.guard with
   |none=>match dopS P T (Xhu bad L) (Xea base mi (hz o) es G) (base+i) o hs with
    |some (a,e,hs',qs)=>Xc6 e λe=>if (X9f e&&Xao base mi (e.objs (base+i)) 0 (zs.take i) [] es)=true then
      X5k a λa=>Xig o.dst a L λL=>X7p (Xi1 (base+i) G e) λG=>Xet qs ps λps=>X5h (es++[e]) λes=>X8t hz P T nt base ops ms zs (i+1) l L G es hs' ps else none
    |none=>none
   |some (j,want)=>match (ops[j]?).bind (·.dst) with
    |some t=>if Nat.blt t nt=true then (match hs with
     |.go true::hs=>match rawB want (fr (Xhu bad L) t) with
      |some (g,rs)=>match dopS P T (Xhu bad L) (Xea base mi (hz o) es G) (base+i) o hs with
       |some (a,e,hs',qs)=>Xc6 e λe=>if (X9f e&&Xao base mi (e.objs (base+i)) 0 (zs.take i) [] es)=true then
         X5k a λa=>Xig o.dst a L λL=>X7p (Xi1 (base+i) G e) λG=>Xet rs ps λps=>Xet qs ((g=true)::ps) λps=>X5h (es++[e]) λes=>X8t hz P T nt base ops ms zs (i+1) l L G es hs' ps else none
       |none=>none
      |none=>none
     |.go false::hs=>match rawB want (fr (Xhu bad L) t) with
      |some (g,rs)=>Xig o.dst (.sc undef) L λL=>Xet rs ps λps=>X5h (es++[.none]) λes=>X8t hz P T nt base ops ms zs (i+1) l L G es hs ((g=false)::ps)
      |none=>none
     |.no::hs=>match fr (Xhu bad L) t with
      |.sc v=>match X47 want v with
       |false=>Xig o.dst (.sc undef) L λL=>X5h (es++[.none]) λes=>X8t hz P T nt base ops ms zs (i+1) l L G es hs ps
       |true=>none
      |_=>none
     |_=>none) else none
    |none=>none) else none
theorem Xdf {hz:Oper->Nat->Bool} {P:Program} {T:Ty} {nt base:Nat} {ops:Array Oper} {ms:List Nat}:∀ (l:List Oper) (i:Nat) (L:List (Nat×AV)) (G:List (Nat×Obj)) (es:List X1k) (hs:List X2j) (ps:List Prop) (L':List (Nat×AV)) (G':List (Nat×Obj)) (hs':List X2j) (ps':List Prop),
  X8t hz P T nt base ops ms (ms.zip (ops.toList.map hz)) i l L G es hs ps=some (L',G',hs',ps')->X28 ps'->X28 ps/\Xdo hz P T nt base ops ms i l (fr L) (hp G) es (fr L') (hp G'):=by
 intro l
 induction l with
 |nil=>intro i L G es hs ps L' G' hs' ps' h hp';simp only[X8t] at h;cases h;exact⟨hp',.nil⟩
 |cons o l ih =>
  intro i L G es hs ps L' G' hs' ps' h hp';simp only[X8t,X6u,X9p,Xt5,Xj5,Xeu,X9o,Xe6] at h;split at h
  ·rename_i hd;split at h
   ·rename_i hg;split at h
    ·rename_i a e _ qs hop;split at h
     ·rename_i hw;obtain⟨he,hw⟩:=Bool.and_eq_true_iff.1 hw;rw[X35,X5f,X5j,X4x] at h;obtain⟨h1,h2⟩:=ih _ _ _ _ _ _ _ _ _ _ h hp';obtain⟨p1,p2⟩:=X3t h1;have hop':=Xgu hop p1;rw[X8q,Xgj] at hop';rw[X2a,Xcn _ _ _ he] at h2;exact⟨p2,.op hg hd hop' hw h2⟩
     ·cases h
    ·cases h
   ·rename_i j want hg;split at h
    ·rename_i hj;split at h
     ·rename_i ht;split at h
      ·split at h
       ·rename_i hr;split at h
        ·rename_i hop;split at h
         ·rename_i hw;obtain⟨he,hw⟩:=Bool.and_eq_true_iff.1 hw;rw[X35,X5f,X5j,X4x,X4x] at h;obtain⟨h1,h2⟩:=ih _ _ _ _ _ _ _ _ _ _ h hp';obtain⟨p1,p0,p2⟩:=X3t h1;obtain⟨p3,p4⟩:=X3t p2;have hop':=Xgu hop p1;rw[X8q,Xgj] at hop';rw[X2a,Xcn _ _ _ he] at h2;obtain⟨b,hb1,hb2⟩:=Xfm hr p3;rw[X8q] at hb1;have:b=want:=by rw[p0] at hb2;simpa using hb2.symm
          subst this;exact⟨p4,.run hg hd hj ht hb1 hop' hw h2⟩
         ·cases h
        ·cases h
       ·cases h
      ·split at h
       ·rename_i hr;rw[X5f,X4x] at h;obtain⟨h1,h2⟩:=ih _ _ _ _ _ _ _ _ _ _ h hp';obtain⟨p0,p2⟩:=h1;obtain⟨p3,p4⟩:=X3t p2;rw[X2a] at h2;obtain⟨b,hb1,hb2⟩:=Xfm hr p3;rw[X8q] at hb1;exact⟨p4,.skip hg hd hj ht hb1 (by rw[p0] at hb2;exact hb2.symm) h2⟩
       ·cases h
      ·split at h
       ·rename_i hr;split at h
        ·rename_i hb;rw[X5f] at h;obtain⟨h1,h2⟩:=ih _ _ _ _ _ _ _ _ _ _ h hp';rw[X2a] at h2;rw[X8q] at hr;exact⟨h1,.skip hg hd hj ht (by rw[hr];rfl) hb h2⟩
        ·cases h
       ·cases h
      ·cases h
     ·cases h
    ·cases h
  ·cases h
def cntN {β:Type}:List Oper->Nat->(Nat->Option β)->Option β
 |[],n,k=>k n
 |_::r,n,k=>Xb8 (n+1) λn=>cntN r n k
theorem Xsz {β:Type}:∀ (l:List Oper) (n:Nat) (k:Nat->Option β),cntN l n k=k (n+l.length):=by
 intro l
 induction l with
 |nil=>intro n k;rfl
 |cons a r ih=>intro n k;simp only[cntN,X6u,ih,List.length_cons];congr 1;omega
abbrev RR:=Option (Cf×List Kn×List (Nat×AV)×List (Nat×Obj)×Nat×List X2j×List Prop)
def Xah (nt n0:Nat) (s s':St):Prop:=∀ (c0:Ctx) (H0:X3) (c:Ctx) (act:Act) (μ:Mu),X1r nt c0 H0 n0 c s act->MOk n0 c0 H0 c s.H μ act->X1r nt c0 H0 n0 c s' act/\MOk n0 c0 H0 c s'.H μ act
theorem Xah.loop {P:Program} {nt n0:Nat} {s s':St} (hw:Xah nt n0 s s') {b:Code} {Q:X2->St->Mu->Prop} {μ:Mu} (h:X2x P nt n0 b Q s' μ):X2x P nt n0 b Q s μ:=by
 intro c0 H0 c act g hm;obtain⟨g',hm'⟩:=hw c0 H0 c act μ g hm;exact h c0 H0 c act g' hm'
theorem Xah.semM {P:Program} {nt n0:Nat} {s s':St} (hw:Xah nt n0 s s') {c:Code} {Q:X2->St->Mu->Prop} {μ:Mu} (h:X1q P nt n0 c Q s' μ):X1q P nt n0 c Q s μ:=by
 intro c0 H0 c act g hm;obtain⟨g',hm'⟩:=hw c0 H0 c act μ g hm;exact h c0 H0 c act g' hm'
theorem X6c.sub {P:Program} {nt n0:Nat} {Q:X2->St->Mu->Prop} {μ:Mu} {s s':St} (hw:Xah nt n0 s s'):∀ (K:List Kn) (e:X2),X6c P nt n0 Q K e s' μ->X6c P nt n0 Q K e s μ:=by
 intro K
 induction K with
 |nil =>
  intro e h c0 H0 c act g hm;obtain⟨g',hm'⟩:=hw c0 H0 c act μ g hm;exact h c0 H0 c act g' hm'
 |cons k K ih =>
  intro e h
  cases k with
  |seq c =>
   cases e with
   |normal=>exact hw.semM h
   |exit i=>exact ih _ h
   |ret=>exact ih _ h
  |block id =>
   cases e with
   |normal=>exact ih _ h
   |ret=>exact ih _ h
   |exit i =>
    have h':X3r id (X6c P nt n0 Q K) (.exit i) s' μ:=h;show X3r id (X6c P nt n0 Q K) (.exit i) s μ;simp only[X3r] at h' ⊢
    cases hb:Nat.beq i id with
    |true=>rw[hb,cond_true] at h';exact ih _ h'
    |false=>rw[hb,cond_false] at h';exact ih _ h'
  |loop b =>
   cases e with
   |normal=>exact hw.loop h
   |exit i=>exact ih _ h
   |ret=>exact ih _ h
theorem Xk.sub {P:Program} {nt n0:Nat} {Q:X2->St->Mu->Prop} {cf:Cf} {K:List Kn} {μ:Mu} {s s':St} (hw:Xah nt n0 s s') (h:Xk P nt n0 Q cf K s' μ):Xk P nt n0 Q cf K s μ:=by
 cases cf with
 |code c=>exact hw.semM h
 |exit e=>exact X6c.sub hw K e h
 |ops ops l =>
  intro c0 H0 c act g hm;obtain⟨g',hm'⟩:=hw c0 H0 c act μ g hm;exact h c0 H0 c act g' hm'
 |loop b=>exact hw.loop h
theorem X1r.trunc {nt n0 n:Nat} {c0 c:Ctx} {H0 H:X3} {A:Nat->AV} {act:Act} (g:X1r nt c0 H0 n0 c ⟨A,H,n⟩ act) {o:Nat} {y:Obj} (hy:H o=some y) (m:Nat) :
  X1r nt c0 H0 n0 c ⟨A,upd H o (some { y with es:=y.es.take m }),n⟩ act:=by
 have hM:∀ q z,upd H o (some { y with es:=y.es.take m }) q=some z->∃ z',H q=some z'/\(∃ m,z.es=z'.es.take m)/\z.esz=z'.esz/\z.solo=z'.solo/\z.spent=z'.spent:=by
  intro q z hz;by_cases hq:q=o
  ·subst hq;rw[X1] at hz;cases hz;exact⟨y,hy,⟨m,rfl⟩,rfl,rfl,rfl⟩
  ·rw[X0 _ _ hq] at hz;exact⟨z,hz,⟨z.es.length,by simp⟩,rfl,rfl,rfl⟩
 have hsolo:∀ q z,upd H o (some { y with es:=y.es.take m }) q=some z->z.solo=true/\z.spent=false:=by
  intro q z hz;obtain⟨z',hz',_,_,h1,h2⟩:=hM q z hz;rw[h1,h2];exact g.solo q z' hz'
 refine⟨⟨?_,?_,?_,g.inv.lt,g.inv.base,g.inv.own,?_,g.inv.glob⟩,hsolo,g.frame,g.ok,g.size,⟨g.reach.rho,g.reach.os,g.reach.tape,g.reach.output,g.reach.size,g.reach.block,g.reach.stable,g.reach.sa,g.reach.so1,g.reach.so2,g.reach.B,?_⟩,g.le0⟩
 ·intro q z hz;obtain⟨z',hz',⟨k,hk⟩,h1,_⟩:=hM q z hz;obtain⟨g1,⟨⟨cur,hb,hs,hc⟩,hf,hp,hse⟩,g3⟩:=g.inv.obj q z' hz';refine⟨g1,⟨⟨cur,hb,hs,λi e he=>?_⟩,?_,hp,by rw[h1];exact hse⟩,λe he=>?_⟩
  ·rw[hk,List.getElem?_take] at he;split at he
   ·exact hc i e he
   ·cases he
  ·rw[hk,List.length_take];omega
  ·rw[hk] at he;exact g3 e (List.mem_of_mem_take he)
 ·intro q q' z z' hz hz' hne hb;obtain⟨x,hx,_,_,h1,_⟩:=hM q z hz;obtain⟨x',hx',_⟩:=hM q' z' hz';have:=(g.inv.sep q q' x x' hx hx' hne hb).1;rw[(g.solo q x hx).1] at this;cases this
 ·intro q z hz;obtain⟨z',hz',_⟩:=hM q z hz;exact g.inv.stab q z' hz'
 ·intro q z hz;obtain⟨z',hz',_⟩:=hM q z hz;exact g.inv.low q z' hz'
 ·intro q z hz;obtain⟨z',hz',_⟩:=hM q z hz;exact g.reach.own q z' hz'
theorem Xah.trunc {nt n0 n:Nat} {H:X3} {A:Nat->AV} {o:Nat} {y:Obj} (hy:H o=some y) (m:Nat):Xah nt n0 ⟨A,H,n⟩ ⟨A,upd H o (some { y with es:=y.es.take m }),n⟩:=by
 intro c0 H0 c act μ g hm;refine⟨g.trunc hy m,hm.is,λp hp=>?_,hm.nodup,hm.ds⟩;obtain⟨a1,a2,a3,a4⟩:=hm.away p hp;refine⟨a1,a2,λq z hz=>?_,a4⟩;have hz':upd H o (some { y with es:=y.es.take m }) q=some z:=hz;by_cases hq:q=o
 ·subst hq;exact a3 q y hy
 ·rw[X0 _ _ hq] at hz';exact a3 q z hz'
def Xka (id:Nat):List X2j->Bool
 |.stop j::_=>Nat.beq j id
 |_=>false
def seeL (d:Nat):List (Nat×List Nat)->Option (List Nat)
 |[]=>none
 |(k,l)::r=>bif Nat.beq d k then some l else seeL d r
def hzL (l:List (Nat×List Nat)) (o:Oper) (q:Nat):Bool :=
 X84 o.op||(match o.dst with
  |some d=>match seeL d l with
   |some ids=>!X94 q ids
   |none=>false
  |none=>false)
def seeZ:List X2j->Oper->Nat->Bool
 |.see l::_=>hzL l
 |_=>hz0
def seeR:List X2j->List X2j
 |.see _::hs=>hs
 |hs=>hs
def X4t (P:Program) (T:Ty) (nt:Nat):Nat->Cf->List Kn->List (Nat×AV)->List (Nat×Obj)->Nat->List X2j->List Prop->RR
  |0,cf,K,L,G,n,hs,ps=>some (cf,K,L,G,n,hs,ps)
  |f+1,cf,K,L,G,n,hs,ps=>match cf with
    |.code c=>match c with
      |.skip=>X4t P T nt f (.exit .normal) K L G n hs ps
      |.label _=>X4t P T nt f (.exit .normal) K L G n hs ps
      |.exit id=>X4t P T nt f (.exit (.exit id)) K L G n hs ps
      |.ret=>X4t P T nt f (.exit .ret) K L G n hs ps
      |.seq a b=>X4t P T nt f (.code a) (.seq b::K) L G n hs ps
      |.block id c=>X4t P T nt f (.code c) (.block id::K) L G n hs ps
      |.scope c=>X4t P T nt f (.code c) K L G n hs ps
      |.region id ops false=>match hs with
        |.stop j::hs=>match Nat.beq j id with
          |true=>some (.code (.region id ops false),K,L,G,n,hs,ps)
          |false=>X4t P T nt f (.ops ops ops.toList) K L G n (.stop j::hs) ps
        |hs=>X4t P T nt f (.ops ops ops.toList) K L G n hs ps
      |.region id ops true=>match Xka id hs with
       |true=>some (.code (.region id ops true),K,L,G,n,hs.tail,ps)
       |false=>match X2w 0 ops.toList with
        |true=>Xd2 [] ops.toList λms=>match X8t (seeZ hs) P T nt n ops ms (ms.zip (ops.toList.map (seeZ hs))) 0 ops.toList L G [] (seeR hs) ps with
          |some (L,G,hs,ps)=>X7p G λG=>cntN ops.toList n λn=>X4t P T nt f (.exit .normal) K L G n hs ps
          |none=>none
        |false=>none
      |.loop b=>some (.loop b,K,L,G,n,hs,ps)
      |.cond x a b=>match hs with
        |.br true::hs=>match rd L x with
          |(.sc (.bool t),qs)=>Xet qs ((t=true)::ps) λps=>X4t P T nt f (.code a) K L G n hs ps
          |_=>none
        |.br false::hs=>match rd L x with
          |(.sc (.bool t),qs)=>Xet qs ((t=false)::ps) λps=>X4t P T nt f (.code b) K L G n hs ps
          |_=>none
        |hs=>some (.code (.cond x a b),K,L,G,n,hs,ps)
      |c=>some (.code c,K,L,G,n,hs,ps)
    |.exit e=>match K with
      |[]=>some (.exit e,[],L,G,n,hs,ps)
      |.seq c::K=>match e with
        |.normal=>X4t P T nt f (.code c) K L G n hs ps
        |e=>X4t P T nt f (.exit e) K L G n hs ps
      |.block id::K=>match e with
        |.exit i=>match Nat.beq i id with
          |true=>X4t P T nt f (.exit .normal) K L G n hs ps
          |false=>X4t P T nt f (.exit (.exit i)) K L G n hs ps
        |e=>X4t P T nt f (.exit e) K L G n hs ps
      |.loop b::K=>match e with
        |.normal=>some (.loop b,K,L,G,n,hs,ps)
        |e=>X4t P T nt f (.exit e) K L G n hs ps
    |.loop b=>some (.loop b,K,L,G,n,hs,ps)
    |.ops ops l=>match l with
      |[]=>X4t P T nt f (.exit .normal) K L G n hs ps
      |o::l=>match hs with
       |.trunc q es::hs=>match hp G q with
        |some y=>X4t P T nt f (.ops ops (o::l)) K L ((q,{ y with es:=es })::Xgz q G) n hs ((∃ m,es=y.es.take m)::ps)
        |none=>none
       |hs=>if X45 nt o.dst=true then (match o.guard with
        |none=>match opS P T L G n o.op hs with
          |some (a,G',n',hs',qs)=>X5k a λa=>Xig o.dst a L λL=>X7p G' λG=>Xet qs ps λps=>X4t P T nt f (.ops ops l) K L G n' hs' ps
          |none=>some (.ops ops (o::l),K,L,G,n,hs,ps)
        |some (j,want)=>match (ops[j]?).bind (·.dst) with
          |some t=>if Nat.blt t nt=true then (match gdS want (fr L t) with
            |some g=>match Xka 999999 hs with
             |true=>some (.ops ops (o::l),K,L,G,n,hs.tail,ps)
             |false=>match hs with
              |.go true::hs=>match opS P T L G n o.op hs with
                |some (a,G',n',hs',qs)=>X5k a λa=>Xig o.dst a L λL=>X7p G' λG=>Xet qs ((g=true)::ps) λps=>X4t P T nt f (.ops ops l) K L G n' hs' ps
                |none=>none
              |.go false::hs=>Xig o.dst (.cond false (.sc (.bool false))) L λL=>X4t P T nt f (.ops ops l) K L G n hs ((g=false)::ps)
              |hs=>match quS P T L G o.op hs with
                |some (a,hs',qs)=>match AV.okB (λo=>Nat.blt o n) a with
                  |true=>X5k a λa=>Xig o.dst (.cond g a) L λL=>Xet (Xar g qs) ps λps=>X4t P T nt f (.ops ops l) K L G n hs' ps
                  |false=>none
                |none=>some (.ops ops (o::l),K,L,G,n,hs,ps)
            |none=>none) else none
          |none=>none) else none
theorem Xme {P:Program} {T:Ty} {nt n0:Nat} {μ:Mu} {Q:X2->St->Mu->Prop} (hT:X2i P T) (hm:P.follows .mixedOrders=true):∀ (f:Nat) (cf:Cf) (K:List Kn) (L:List (Nat×AV)) (G:List (Nat×Obj)) (n:Nat) (hs:List X2j) (ps:List Prop) (cf':Cf) (K':List Kn) (L':List (Nat×AV)) (G':List (Nat×Obj)) (n':Nat) (hs':List X2j) (ps':List Prop),
  X4t P T nt f cf K L G n hs ps=some (cf',K',L',G',n',hs',ps')->X28 ps'->X28 ps/\(Xk P nt n0 Q cf' K' (SSt L' G' n') μ->Xk P nt n0 Q cf K (SSt L G n) μ):=by
 intro f
 induction f with
 |zero=>intro cf K L G n hs ps cf' K' L' G' n' hs' ps' h hp;simp only[X4t] at h;cases h;exact⟨hp,λh=>h⟩
 |succ f ih =>
  intro cf K L G n hs ps cf' K' L' G' n' hs' ps' h hp;have stop:some (cf,K,L,G,n,hs,ps)=some (cf',K',L',G',n',hs',ps')->X28 ps/\(Xk P nt n0 Q cf' K' (SSt L' G' n') μ->Xk P nt n0 Q cf K (SSt L G n) μ):=by
   intro h;cases h;exact⟨hp,λh=>h⟩
  cases cf with
  |code c =>
   cases c with
   |skip=>obtain⟨h1,h2⟩:=ih _ _ _ _ _ _ _ _ _ _ _ _ _ _ h hp;exact⟨h1,λk=>X1q.skip (h2 k)⟩
   |label=>obtain⟨h1,h2⟩:=ih _ _ _ _ _ _ _ _ _ _ _ _ _ _ h hp;exact⟨h1,λk=>X1q.label (h2 k)⟩
   |exit=>obtain⟨h1,h2⟩:=ih _ _ _ _ _ _ _ _ _ _ _ _ _ _ h hp;exact⟨h1,λk=>X1q.exit (h2 k)⟩
   |ret=>obtain⟨h1,h2⟩:=ih _ _ _ _ _ _ _ _ _ _ _ _ _ _ h hp;exact⟨h1,λk=>X1q.ret (h2 k)⟩
   |seq=>obtain⟨h1,h2⟩:=ih _ _ _ _ _ _ _ _ _ _ _ _ _ _ h hp;exact⟨h1,λk=>X1q.seq (h2 k)⟩
   |block=>obtain⟨h1,h2⟩:=ih _ _ _ _ _ _ _ _ _ _ _ _ _ _ h hp;exact⟨h1,λk=>X1q.block (h2 k)⟩
   |scope=>obtain⟨h1,h2⟩:=ih _ _ _ _ _ _ _ _ _ _ _ _ _ _ h hp;exact⟨h1,λk=>X1q.scope (h2 k)⟩
   |region id ops d =>
    cases d with
    |false =>
     simp only[X4t] at h;split at h
     ·split at h
      ·cases h;exact⟨hp,λk=>k⟩
      ·obtain⟨h1,h2⟩:=ih _ _ _ _ _ _ _ _ _ _ _ _ _ _ h hp;exact⟨h1,λk=>X1q.region (h2 k)⟩
     ·obtain⟨h1,h2⟩:=ih _ _ _ _ _ _ _ _ _ _ _ _ _ _ h hp;exact⟨h1,λk=>X1q.region (h2 k)⟩
    |true =>
     simp only[X4t] at h;split at h
     ·cases h;exact⟨hp,λk=>k⟩
     split at h
     ·rename_i hpre;rw[Xfu] at h;split at h
      ·rename_i hd;rw[X5j,Xsz] at h;obtain⟨h1,h2⟩:=ih _ _ _ _ _ _ _ _ _ _ _ _ _ _ h hp;obtain⟨h3,h4⟩:=Xdf _ _ _ _ _ _ _ _ _ _ _ hd h1;exact⟨h3,λk=>X1q.of (X38.drawn (s:=SSt L G n) hm hT hpre h4 (h2 k))⟩
      ·cases h
     ·cases h
   |loop b=>cases h;exact⟨hp,λk=>X1q.loop k⟩
   |cond x a b =>
    simp only[X4t] at h;split at h
    ·split at h
     ·rename_i hr;rw[X4x] at h;obtain⟨h1,h2⟩:=ih _ _ _ _ _ _ _ _ _ _ _ _ _ _ h hp;obtain⟨p3,p1,p4⟩:=X3t h1;exact⟨p4,λk=>X1q.cond (s:=(SSt L G n)) (Xq hr p3) (λ_=>h2 k) (λhf=>by rw[p1] at hf;cases hf)⟩
     ·cases h
    ·split at h
     ·rename_i hr;rw[X4x] at h;obtain⟨h1,h2⟩:=ih _ _ _ _ _ _ _ _ _ _ _ _ _ _ h hp;obtain⟨p3,p1,p4⟩:=X3t h1;exact⟨p4,λk=>X1q.cond (s:=(SSt L G n)) (Xq hr p3) (λhf=>by rw[p1] at hf;cases hf) (λ_=>h2 k)⟩
     ·cases h
    ·exact stop h
   |_=>exact stop h
  |exit e =>
   cases K with
   |nil=>exact stop h
   |cons kn K =>
    cases kn with
    |seq c=>cases e<;>(simp only[X4t] at h;obtain⟨h1,h2⟩:=ih _ _ _ _ _ _ _ _ _ _ _ _ _ _ h hp;exact⟨h1,λk=>h2 k⟩)
    |loop b =>
     cases e with
     |normal=>cases h;exact⟨hp,λk=>k⟩
     |exit i=>simp only[X4t] at h;obtain⟨h1,h2⟩:=ih _ _ _ _ _ _ _ _ _ _ _ _ _ _ h hp;exact⟨h1,λk=>h2 k⟩
     |ret=>simp only[X4t] at h;obtain⟨h1,h2⟩:=ih _ _ _ _ _ _ _ _ _ _ _ _ _ _ h hp;exact⟨h1,λk=>h2 k⟩
    |block id =>
     cases e with
     |normal=>simp only[X4t] at h;obtain⟨h1,h2⟩:=ih _ _ _ _ _ _ _ _ _ _ _ _ _ _ h hp;exact⟨h1,λk=>h2 k⟩
     |ret=>simp only[X4t] at h;obtain⟨h1,h2⟩:=ih _ _ _ _ _ _ _ _ _ _ _ _ _ _ h hp;exact⟨h1,λk=>h2 k⟩
     |exit i =>
      simp only[X4t] at h;split at h
      ·rename_i hb;obtain⟨h1,h2⟩:=ih _ _ _ _ _ _ _ _ _ _ _ _ _ _ h hp;refine⟨h1,λk=>?_⟩;show X3r id (X6c P nt n0 Q K) (.exit i) (SSt L G n) μ;simp only[X3r,hb,cond_true];exact h2 k
      ·rename_i hb;obtain⟨h1,h2⟩:=ih _ _ _ _ _ _ _ _ _ _ _ _ _ _ h hp;refine⟨h1,λk=>?_⟩;show X3r id (X6c P nt n0 Q K) (.exit i) (SSt L G n) μ;simp only[X3r,hb,cond_false];exact h2 k
  |loop b=>exact stop h
  |ops ops l =>
   simp only[X4t] at h;split at h
   ·obtain⟨h1,h2⟩:=ih _ _ _ _ _ _ _ _ _ _ _ _ _ _ h hp;exact⟨h1,λk=>X1t.nil (h2 k)⟩
   ·split at h
    ·split at h
     ·rename_i hy;obtain⟨⟨⟨m,rfl⟩,h1⟩,h2⟩:=ih _ _ _ _ _ _ _ _ _ _ _ _ _ _ h hp;refine⟨h1,λk=>Xk.sub (Xah.trunc (A:=fr L) (H:=Go.Av.hp G) (n:=n) hy m) ?_⟩;have:=h2 k;have hgn:=Xa8 hy;simp only[SSt] at this;rw[Xc4] at this
      ·exact this
      ·exact hgn
     ·cases h
    split at h
    ·rename_i hd;have hdl:=X1s hd;split at h
     ·rename_i hg;split at h
      ·rename_i hop;rw[X35,X5f,X5j,X4x] at h;obtain⟨h1,h2⟩:=ih _ _ _ _ _ _ _ _ _ _ _ _ _ _ h hp;obtain⟨p1,p2⟩:=X3t h1;refine⟨p2,λk=>X1t.plain hg hdl (Xkj hT hop p1) ?_⟩;rintro _ _ _ ⟨rfl,rfl,rfl⟩;have:=h2 k;simp only[Xk,SSt,X2a] at this;exact this
      ·exact stop h
     ·rename_i j want hg;split at h
      ·rename_i hj;split at h
       ·rename_i ht;split at h
        ·rename_i g hgd;split at h
         ·cases h;exact⟨hp,λk=>k⟩
         split at h
         ·split at h
          ·rename_i hop;rw[X35,X5f,X5j,X4x] at h;obtain⟨h1,h2⟩:=ih _ _ _ _ _ _ _ _ _ _ _ _ _ _ h hp;obtain⟨p1,p0,p2⟩:=X3t h1;subst p0;refine⟨p2,λk=>X1t.step (λc0 c H0 act gd=>X5b (s:=SSt L G n) hg hj ht hgd gd) hdl (Xkj hT hop p1) ?_⟩;rintro _ _ _ ⟨rfl,rfl,rfl⟩;have:=h2 k;simp only[Xk,SSt,X2a] at this;exact this
          ·cases h
         ·rw[X5f] at h;obtain⟨h1,h2⟩:=ih _ _ _ _ _ _ _ _ _ _ _ _ _ _ h hp;obtain⟨p0,p1⟩:=h1;subst p0;refine⟨p1,λk=>X1t.skip (s:=SSt L G n) hg hj ht hgd hdl ?_⟩;have:=h2 k;simp only[Xk,SSt,X2a] at this;exact this
         ·split at h
          ·rename_i hpu;split at h
           ·rename_i hok;rw[X35,X5f,X4x] at h;obtain⟨h1,h2⟩:=ih _ _ _ _ _ _ _ _ _ _ _ _ _ _ h hp;obtain⟨p1,p2⟩:=X3t h1;refine⟨p2,λk=>X1t.quiet (s:=SSt L G n) hg hj ht hgd hdl (okLt hok) (λhb=>Xfn hT hpu (X8c p1 hb)) ?_⟩;have:=h2 k;simp only[Xk,SSt,X2a] at this;exact this
           ·cases h
          ·exact stop h
        ·cases h
       ·cases h
      ·cases h
    ·cases h
theorem Xk.round {P:Program} {nt n0:Nat} {μ:Mu} {Q:X2->St->Mu->Prop} {b:Code} {K:List Kn} {s:St} (h:Xk P nt n0 Q (.code b) (.loop b::K) s μ):Xk P nt n0 Q (.loop b) K s μ:=X2x.round h
theorem X5y {P:Program} {T:Ty} {nt n0:Nat} {μ:Mu} {Q:X2->St->Mu->Prop} {cf cf':Cf} {K K':List Kn} {L L':List (Nat×AV)} {G G':List (Nat×Obj)} {n n':Nat} {hs':List X2j} {ps':List Prop} (hT:X2i P T/\P.follows .mixedOrders=true) (f:Nat) (hs:List X2j)
  (h:X4t P T nt f cf K L G n hs []=some (cf',K',L',G',n',hs',ps')) (hp':X28 ps') (k:Xk P nt n0 Q cf' K' ⟨fr L',hp G',n'⟩ μ):Xk P nt n0 Q cf K ⟨fr L,hp G,n⟩ μ :=
 (Xme hT.1 hT.2 f cf K L G n hs [] cf' K' L' G' n' hs' ps' h hp').2 k
end Go.Av


namespace Go.Av
variable [Gls]
def argL:Nat->List AV->List (Nat×AV)
 |_,[]=>[]
 |i,a::r=>(i,a)::argL (i+1) r
theorem Xhj:∀ (as:List AV) (i t:Nat),fr (argL i as) t=if i<=t then (match as[t - i]? with|some a=>a|none=>.junk) else .junk:=by
 intro as
 induction as with
 |nil=>intro i t;simp[argL,fr]
 |cons a r ih =>
  intro i t;simp only[argL,fr];by_cases ht:t=i
  ·subst ht;simp
  ·have hb:Nat.beq t i=false:=by rw[<-Bool.not_eq_true,Nat.beq_eq];exact ht
   rw[hb,cond_false,ih];by_cases h1:i+1<=t
   ·rw[if_pos h1,if_pos om,show t - i=(t - (i+1))+1 by omega,List.getElem?_cons_succ]
   ·rw[if_neg h1,if_neg om]
section
variable {P:Program} {nt n0:Nat} {s:St} {μ:Mu}
theorem X1r.turn {c0 c:Ctx} {H0:X3} {act:Act} {b:Nat} (o:Go.Obj) (g:X1r nt c0 H0 n0 c s act) (h1:¬ c.Sa b) (h2:¬ c.So b) (h3:∀ o x,s.H o=some x->(c.ρ o).blk≠b) (h4:Xtd c0 H0 b) :
  X1r nt c0 H0 n0 { c with w:=c.w.putObj b o } s act/\c.Le (λ_=>True) { c with w:=c.w.putObj b o }:=by
 have hother:∀ k,k≠b->(c.w.putObj b o).heap[k]?=c.w.heap[k]?:=λk hk=>World.putObj_heap_other hk;have hle:c.Le (λ_=>True) { c with w:=c.w.putObj b o } :=
  ⟨λ_ _=>rfl,λ_ h=>h,λ_ h=>h,λk hk=>hother k (λe=>by subst e;exact hk.elim h1 h2),rfl⟩
 have all:∀ {a:AV} {M:Nat->Prop},a.Ok M->a.Ok (λ_=>True):=λh=>h.mono λ_ _=>trivial;have r:=g.reach;refine⟨⟨⟨λq x hx=>?_,g.inv.sep,g.inv.stab,λk hk=>?_,?_,g.inv.own,g.inv.low,g.inv.glob.mono hle⟩,g.solo,λt=>(g.frame t).mono hle (.inr (all (g.ok t))),g.ok,g.size,
  ⟨r.rho,r.os,r.tape,r.output,?_,λk hk hn=>?_,λk hk=>?_,r.sa,r.so1,r.so2,r.B,r.own⟩,g.le0⟩,hle⟩
 ·obtain⟨i1,⟨⟨cur,hb,hs,hc⟩,i3,i4,i5⟩,i6⟩:=g.inv.obj q x hx;refine⟨i1,⟨⟨cur,(hother _ (h3 q x hx)).trans hb,hs,λi e he=>?_⟩,i3,i4,i5⟩,i6⟩;obtain⟨g1,g2⟩:=hc i e he;exact⟨g1,λk a ha=>by obtain⟨v,hv,hr,h7⟩:=g2 k a ha;exact⟨v,hv,hr.mono hle (.inr (all (i6 e (List.mem_of_getElem? he) a (List.mem_of_getElem? ha)))),h7⟩⟩
 ·show k<(c.w.putObj b o).heap.size;rw[World.putObj_size];exact g.inv.lt k hk
 ·show c.B<=(c.w.putObj b o).heap.size;rw[World.putObj_size];exact g.inv.base
 ·show c0.w.heap.size<=(c.w.putObj b o).heap.size;rw[World.putObj_size];exact r.size
 ·exact(hother k (λe=>by subst e;exact(h4.no hk hn).elim)).trans (r.block k hk hn)
 ·refine(hother k (λe=>?_)).trans (r.stable k hk);subst e;exact hk.elim (λh=>h1 (by rw[r.sa];exact h)) (λh=>h2 (r.so1 _ h))
theorem X06q {fn:Func} {Rr:Ending->World->Prop} {c0:Ctx} {H0:X3} {act:Act}:∀ (μ:Mu) (c:Ctx),X1r nt c0 H0 n0 c s act->(∀ p∈μ,Xjx n0 c p.1 p.2) ->
  (∀ p∈μ,¬ c.Sa p.1/\¬ c.So p.1/\(∀ o x,s.H o=some x->(c.ρ o).blk≠p.1)/\Xtd c0 H0 p.1)->(μ.map (·.1)).Nodup ->
  (∀ c',X1r nt c0 H0 n0 c' s act->∃ v,(results fn act.tmps).run P c'.w=.ok v c'.w/\Rr (.returned v) c'.w)->LeavesInM (FR none) 0 P fn act.tmps Rr (Xhv μ) .returning c.w:=by
 intro μ
 induction μ with
 |nil =>
  intro c g _ _ _ hk;obtain⟨v,h1,h2⟩:=hk c g;exact⟨v,h1,h2⟩
 |cons p μ ih =>
  intro c g hi ha hn hk;obtain⟨D,x⟩:=p;have hi':∀ p∈μ,Xjx n0 c p.1 p.2:=λp hp=>hi p (List.mem_cons_of_mem _ hp);have ha':=λp hp=>ha p (List.mem_cons_of_mem _ hp);simp only[List.map_cons,List.nodup_cons] at hn
  cases x with
  |map l=>exact ih c g hi' ha' hn.2 hk
  |blk o=>exact ih c g hi' ha' hn.2 hk
  |loop r nt m A=>exact ih c g hi' ha' hn.2 hk
  |mark =>
   obtain⟨a1,a2,a3,a4⟩:=ha _ List.mem_cons_self;obtain⟨g2,hle⟩:=g.turn (.deferred none) a1 a2 a3 a4;have hd:c.w.heap[D]?=some (.deferred (some [])):=hi _ List.mem_cons_self;refine⟨by simp,.inl ⟨D,_,rfl,run_takeDeferred hd,?_⟩⟩;refine ih { c with w:=c.w.putObj D (.deferred none) } g2 (λp hp=>?_) ha' hn.2 hk;exact(hi' p hp).le (World.putObj_heap_other (λe=>hn.1 (e▸List.mem_map.2 ⟨p,hp,rfl⟩))) (hle.weaken λ_ _=>trivial)
end
section
variable {P:Program} {T:Ty}
theorem X53 {f:Nat} {fn:Func} {code:Code} (hfn:X5a P f fn code) {nt n0:Nat} {s:St} {Q:X2->St->Mu->Prop} {c:Ctx} {vs:Array Value} {Rr:Ending->World->Prop}
  (g:X1r nt c s.H n0 c s { tmps:=vs++Array.replicate (fn.ntmps - vs.size) undef,defers:=[] }) (h:X1q P nt n0 code Q s [])
  (hQ:∀ e s' μ,Q e s' μ->(∀ id,e≠.exit id)/\∀ c' act',X1r nt c s.H n0 c' s' act'->∃ v,(results fn act'.tmps).run P c'.w=.ok v c'.w/\Rr (.returned v) c'.w):Calls P f vs c.w Rr:=by
 refine(callsIn_wide (n:=0)).1 (callsIn_of_wp_marks hfn.here hfn.body trivial ?_);refine wpIn_mono (h c s.H c _ g (.nil rfl) none .none) ?_;rintro e a w ⟨c',s',ae,μ',rfl,g',hm',rfl,hq⟩;obtain⟨hx,hq⟩:=hQ ae s' μ' hq;have fin:LeavesInM Fence.wide 0 P fn a.tmps Rr a.defers .returning c'.w:=by
  rw[hm'.ds];exact X06q μ' c' g' hm'.is hm'.away hm'.nodup λc2 g2=>hq c2 a g2
 cases ae with
 |exit id=>exact(hx id rfl).elim
 |normal=>exact fin
 |ret=>exact fin
def Xuu (T:Ty) (fn:Func) (K:AV->X3->Nat->Prop):X2->St->Mu->Prop:=λe s _=>retQ T fn K e s
theorem X1r.argL {nt n0:Nat} {c0 c:Ctx} {H0 H:X3} {n:Nat} {as:List AV} {act:Act} (g:X1r nt c0 H0 n0 c ⟨X6a as,H,n⟩ act):X1r nt c0 H0 n0 c ⟨fr (Av.argL 0 as),H,n⟩ act:=by
 refine⟨g.inv,g.solo,λt=>?_,λt=>?_,g.size,g.reach,g.le0⟩
 ·show Xh c false (fr (Av.argL 0 as) t) _;rw[Xhj];simp only[Nat.zero_le,if_true,Nat.sub_zero];have:=g.frame t;simp only[X6a] at this
  cases hq:as[t]? with
  |none=>exact .junk
  |some a=>rw[hq] at this;exact this
 ·show(fr (Av.argL 0 as) t).Ok (·<n);rw[Xhj];simp only[Nat.zero_le,if_true,Nat.sub_zero];have:=g.ok t;simp only[X6a] at this
  cases hq:as[t]? with
  |none=>exact .junk
  |some a=>rw[hq] at this;exact this
theorem HC.of_bodyM (hT:X2i P T) {f:Nat} {fn:Func} {code:Code} (hfn:X5a P f fn code) {as:List AV} {H:X3} {n nt:Nat} {K:AV->X3->Nat->Prop} (hnt:fn.ntmps=nt)
  (hle:as.length<=nt) (h:X1q P nt n code (Xuu T fn K) ⟨fr (argL 0 as),H,n⟩ []):HC P f as H n K:=by
 refine⟨⟨fn,code,hfn⟩,λc vs hI hs hv ho=>?_⟩;have g:X1r nt c H n c ⟨X6a as,H,n⟩ { tmps:=vs++Array.replicate (fn.ntmps - vs.size) undef,defers:=[] }:=by
  refine⟨hI,hs,λt=>X3e hv _ t,λt=>X69 ho t,?_,.refl c H n,Nat.le_refl _⟩;have:=hv.len;simp only[Array.size_append,Array.size_replicate];omega
 refine X53 hfn g.argL h ?_;intro e s' μ hq;have fin:(∃ rs,X59 T s' fn.results.toList rs/\K (X4k rs) s'.H s'.n)->∀ c' act',X1r nt c H n c' s' act'->∃ v,(results fn act'.tmps).run P c'.w=.ok v c'.w/\∃ v' r H' n' c2,K r H' n'/\Ending.returned v=.returned v'/\c2.w=c'.w/\c.Le (·<n) c2/\c2.Sa=c.Sa/\(∀ b,c2.So b->c.So b\/c.w.heap.size<=b\/∃ o x,H o=some x/\(c.ρ o).blk=b) /\
   Fr c H c'.w/\X3s c H c2 H'/\Inv c2 H' (·<n')/\(∀ o x,H' o=some x->x.solo=true/\x.spent=false)/\n<=n'/\Xh c2 false r v'/\r.Ok (·<n'):=by
  rintro⟨rs,hrs,hk⟩ c' act' g';obtain⟨v,h1,h2,h3⟩:=X9h hT g' hrs;exact⟨v,h1,v,_,s'.H,s'.n,c',hk,rfl,rfl,g'.reach.le,g'.reach.sa,g'.reach.so2,g'.reach.fr,g'.reach.own,g'.inv,g'.solo,g'.le0,h2,h3⟩
 cases e with
 |exit id=>exact hq.elim
 |normal=>exact⟨(λ_ h=>by cases h),fin hq⟩
 |ret=>exact⟨(λ_ h=>by cases h),fin hq⟩
def Xih (T:Ty) (fn:Func) (r:AV):X2->St->Mu->Prop:=λe s _=>X02f T fn r e s
theorem X32.of_bodyM (hT:X2i P T) {f:Nat} {fn:Func} {code:Code} (hfn:X5a P f fn code) {as:List AV} {nt:Nat} {r:AV} (hnt:fn.ntmps=nt)
  (hle:as.length<=nt) (h:X1q P nt 0 code (Xih T fn r) ⟨fr (argL 0 as),λ_=>none,0⟩ []):X32 P f as r:=by
 refine⟨⟨fn,code,hfn⟩,λw S vs hS hG hv=>?_⟩;let c:Ctx:=⟨w,pl0,S,λ_=>False,w.heap.size⟩
 have hI:Inv c (λ_=>none) (·<0) :=
  ⟨λo x h=>(by cases h),λo o' x x' h=>(by cases h),λo x h=>(by cases h),λb hb=>hb.elim (hS b) False.elim,Nat.le_refl _,λb hb=>hb.elim,λo x h=>(by cases h),hG⟩
 have g:X1r nt c (λ_=>none) 0 c ⟨X6a as,λ_=>none,0⟩ { tmps:=vs++Array.replicate (fn.ntmps - vs.size) undef,defers:=[] }:=by
  refine⟨hI,λo x h=>(by cases h),λt=>X3e hv _ t,λt=>X69 (λa ha=>?_) t,?_,.refl c _ 0,Nat.le_refl _⟩
  ·obtain⟨i,hi⟩:=List.getElem?_of_mem ha;have:i<vs.size:=by rw[<-hv.len];exact(List.getElem?_eq_some_iff.1 hi).1
   exact(hv.rel i a _ hi (Array.getElem?_eq_getElem this)).okDeep
  ·have:=hv.len;simp only[Array.size_append,Array.size_replicate];omega
 refine X53 (c:=c) hfn g.argL h ?_;intro e s' μ hq;have fin:(∃ rs,X59 T s' fn.results.toList rs/\Cv true s'.H (X4k rs) r)->∀ c' act',X1r nt c (λ_=>none) 0 c' s' act' ->
   ∃ v,(results fn act'.tmps).run P c'.w=.ok v c'.w/\∃ u,Ending.returned v=.returned u/\Xh ⟨c'.w,pl0,S,λb=>w.heap.size<=b/\b<c'.w.heap.size,w.heap.size⟩ true r u/\Xho w.heap.size w c'.w:=by
  rintro⟨rs,hrs,hk⟩ c' a g';obtain⟨v,h1,h2,h3⟩:=X9h hT g' hrs;have hr:=g'.reach;have hB:c'.B=w.heap.size:=hr.B;refine⟨v,h1,v,rfl,?_,⟨⟨hr.os,hr.tape,hr.output.1,hr.size,λk hk=>hr.block k hk (λo x hx=>(by cases hx))⟩,hr.output.2⟩⟩;refine Xeh g'.inv (c':=⟨c'.w,pl0,S,λb=>w.heap.size<=b/\b<c'.w.heap.size,w.heap.size⟩) rfl (λb hb=>?_) (λ_ b hb=>?_) (λo x hx=>?_) hk h2
  ·rcases hb with hb|hb
   ·exact .inl ⟨rfl,by rw[<-hr.sa];exact hb⟩
   ·exact .inr ⟨by rw[<-hB];exact g'.inv.own b hb,g'.inv.lt b (.inr hb)⟩
  ·exact⟨by rw[<-hB];exact g'.inv.own b hb,g'.inv.lt b (.inr hb)⟩
  ·obtain⟨_,⟨⟨cur,hcb,_⟩,_⟩,_⟩:=g'.inv.obj o x hx;exact .inr ⟨by rw[<-hB];exact g'.inv.low o x hx,(Array.getElem?_eq_some_iff.1 hcb).1⟩
 cases e with
 |exit id=>exact hq.elim
 |normal=>exact⟨(λ_ h=>by cases h),fin hq⟩
 |ret=>exact⟨(λ_ h=>by cases h),fin hq⟩
end
section
variable {P:Program} {nt n0:Nat} {s:St} {μ:Mu}
theorem X1r.weak' {c0 c:Ctx} {H0:X3} {s s':St} {act:Act} {θ:Nat->Nat} (g:X1r nt c0 H0 n0 c s act) (hw:Xdl θ n0 s s') :
  ∃ c',c'={ c with ρ:=λo=>c.ρ (θ o) }/\X1r nt c0 H0 n0 c' s' act:=⟨{ c with ρ:=λo=>c.ρ (θ o) },rfl,g.weakBy hw⟩
theorem X1r.weakM {c0 c:Ctx} {H0:X3} {s s':St} {act:Act} (g:X1r nt c0 H0 n0 c s act) (hm:MOk n0 c0 H0 c s.H μ act) (hw:Xhm n0 s s') :
  ∃ c',c'.w=c.w/\X1r nt c0 H0 n0 c' s' act/\MOk n0 c0 H0 c' s'.H μ act:=by
 obtain⟨θ,hw⟩:=hw;obtain⟨c',h2,h3⟩:=g.weak' hw;exact⟨c',by rw[h2],h3,hm.weak hw h2⟩
theorem X1q.weak {code:Code} {Q:X2->St->Mu->Prop} {s':St} (hw:Xhm n0 s s') (h:X1q P nt n0 code Q s' μ):X1q P nt n0 code Q s μ:=by
 intro c0 H0 c act g hm R hR;obtain⟨c',hc,g',hm'⟩:=g.weakM hm hw;have:=h c0 H0 c' act g' hm' R hR
 rwa [hc] at this
theorem X1t.weak {ops:Array Oper} {l:List Oper} {K:St->Mu->Prop} {s':St} (hw:Xhm n0 s s') (h:X1t P nt n0 ops l K s' μ):X1t P nt n0 ops l K s μ:=by
 intro c0 H0 c act g hm Qx hQ R hR;obtain⟨c',hc,g',hm'⟩:=g.weakM hm hw;have:=h c0 H0 c' act g' hm' Qx hQ R hR
 rwa [hc] at this
end
def thL:List (Nat×Nat)->Nat->Nat
 |[],o=>o
 |(a,b)::r,o=>bif Nat.beq o a then b else thL r o
def wkL (L:List (Nat×AV)) (θ:List (Nat×Nat)) (n:Nat):List (Nat×AV)->Prop
 |[]=>True
 |(t,a)::r=>fr L t=a.ren (thL θ)/\a.Ok (·<n)/\wkL L θ n r
def wkG1:Bool->Prop->Prop
 |true,_=>True
 |false,p=>p
def wkG (G:List (Nat×Obj)) (θ:List (Nat×Nat)) (n:Nat):List (Nat×Obj)->Prop
 |[]=>True
 |(o,x)::r=>wkG1 x.gone (∃ y,hp G (thL θ o)=some y/\y.esz=x.esz/\y.es=x.es.map (AV.ren (thL θ)))/\o<n/\(∀ e∈x.es,∀ a∈e.cells,a.Ok (·<n))/\x.solo=true/\x.spent=false/\wkG G θ n r
theorem Xez {L:List (Nat×AV)} {θ:List (Nat×Nat)} {n:Nat}:∀ {L':List (Nat×AV)},wkL L θ n L'->∀ t,(fr L' t=.junk\/fr L t=(fr L' t).ren (thL θ))/\(fr L' t).Ok (·<n):=by
 intro L'
 induction L' with
 |nil=>intro _ t;exact⟨.inl rfl,.junk⟩
 |cons p r ih =>
  obtain⟨d,a⟩:=p;rintro⟨h1,h2,h3⟩ t;by_cases ht:t=d
  ·subst ht;have:fr ((t,a)::r) t=a:=by simp[fr]
   rw[this];exact⟨.inr h1,h2⟩
  ·have:fr ((d,a)::r) t=fr r t:=by
    have hb:Nat.beq t d=false:=by rw[<-Bool.not_eq_true,Nat.beq_eq];exact ht
    simp[fr,hb]
   rw[this];exact ih h3 t
theorem Xf0 {G:List (Nat×Obj)} {θ:List (Nat×Nat)} {n:Nat}:∀ {G':List (Nat×Obj)},wkG G θ n G'->∀ o x,hp G' o=some x ->
  (∃ y,hp G (thL θ o)=some y/\y.esz=x.esz/\y.es=x.es.map (AV.ren (thL θ)))/\o<n/\(∀ e∈x.es,∀ a∈e.cells,a.Ok (·<n))/\x.solo=true/\x.spent=false:=by
 intro G'
 induction G' with
 |nil=>intro _ o x h;cases h
 |cons p r ih =>
  obtain⟨d,y⟩:=p;rintro⟨h1,h2,h3,h4,h5,h6⟩ o x hx;by_cases ho:o=d
  ·subst ho;have hg:=Xa8 hx;simp only[hp,Nat.beq_refl,cond_true] at hx
   cases hy:y.gone with
   |true=>rw[hy] at hx;cases hx
   |false =>
    rw[hy] at hx;cases hx;rw[hg] at h1;exact⟨h1,h2,h3,h4,h5⟩
  ·have:hp ((d,y)::r) o=hp r o:=by
    have hb:Nat.beq o d=false:=by rw[<-Bool.not_eq_true,Nat.beq_eq];exact ho
    simp[hp,hb]
   rw[this] at hx;exact ih h6 o x hx
theorem Xkq {G:List (Nat×Obj)} {o:Nat} (h:hp G o≠none):o∈G.map (·.1):=by
 induction G with
 |nil=>exact absurd rfl h
 |cons p r ih =>
  obtain⟨d,y⟩:=p;by_cases ho:o=d
  ·subst ho;simp
  ·have:hp ((d,y)::r) o=hp r o:=by
    have hb:Nat.beq o d=false:=by rw[<-Bool.not_eq_true,Nat.beq_eq];exact ho
    simp[hp,hb]
   rw[this] at h;exact List.mem_cons_of_mem _ (ih h)
def Xv0 (θ:List (Nat×Nat)):List Nat->Bool
 |[]=>true
 |o::r=>r.all (λq=>Nat.beq o q||!Nat.beq (thL θ o) (thL θ q))&&Xv0 θ r
theorem Xod {θ:List (Nat×Nat)}:∀ {l:List Nat},Xv0 θ l=true->∀ o∈l,∀ q∈l,thL θ o=thL θ q->o=q:=by
 intro l
 induction l with
 |nil=>intro _ o h;cases h
 |cons a r ih =>
  intro h o ho q hq he;simp only[Xv0,Bool.and_eq_true,List.all_eq_true,Bool.or_eq_true,Nat.beq_eq,Bool.not_eq_true'] at h;have key:∀ x∈r,thL θ a=thL θ x->a=x:=by
   intro x hx hax;rcases h.1 x hx with h1|h1
   ·exact h1
   ·rw[hax,Nat.beq_refl] at h1;cases h1
  rcases List.mem_cons.1 ho with h1|h1
  ·rcases List.mem_cons.1 hq with h2|h2
   ·rw[h1,h2]
   ·rw[h1] at he ⊢;exact key q h2 he
  ·rcases List.mem_cons.1 hq with h2|h2
   ·rw[h2] at he ⊢;exact(key o h1 he.symm).symm
   ·exact ih h.2 o h1 q h2 he
def fixB (θ:List (Nat×Nat)) (n0:Nat):Bool:=θ.all λp=>Nat.ble n0 p.1||Nat.beq p.1 p.2
theorem Xoj {n0:Nat}:∀ {θ:List (Nat×Nat)},fixB θ n0=true->∀ o,o<n0->thL θ o=o:=by
 intro θ
 induction θ with
 |nil=>intro _ o _;rfl
 |cons p r ih =>
  obtain⟨a,b⟩:=p;intro h o ho;simp only[fixB,List.all_cons,Bool.and_eq_true,Bool.or_eq_true,Nat.ble_eq,Nat.beq_eq] at h;simp only[thL]
  cases hb:Nat.beq o a with
  |true =>
   have:o=a:=Nat.eq_of_beq_eq_true hb;subst this;rcases h.1 with h1|h1
   ·omega
   ·simp only[cond_true];exact h1.symm
  |false=>simp only[cond_false];exact ih h.2 o ho
theorem Xl4 {L L':List (Nat×AV)} {G G':List (Nat×Obj)} {n n' n0:Nat} (θ:List (Nat×Nat)) (hb:(fixB θ n0&&Xv0 θ (G'.map (·.1))&&Nat.ble n0 n')=true) (hL:wkL L θ n' L') (hG:wkG G θ n' G') :
  Xhm n0 ⟨fr L,hp G,n⟩ ⟨fr L',hp G',n'⟩:=by
 simp only[Bool.and_eq_true,Nat.ble_eq] at hb;obtain⟨⟨h1,h2⟩,h3⟩:=hb;refine⟨thL θ,Xoj h1,λt=>(Xez hL t).1,λo x hx=>?_,λo q ho hq he=>Xod h2 o (Xkq ho) q (Xkq hq) he,λt=>(Xez hL t).2,λo x hx=>?_,h3⟩
 ·obtain⟨⟨y,g1,g2,g3⟩,_⟩:=Xf0 hG o x hx;exact⟨y,g1,g2,g3⟩
 ·obtain⟨_,g1,g2,g3,g4⟩:=Xf0 hG o x hx;exact⟨g1,g2,g3,g4⟩
theorem X6c.weak {P:Program} {nt n0:Nat} {Q:X2->St->Mu->Prop} {μ:Mu} {s s':St} (hw:Xhm n0 s s'):∀ (K:List Kn) (e:X2),X6c P nt n0 Q K e s' μ->X6c P nt n0 Q K e s μ:=by
 have hloop:∀ {b:Code} {Q':X2->St->Mu->Prop},X2x P nt n0 b Q' s' μ->X2x P nt n0 b Q' s μ:=by
  intro b Q' h c0 H0 c act g hm R hR;obtain⟨c',hc,g',hm'⟩:=g.weakM hm hw;have:=h c0 H0 c' act g' hm' R hR
  rwa [hc] at this
 intro K
 induction K with
 |nil =>
  intro e h c0 H0 c act g hm;obtain⟨c',hc,g',hm'⟩:=g.weakM hm hw;obtain⟨c2,s2,h1,h2,h3,h4⟩:=h c0 H0 c' act g' hm';exact⟨c2,s2,h1.trans hc,h2,h3,h4⟩
 |cons k K ih =>
  intro e h
  cases k with
  |seq c =>
   cases e with
   |normal=>exact X1q.weak hw h
   |exit i=>exact ih _ h
   |ret=>exact ih _ h
  |block id =>
   cases e with
   |normal=>exact ih _ h
   |ret=>exact ih _ h
   |exit i =>
    have h':X3r id (X6c P nt n0 Q K) (.exit i) s' μ:=h;show X3r id (X6c P nt n0 Q K) (.exit i) s μ;simp only[X3r] at h' ⊢
    cases hb:Nat.beq i id with
    |true=>rw[hb,cond_true] at h';exact ih _ h'
    |false=>rw[hb,cond_false] at h';exact ih _ h'
  |loop b =>
   cases e with
   |normal=>exact hloop h
   |exit i=>exact ih _ h
   |ret=>exact ih _ h
theorem Xk.weak {P:Program} {nt n0:Nat} {Q:X2->St->Mu->Prop} {cf:Cf} {K:List Kn} {μ:Mu} {s s':St} (hw:Xhm n0 s s') (h:Xk P nt n0 Q cf K s' μ):Xk P nt n0 Q cf K s μ:=by
 cases cf with
 |code c=>exact X1q.weak hw h
 |exit e=>exact X6c.weak hw K e h
 |ops ops l=>exact X1t.weak hw h
 |loop b =>
  intro c0 H0 c act g hm R hR;obtain⟨c',hc,g',hm'⟩:=g.weakM hm hw;have:=h c0 H0 c' act g' hm' R hR
  rwa [hc] at this
theorem X6c.collapse {P:Program} {nt n0:Nat} {Q:X2->St->Mu->Prop}:∀ (K:List Kn) (e:X2) (s:St) (μ:Mu),Cl nt n0 (X6c P nt n0 Q K) e s μ->X6c P nt n0 Q K e s μ:=by
 intro K
 induction K with
 |nil =>
  intro e s μ h c0 H0 c act g hm;obtain⟨c1,s1,h1,h2,h3,h4⟩:=h c0 H0 c act g hm;obtain⟨c2,s2,k1,k2,k3,k4⟩:=h4 c0 H0 c1 act h2 h3;exact⟨c2,s2,k1.trans h1,k2,k3,k4⟩
 |cons k K ih =>
  intro e s μ h
  cases k with
  |seq c =>
   cases e with
   |normal =>
    intro c0 H0 cx act g hm;obtain⟨c1,s1,h1,h2,h3,h4⟩:=h c0 H0 cx act g hm;rw[<-h1];exact h4 c0 H0 c1 act h2 h3
   |exit i=>exact ih (.exit i) s μ h
   |ret=>exact ih .ret s μ h
  |block id =>
   cases e with
   |normal=>exact ih .normal s μ h
   |ret=>exact ih .ret s μ h
   |exit i =>
    show X3r id (X6c P nt n0 Q K) (.exit i) s μ;have h':∀ (c0:Ctx) (H0:X3) (c:Ctx) (act:Act),X1r nt c0 H0 n0 c s act->MOk n0 c0 H0 c s.H μ act->∃ c' s',c'.w=c.w/\X1r nt c0 H0 n0 c' s' act/\MOk n0 c0 H0 c' s'.H μ act/\X3r id (X6c P nt n0 Q K) (.exit i) s' μ:=h;simp only[X3r] at h' ⊢
    cases hb:Nat.beq i id with
    |true=>simp only[hb,cond_true] at h' ⊢;exact ih .normal s μ h'
    |false=>simp only[hb,cond_false] at h' ⊢;exact ih (.exit i) s μ h'
  |loop b =>
   cases e with
   |normal =>
    intro c0 H0 cx act g hm;obtain⟨c1,s1,h1,h2,h3,h4⟩:=h c0 H0 cx act g hm;rw[<-h1];exact h4 c0 H0 c1 act h2 h3
   |exit i=>exact ih (.exit i) s μ h
   |ret=>exact ih .ret s μ h
theorem MQ.ofCl {nt n0:Nat} {Q:X2->St->Mu->Prop} {c0:Ctx} {H0:X3}:∀ e a w,MQ nt c0 H0 n0 (Cl nt n0 Q) e a w->MQ nt c0 H0 n0 Q e a w:=by
 rintro e a w ⟨c',s',ae,μ',rfl,g',hm',rfl,hq⟩;obtain⟨c2,s2,h1,h2,h3,h4⟩:=hq c0 H0 c' a g' hm';exact⟨c2,s2,ae,μ',h1,h2,h3,rfl,h4⟩
theorem Xk.weakTo {P:Program} {nt n0:Nat} {Q:X2->St->Mu->Prop} {cf:Cf} {K:List Kn} {μ:Mu} {L L':List (Nat×AV)} {G G':List (Nat×Obj)} {n n':Nat} (θ:List (Nat×Nat)) (h:Xk P nt n0 Q cf K ⟨fr L',hp G',n'⟩ μ)
  (hb:(fixB θ n0&&Xv0 θ (G'.map (·.1))&&Nat.ble n0 n')=true) (hL:wkL L θ n' L') (hG:wkG G θ n' G'):Xk P nt n0 Q cf K ⟨fr L,hp G,n⟩ μ:=Xk.weak (Xl4 θ hb hL hG) h
theorem Xk.cut {P:Program} {nt n0:Nat} {Q:X2->St->Mu->Prop} {cf:Cf} {K:List Kn} {μ:Mu} {s:St} (h:Xk P nt n0 (X6c P nt n0 Q K) cf [] s μ):Xk P nt n0 Q cf K s μ:=by
 cases cf with
 |code c=>exact X1q.ofCl h
 |exit e=>exact X6c.collapse K e s μ h
 |ops ops l =>
  intro c0 H0 c act g hm Qx hQ;refine h c0 H0 c act g hm Qx λc' s' act' μ' g' hm' hk=>?_;exact hQ c' s' act' μ' g' hm' (X6c.collapse K .normal s' μ' hk)
 |loop b =>
  intro c0 H0 c act g hm R hR bb k cs hro;obtain⟨e,a',w',hq,harr⟩:=h c0 H0 c act g hm R hR bb k cs hro;exact⟨e,a',w',MQ.ofCl e a' w' hq,harr⟩
theorem Xk.glue {P:Program} {nt n0:Nat} {Q:X2->St->Mu->Prop} {e:X2} {K:List Kn} {μ:Mu} {s:St} (h:Xk P nt n0 Q (.exit e) K s μ):Xk P nt n0 (X6c P nt n0 Q K) (.exit e) [] s μ:=Cl.mk h
theorem Xk.done {P:Program} {nt n0:Nat} {Q:X2->St->Mu->Prop} {e:X2} {μ:Mu} {s:St} (h:Q e s μ):Xk P nt n0 Q (.exit e) [] s μ:=Cl.mk h
def X4l:Code->List Code
 |.loop b=>b::X4l b
 |.seq a b=>X4l a++X4l b
 |.block _ c=>X4l c
 |.scope c=>X4l c
 |.cond _ a b=>X4l a++X4l b
 |.rangeFunc _ _ a b=>X4l a++X4l b
 |_=>[]
def Xe3 (i:Nat) (c:Code):Code:=((X4l c)[i]?).getD .skip
theorem X32.sym {P:Program} {T:Ty} (hT:X2i P T) {f:Nat} {fn:Func} {code:Code} (hfn:X5a P f fn code) {as:List AV} {nt:Nat} {r:AV} (hnt:fn.ntmps=nt)
  (hle:Nat.ble as.length nt=true) (h:Xk P nt 0 (Xih T fn r) (.code code) [] ⟨fr (argL 0 as),hp [],0⟩ []) (hok:∀ a∈as,a.Ok (·<0)):X32 P f as r:=by
 exact X32.of_bodyM hT hfn hnt (by simpa using hle) (X1q.ofCl h)
def Xhr (T:Ty) (L:List (Nat×AV)) (G:List (Nat×Obj)):List ResultVar->Option (List AV)
 |[]=>some []
 |.tmp t::l=>match fr L t with
  |.cond _ _=>none
  |a=>X5k a λa=>match Xhr T L G l with
   |some r=>some (a::r)
   |none=>none
 |.cell p t::l=>match T t with
  |some ti=>match fr L p with
   |.ptr o i k=>match hp G o with
    |some y=>match y.es[i]? with
     |some e=>match X67 ti e k with
      |some a=>X5k a λa=>match Xhr T L G l with
       |some r=>some (a::r)
       |none=>none
      |none=>none
     |none=>none
    |none=>none
   |_=>none
  |none=>none
theorem Xbx {T:Ty} {L:List (Nat×AV)} {G:List (Nat×Obj)} {n:Nat}:∀ (l:List ResultVar) (r:List AV),Xhr T L G l=some r->X59 T ⟨fr L,hp G,n⟩ l r:=by
 intro l
 induction l with
 |nil=>intro r h;simp[Xhr] at h;subst h;exact .nil
 |cons v l ih =>
  intro r h
  cases v with
  |tmp t =>
   simp only[Xhr] at h;split at h
   ·cases h
   ·rename_i a hne;rw[X35] at h;split at h
    ·rename_i hr;cases h
     have:X24 (fr L t)=fr L t:=by
      cases hq:fr L t with
      |cond g v=>exact absurd hq (hne g v)
      |_=>rfl
     have hres:ResR T ⟨fr L,hp G,n⟩ (.tmp t) (X24 (fr L t)):=.tmp;rw[this] at hres;exact .cons hres (ih _ hr)
    ·cases h
  |cell p t =>
   simp only[Xhr] at h;split at h
   ·rename_i ht;split at h
    ·rename_i hp1;split at h
     ·rename_i hH;split at h
      ·rename_i he;split at h
       ·rename_i hl;rw[X35] at h;split at h
        ·rename_i hr;cases h
         refine .cons (.cell ht (e:=_) (k:=_) ?_ hl) (ih _ hr);show Xbh (hp G) (X24 (fr L p)) _ _;rw[hp1];exact .ptr hH he
        ·cases h
       ·cases h
      ·cases h
     ·cases h
    ·cases h
   ·cases h
theorem Xk.inline {P:Program} {T:Ty} {nt n0 nt' f:Nat} {Q:X2->St->Mu->Prop} {ops:Array Oper} {l:List Oper} {o:Oper} {K:List Kn} {L:List (Nat×AV)} {G:List (Nat×Obj)} {n:Nat} {μ:Mu} {x:Operand} {args:Array Operand} {ts:Array Nat}
  {caps as:List AV} {fn:Func} {code:Code} (hT:X2i P T) (hfn:X5a P f fn code) (ho:o.op=.call { callee:=.value x,args:=args,argTypes:=ts }) (hg:o.guard=none) (hd:X45 nt o.dst=true) {qx qa:List Prop} (hx:rd L x=(.fn f caps,qx)) (ha:rds L args.toList=(as,qa)) (hpx:X28 qx) (hpa:X28 qa)
  (hnt:fn.ntmps=nt') (hle:Nat.ble (as++caps).length nt'=true)
  (h:Xk P nt' n (Xuu T fn λr H' n'=>Xk P nt n0 Q (.ops ops l) K ⟨X2h (fr L) o.dst r,H',n'⟩ μ) (.code code) [] ⟨fr (Av.argL 0 (as++caps)),hp G,n⟩ []):Xk P nt n0 Q (.ops ops (o::l)) K ⟨fr L,hp G,n⟩ μ:=by
 refine X1t.plain (s:=⟨fr L,hp G,n⟩) hg (X1s hd) (OpR.call (s:=⟨fr L,hp G,n⟩) ho (Xq hx hpx) ?_) (λa H' n' hr=>hr);rw[X6n ha hpa];exact HC.of_bodyM hT hfn hnt (by simpa using hle) (X1q.ofCl h)
theorem Xk.back {P:Program} {T:Ty} {nt n0 nt' n1:Nat} {fn:Func} {Q:X2->St->Mu->Prop} {ops:Array Oper} {l:List Oper} {d:Option Nat} {K:List Kn} {L L1:List (Nat×AV)} {G:List (Nat×Obj)} {n:Nat} {μ μ1:Mu} {rs:List AV} {e:X2} (he:∀ id,e≠.exit id)
  (hr:Xhr T L1 G fn.results.toList=some rs) (h:Xk P nt n0 Q (.ops ops l) K ⟨fr (Xdz d (X4k rs) L),hp G,n⟩ μ) :
  Xk P nt' n1 (Xuu T fn λr H' n'=>Xk P nt n0 Q (.ops ops l) K ⟨X2h (fr L) d r,H',n'⟩ μ) (.exit e) [] ⟨fr L1,hp G,n⟩ μ1:=by
 refine Cl.mk ?_;have hk:∃ rs,X59 T ⟨fr L1,hp G,n⟩ fn.results.toList rs/\Xk P nt n0 Q (.ops ops l) K ⟨X2h (fr L) d (X4k rs),hp G,n⟩ μ:=⟨rs,Xbx _ _ hr,by rw[<-X2a];exact h⟩
 cases e with
 |exit id=>exact absurd rfl (he id)
 |normal=>exact hk
 |ret=>exact hk
theorem Xte.sym {P:Program} {T:Ty} (hT:X2i P T) {f:Nat} {fn:Func} {code:Code} (hfn:X5a P f fn code) {as:List AV} {nt:Nat} {r:AV} {G G':List (Nat×Obj)} {n n':Nat} (hnt:fn.ntmps=nt) (hle:Nat.ble as.length nt=true)
  (h:Xk P nt n (Xuu T fn λr2 H2 n2=>r2=r/\H2=hp G'/\n2=n') (.code code) [] ⟨fr (Av.argL 0 as),hp G,n⟩ []):Xte P f as G n r G' n' :=
 ⟨HC.of_bodyM hT hfn hnt (by simpa using hle) (X1q.ofCl h)⟩
theorem Xk.fin {P:Program} {T:Ty} {nt n0:Nat} {fn:Func} {r:AV} {L:List (Nat×AV)} {G:List (Nat×Obj)} {n:Nat} {μ:Mu} {rs:List AV} {e:X2} (he:∀ id,e≠.exit id) (hr:Xhr T L G fn.results.toList=some rs) (hc:X4k rs=r) :
  Xk P nt n0 (Xuu T fn λr2 H2 n2=>r2=r/\H2=hp G/\n2=n) (.exit e) [] ⟨fr L,hp G,n⟩ μ:=by
 refine Cl.mk ?_;have hk:∃ rs,X59 T ⟨fr L,hp G,n⟩ fn.results.toList rs/\(X4k rs=r/\hp G=hp G/\n=n):=⟨rs,Xbx _ _ hr,hc,rfl,rfl⟩
 cases e with
 |exit id=>exact absurd rfl (he id)
 |normal=>exact hk
 |ret=>exact hk
theorem Xgh {P:Program} {T:Ty} {nt n0:Nat} {fn:Func} {r:AV} {L:List (Nat×AV)} {G:List (Nat×Obj)} {n:Nat} {μ:Mu} {rs:List AV} (hr:Xhr T L G fn.results.toList=some rs) (hc:Cv true (hp G) (X4k rs) r) :
  Xk P nt n0 (Xih T fn r) (.exit .ret) [] ⟨fr L,hp G,n⟩ μ:=Cl.mk ⟨rs,Xbx _ _ hr,hc⟩
end Go.Av


namespace Go.Av
variable [Gls]
def Xai (e:AV):Prop:=∀ a∈e.cells,∃ v,a=.sc v
theorem Xh3 {H:X3} {own:Bool} {es:List AV} (h:∀ e∈es,Xai e):Cv false H (.list own es) (.list false es):=by
 refine .listD rfl rfl (λi e e' he he'=>by rw[he] at he';cases he';rfl) (λi e e' k a b he he' ha hb=>?_);rw[he] at he';cases he';rw[ha] at hb;cases hb;obtain⟨v,rfl⟩:=h e (List.mem_of_getElem? he) a (List.mem_of_getElem? ha);exact .sc
theorem X0gk {m:Bool} {H:X3} {o n:Nat} {x:Obj} {es:List AV} (hH:H o=some x) (he:x.es=es) (hn:n=es.length) (h:∀ e∈es,Xai e):Cv m H (.ref o 0 n) (.list m es):=by
 subst he hn;refine .ref hH om rfl (λi e e' he he'=>?_) (λi e e' k a b he he' ha hb=>?_)
 ·rw[Nat.zero_add] at he;rw[he] at he';cases he';rfl
 ·rw[Nat.zero_add] at he;rw[he] at he';cases he';rw[ha] at hb;cases hb;obtain⟨v,rfl⟩:=h e (List.mem_of_getElem? he) a (List.mem_of_getElem? ha);exact .sc
theorem Cvs.nil {m:Bool} {H:X3}:Cvs m H [] []:=⟨rfl,λi a b h=>by simp at h⟩
theorem Cvs.cons {m:Bool} {H:X3} {a b:AV} {as bs:List AV} (h:Cv m H a b) (hs:Cvs m H as bs):Cvs m H (a::as) (b::bs):=by
 refine⟨by simp[hs.len],λi x y hx hy=>?_⟩
 cases i with
 |zero=>simp at hx hy;subst hx hy;exact h
 |succ i=>simp at hx hy;exact hs.rel i x y hx hy
theorem X5v.none {P:Program} {f:Nat} {H:X3} {as bs:List AV} {r:AV} (hp:X32 P f bs r) (h:Cvs false (λ_=>none) as bs):X5v P f H as bs r :=
 ⟨hp,λ_=>.none,h,(λ_ _ h=>by cases h),.inr λ_=>rfl⟩
theorem wrap_i64 {z:Int} (h1 : -9223372036854775808<=z) (h2:z<=9223372036854775807):IntKind.i64.wrap z=z:=IntWalk.i64_in z ⟨h1,h2⟩
theorem X06u {α:Type} {enc:α->AV} {l:List α} {k:Nat} {x:α} (h:l[k]?=some x):(l.map enc)[((k:Nat):Int).toNat]?=some (enc x):=by
 rw[Int.toNat_natCast,List.getElem?_map,h];rfl
def X8w (e:AV):Prop:=∀ θ,e.ren θ=e
theorem X5 {es:List AV} (h:∀ e∈es,X8w e) (θ:Nat->Nat):es=es.map (AV.ren θ):=by
 conv=>lhs;rw[<-List.map_id es]
 exact List.map_congr_left λe he=>(h e he θ).symm
theorem X5p {p:AV->Prop}:∀ e∈([]:List AV),p e:=λ_ h=>by cases h
theorem X2t {p:AV->Prop} {a:AV} {l:List AV} (h:p a) (hl:∀ e∈l,p e):∀ e∈a::l,p e:=λe he=>by
 rcases List.mem_cons.1 he with h1|h1
 ·rw[h1];exact h
 ·exact hl e h1
theorem X078 {v:Value}:Xai (.sc v):=λa ha=>⟨v,List.mem_singleton.1 ha⟩
theorem X74 {v:Value}:X8w (.sc v):=λ_=>rfl
theorem X0gj {m:Bool} {H:X3} {as bs:List AV} (h:Cvs m H as bs):Cv m H (.tup as) (.tup bs):=.tup h.len h.rel
end Go.Av


namespace Go.D
def getI {α:Type} (l:List α) (i:Int):Option α:=if 0<=i then l[i.toNat]? else none
def Xhb (n b:Nat):Option Unit:=if n*b<=140737488355328 then some () else none
def Xe4 (n:Nat):Option Unit:=if n<=140737488355328 then some () else none
def X0zh (l:List Nat):ByteArray:=⟨(l.map UInt8.ofNat).toArray⟩
end Go.D
namespace Go.Av
variable [Gls]
open Go.D
abbrev aI (k:IntKind) (z:Int):AV:=.sc (.int k z)
theorem brE {α:Type} {c:Bool} {a b:Option α} {r:α} {G:Prop} (h:(bif c then a else b)=some r) (h1:c=true->a=some r->G) (h2:c=false->b=some r->G):G:=by
 cases c with
 |true=>exact h1 rfl h
 |false=>exact h2 rfl h
theorem X0gp {α β:Type} {x:Option α} {f:α->Option β} {r:β} {G:Prop} (h:x.bind f=some r) (k:∀ v,x=some v->f v=some r->G):G:=by
 cases x with
 |none=>cases h
 |some v=>exact k v rfl h
theorem Xd8 {α:Type} {l:List α} {i:Int} {x:α} (h:getI l i=some x):0<=i:=by
 unfold getI at h;split at h
 ·assumption
 ·cases h
theorem Xiw {α:Type} {l:List α} {i:Int} {x:α} (h:getI l i=some x):l[i.toNat]?=some x:=by
 unfold getI at h;split at h
 ·exact h
 ·cases h
theorem Xd9 {α:Type} {l:List α} {i:Int} {x:α} {f:α->AV} (h:getI l i=some x):(l.map f)[i.toNat]?=some (f x):=by
 rw[List.getElem?_map,Xiw h];rfl
theorem X8s {α:Type} {l xs:List α} {k:Nat} {x:α} (h:l.drop k=x::xs):k<l.length/\l[k]?=some x/\l.drop (k+1)=xs:=by
 have hk:k<l.length:=by
  rcases Nat.lt_or_ge k l.length with h1|h1
  ·exact h1
  ·rw[List.drop_of_length_le h1] at h;cases h
 rw[List.drop_eq_getElem_cons hk] at h;injection h with h1 h2
 exact⟨hk,by rw[List.getElem?_eq_getElem hk,h1],h2⟩
theorem Xac {α:Type} {l:List α} {k:Nat} (h:l.drop k=[]):l.length<=k:=by
 simpa using h
theorem ixm {α:Type} {l:List α} {k:Nat} {x:α} {f:α->AV} (h:l[k]?=some x):(l.map f)[((k:Nat):Int).toNat]?=some (f x):=X06u h
theorem Xdi {n b:Nat} {u:Unit} (h:Xhb n b=some u):n*b<=140737488355328:=by
 unfold Xhb at h;split at h
 ·assumption
 ·cases h
theorem Xa5 {n:Nat} {u:Unit} (h:Xe4 n=some u):n<=140737488355328:=by
 unfold Xe4 at h;split at h
 ·assumption
 ·cases h
def opG (id esz:Nat) (es:List AV):List (Nat×Obj) :=
 match es with
 |[]=>[]
 |e::r=>[(id,{ es:=e::r,esz:=esz })]
theorem Xa9 {α:Type} {f:α->AV} (h:∀ x,Xai (f x)) (l:List α):∀ e∈l.map f,Xai e:=by
 intro e he;obtain⟨x,_,rfl⟩:=List.mem_map.1 he;exact h x
theorem X26 {α:Type} {f:α->AV} (h:∀ x,X8w (f x)) (l:List α):∀ e∈l.map f,X8w e:=by
 intro e he;obtain⟨x,_,rfl⟩:=List.mem_map.1 he;exact h x
def Xcl (e:AV):Prop:=∀ M:Nat->Prop,e.Ok M/\∀ a∈e.cells,a.Ok M
theorem X50 {α:Type} {f:α->AV} (h:∀ x,Xcl (f x)) (l:List α) (M:Nat->Prop):∀ e∈l.map f,∀ a∈e.cells,a.Ok M:=by
 intro e he;obtain⟨x,_,rfl⟩:=List.mem_map.1 he;exact(h x M).2
theorem Xgf {e:AV} (h:Xai e) (hw:e.whole=true):Xcl e:=λM=>by
 have h2:∀ a∈e.cells,a.Ok M:=λa ha=>by obtain⟨v,rfl⟩:=h a ha;exact .sc
 refine⟨?_,h2⟩
 cases e with
 |agg cs=>exact .agg h2
 |_=>first|exact h2 _ (List.mem_singleton.2 rfl)
def Nb {α:Type} (l:List α):Type:={ b:Bool // b=true->l=[] }
def nbF {α:Type} {l:List α}:Nb l:=⟨false,λh=>by cases h⟩
def nbT {α:Type} {l:List α} (h:l=[]):Nb l:=⟨true,λ_=>h⟩
def slE (nb:Bool) (id:Nat) (es:List AV):AV:=bif nb then .nils else .ref id 0 es.length
def opE (nb:Bool) (id esz:Nat) (es:List AV):List (Nat×Obj):=bif nb then [] else [(id,{ es:=es,esz:=esz })]
theorem Xk.join {P:Program} {nt n0:Nat} {Q:X2->St->Mu->Prop} {cf:Cf} {K:List Kn} {μ:Mu} {s s':St} (h1:Xk P nt n0 Q (.exit .normal) K s' μ)
  (h2:Xk P nt n0 Q (.exit .normal) K s' μ->Xk P nt n0 Q cf K s μ):Xk P nt n0 Q cf K s μ:=h2 h1
theorem Xc8 {v:Value} {P:List AV} (h:∀ a∈P,∃ v,a=.sc v):∀ a∈(.sc v::P),∃ v,a=.sc v:=λa ha=>by
 rcases List.mem_cons.1 ha with rfl|ha
 ·exact⟨_,rfl⟩
 ·exact h a ha
theorem X079:∀ a∈([]:List AV),∃ v,a=.sc v:=λ_ h=>by cases h
theorem Xgd {v:Value}:Xcl (.sc v):=λ_=>⟨.sc,λa ha=>by rw[List.mem_singleton.1 ha];exact .sc⟩
theorem Xj1 {cs:List AV} (h:∀ M:Nat->Prop,∀ a∈cs,a.Ok M):Xcl (.agg cs):=λM=>⟨.agg (h M),h M⟩
theorem X4z {e:AV} (h:Xcl e) (M:Nat->Prop):∀ e'∈[e],∀ a∈e'.cells,a.Ok M:=λe' he=>by rw[List.mem_singleton.1 he];exact(h M).2
theorem Xh4 {m:Bool} {H:X3} {as bs:List AV} (h:Cvs m H as bs):Cv m H (.agg as) (.agg bs):=.agg h.len h.rel
theorem X0go {m n b c:Nat} {u:Unit} (h:Xhb n c=some u) (hb:b=c) (hm:m=n):m*b<=140737488355328:=by subst hb hm;exact Xdi h
theorem Xkz {m n c:Nat} {u:Unit} (h:Xhb n c=some u) (hc:0<c) (hm:m=n):m<=maxLen:=by
 subst hm;have:=Xdi h;have h2:m*1<=m*c:=Nat.mul_le_mul_left _ hc;unfold maxLen;omega
theorem Xfq {f:Nat} {M:Nat->Prop}:(AV.fn f []).Ok M:=.fn λ_ h=>by cases h
theorem Xkk {P:Prop} (h:P:=by
 first
  |exact trivial
  |exact λh=>h
  |rfl
  |assumption
  |(apply Xd8;assumption;done)
  |(apply Xd9;assumption;done)
  |(apply getI_map0;assumption;done)
  |(apply ixm;assumption;done)
  |(apply ixm0;assumption;done)
  |(apply getI_mapc;assumption;done)
  |(apply getI_mapc0;assumption;done)
  |(apply ixmc;assumption;done)
  |(apply ixmc0;assumption;done)
  |(apply divOk_ne;assumption;done)
  |(apply shOk_le;assumption;done)
  |(intro a;rw[a];done)
  |(intro a;rw[a];rfl)
  |exact wrap_i64 om om
  |(refine cell_len ?_ _;intro x;rfl)
  |exact ex_head rfl
  |(refine cell_len_td ?_ _ _ _;intro x;rfl)
  |(refine cell_len_c ?_ _ _;intro x;rfl)
  |(refine take_full ?_;first|rfl|(simp;done)|(simp;omega)|(simp[*];done))
  |exact Nat.le_of_ble_eq_true rfl
  |(exact decide_eq_true om)
  |(exact decide_eq_false om)
  |(simp only[maxLen,List.length_append,List.length_map,List.length_cons,List.length_nil,List.length_replicate,Int.toNat_natCast];done)
  |(simp only[maxLen,List.length_append,List.length_map,List.length_cons,List.length_nil,List.length_replicate,Int.toNat_natCast] at *;omega)
  |(simp only[List.length_map];first|done|assumption|rfl)
  |(simp only[List.length_map];first|(apply Xd8;assumption;done)|(apply Xd9;assumption;done)|(apply getI_map0;assumption;done)|(apply getI_mapc;assumption;done)|(apply getI_mapc0;assumption;done))
  |(refine congrArg (λz=>AV.sc (Value.int IntKind.i64 z)) ?_;simp only[List.length_map,List.length_cons,List.length_append];done)
  |(refine congrArg (λz=>AV.sc (Value.int IntKind.i64 z)) ?_;first|(simp;done)|(simp;omega)|(simp[*];done))
  |(intro e he;rw[List.mem_singleton.1 he];rfl)
  |(intro e he;simp only[List.mem_cons,List.not_mem_nil,or_false] at he;rcases he with rfl|rfl<;>rfl)
  |exact andL
  |exact andR
  |(refine not_t ?_;assumption)
  |(refine not_f ?_;assumption)
  |(refine absT ?_;assumption)
  |(refine absN ?_;assumption)
  |omega
  |(simp;done)
  |(simp[*];done)
  |(intros;simp_all;done)):P:=h
end Go.Av


namespace Go.Av
variable [Gls]
theorem X8r {P:Program} {t et:Nat} {p:Option Addr} {n m:Nat} (hu:P.underlying t=some (.slice et)) (w:World) (d:Nat) :
  (Op.equalIn (d+1) t (.slice p n m) (.slice none 0 0)).run P w=.ok p.isNone w:=by
 unfold Op.equalIn;rw[Sem.run_bind,run_underlying hu w];cases p<;>rfl
theorem X7h {P:Program} {t:Nat} {et:Nat} {x:Operand} {p:Option Addr} {n m:Nat} (hu:P.underlying t=some (.slice et)) (w:World) (y:Operand) :
  ((do eqGuard .eql t x y (.slice p n m) (.slice none 0 0);binOp .eql t (.slice p n m) (.slice none 0 0):Sem Value)).run P w=.ok (.bool p.isNone) w:=by
 have h1:(eqGuard .eql t x y (.slice p n m) (.slice none 0 0)).run P w=.ok () w:=rfl;have h2:(binOp .eql t (.slice p n m) (.slice none 0 0))=(do pure (.bool (<-Op.equalIn (9999+1) t (.slice p n m) (.slice none 0 0))):Sem Value):=rfl;rw[Sem.run_bind,h1,Result.andThen_ok,h2,Sem.run_bind,X8r hu w 9999];rfl
def X4g:AV->Option Bool
 |.list _ es=>some es.isEmpty
 |.nils=>some true
 |.ref _ _ _=>some false
 |_=>none
theorem Xb1 {c:Ctx} {a:AV} {v:Value} {b:Bool} (h:Xh c false a v) (hn:X4g a=some b):∃ p n m,v=.slice p n m/\(b=false->p.isNone=false):=by
 cases h with
 |listNil=>simp[X4g] at hn;subst hn;exact⟨_,_,_,rfl,λh=>by cases h⟩
 |list vf hne =>
  rename_i es b off cap esz n hS hn' hcap hsz hcell h1 h;exact⟨_,_,_,rfl,λ_=>rfl⟩
 |nils=>simp[X4g] at hn;subst hn;exact⟨_,_,_,rfl,λh=>by cases h⟩
 |ref=>exact⟨_,_,_,rfl,λ_=>rfl⟩
 |_=>cases hn
theorem Xk.eqNil {P:Program} {T:Ty} {nt n0:Nat} {Q:X2->St->Mu->Prop} {ops:Array Oper} {l:List Oper} {o:Oper} {K:List Kn} {L:List (Nat×AV)} {G:List (Nat×Obj)} {n:Nat} {μ:Mu} {t yt:Nat} {x:Operand} {ti:TI} {et:Nat}
  {a:AV} {q:List Prop} {may:Bool} (hT:X2i P T) (ho:o.op=.binOp .eql t x (.const (.slice none 0 0)) yt) (hg:o.guard=none) (hd:X45 nt o.dst=true) (ht:T t=some ti) (hk:ti.kind=.slice et) (hx:rd L x=(a,q)) (hq:X28 q)
  (hm:X4g a=some may) (h:∀ b:Bool,(may=false->b=false)->Xk P nt n0 Q (.ops ops l) K ⟨fr (Xdz o.dst (.sc (.bool b)) L),hp G,n⟩ μ):Xk P nt n0 Q (.ops ops (o::l)) K ⟨fr L,hp G,n⟩ μ:=by
 refine X1t.plain (s:=⟨fr L,hp G,n⟩) hg (X1s hd) (R:=λa' H' n'=>(∃ b:Bool,(may=false->b=false)/\a'=.sc (.bool b))/\H'=hp G/\n'=n) ?_ ?_
 ·intro c0 H0 n0' c act g K' Q' hK R;have hv:=g.ev x;rw[show evA (St.A ⟨fr L,hp G,n⟩) x=a from Xq hx hq] at hv;obtain⟨p,m1,m2,hv',hp'⟩:=Xb1 hv hm;refine Oper.wpR (λd hd=>by rw[hd] at ho;cases ho) ?_;unfold Oper.wp;have hr:(execOp act.eval o).run P c.w=.ok (.value (.bool p.isNone)) c.w:=by
   obtain⟨dst,op,type,pos,after,guard⟩:=o;simp only at ho;subst ho;have:=X7h (P:=P) (t:=t) (x:=x) (p:=p) (n:=m1) (m:=m2) (X0o (hT t ti ht) hk) c.w (.const (.slice none 0 0));have hc:act.eval (.const (.slice none 0 0))=.slice none 0 0:=rfl;simp only[execOp,hv',hc];rw[Sem.run_bind,this];rfl
  rw[hr];exact hK c (.sc (.bool p.isNone)) (hp G) n (.bool p.isNone) ⟨⟨_,hp',rfl⟩,rfl,rfl⟩ λdst hd=>g.next hd (.refl c) rfl (λb hb=>.inl hb) (.refl c (hp G)) (λq x hx=>.inr ⟨q,x,hx,rfl⟩) g.inv g.solo (Nat.le_refl _) .sc .sc
 ·rintro a' H' n' ⟨⟨b,hb,rfl⟩,rfl,rfl⟩;have:=h b hb;rw[X2a] at this;exact this
end Go.Av


namespace Go.Av
variable [Gls]
def byL (s:ByteArray):List AV:=s.data.toList.map λu=>.sc (.int .u8 u.toNat)
theorem OpR.bytes {P:Program} {T:Ty} {nt:Nat} {o:Oper} {s:St} {src dst e:Nat} {x:Operand} {b:ByteArray} {ts td te:TI} (hT:X2i P T) (ho:o.op=.convert src dst x) (hx:evA s.A x=.sc (.string b))
  (h1:T src=some ts) (k1:ts.kind=.string) (h2:T dst=some td) (k2:td.kind=.slice e) (h3:T e=some te) (k3:te.kind=.int .u8) :
  OpR P nt o s (λa' H' n'=>a'=.list true (byL b)/\H'=s.H/\n'=s.n):=by
 intro c0 H0 n0 c act g K Q hK R;have hev:=g.ev x;rw[hx] at hev;have hv:act.eval x=.string b:=hev.sc_inv;have u1:P.underlying src=some .string:=by
  obtain⟨_,d,_,hd,_,hk,_⟩:=(hT src ts h1).parts;rw[k1] at hk;cases d<;>first|exact hd|cases hk
 have u2:P.underlying dst=some (.slice e):=by
  obtain⟨_,d,_,hd,_,hk,_⟩:=(hT dst td h2).parts;rw[k2] at hk;cases d<;>first|(cases hk;exact hd)|cases hk
 have u3:P.underlying e=some (.int .u8):=by
  obtain⟨_,d,_,hd,_,hk,_⟩:=(hT e te h3).parts;rw[k3] at hk;cases d<;>first|(cases hk;exact hd)|cases hk
 have hrun:=Lib.run_convert_string_bytes (P:=P) c.w src dst e b u1 u2 u3;refine Oper.wpR (λd hd=>by rw[hd] at ho;cases ho) ?_;unfold Oper.wp;have hrun2:(execOp act.eval o).run P c.w=.ok (.value (.slice (some ⟨c.w.heap.size,0,none⟩) b.size (grownCap c.w b.size 0 e))) (Lib.bytesWorld c.w e b):=by
  simp only[execOp,ho,hv,Sem.run_bind,hrun,Result.andThen_ok,Sem.run_pure]
 rw[hrun2];let W:=Lib.bytesWorld c.w e b
 have hold:∀ k,k<c.w.heap.size->W.heap[k]?=c.w.heap[k]?:=λk hk=>Lib.bytesWorld_at_old c.w e b k hk;have hsz:W.heap.size=c.w.heap.size+1:=Lib.bytesWorld_size c.w e b;let c':Ctx:=⟨W,c.ρ,c.Sa,λk=>c.So k\/k=c.w.heap.size,c.B⟩
 have hI:=g.inv;have hle:c.Le (·<s.n) c':=⟨λ_ _=>rfl,λk hk=>hk,λk hk=>.inl hk,λk hk=>hold k (hI.lt k hk),rfl⟩;have hblk:∀ o x,s.H o=some x->(c.ρ o).blk<c.w.heap.size:=by
  intro o x hx;obtain⟨_,⟨⟨cur,hcb,_⟩,_⟩,_⟩:=hI.obj o x hx;exact(Array.getElem?_eq_some_iff.1 hcb).1
 have hI':Inv c' s.H (·<s.n):=by
  refine⟨λo x hx=>?_,hI.sep,λo x hx=>?_,λk hk=>?_,by show c.B<=W.heap.size;have:=hI.base;omega,λk hk=>?_,hI.low,hI.glob.mono hle⟩
  ·obtain⟨h1,⟨⟨cur,hb,hss,hc⟩,h3,h4,h5⟩,h6⟩:=hI.obj o x hx;refine⟨h1,⟨⟨cur,by show W.heap[(c.ρ o).blk]?=_;rw[hold _ (hblk o x hx)];exact hb,hss,?_⟩,h3,h4,h5⟩,h6⟩;intro i e he;obtain⟨g1,g2⟩:=hc i e he;exact⟨g1,λk a ha=>by obtain⟨v,hv,hr,h7⟩:=g2 k a ha;exact⟨v,hv,hr.mono hle (.inr (h6 e (List.mem_of_getElem? he) a (List.mem_of_getElem? ha))),h7⟩⟩
  ·have h1:=hI.stab o x hx;exact⟨h1.1,λh=>h.elim h1.2 (λh=>by have:=hblk o x hx;have h2:(c.ρ o).blk=c.w.heap.size:=h;omega)⟩
  ·show k<W.heap.size;rcases hk with hk|hk|hk
   ·have:=hI.lt k (.inl hk);omega
   ·have:=hI.lt k (.inr hk);omega
   ·omega
  ·rcases hk with hk|hk
   ·exact hI.own k hk
   ·rw[hk];exact hI.base
 have hfr:Fr c s.H W:=by
  refine⟨rfl,rfl,⟨rfl,?_⟩,by omega,λk hk _=>hold k hk⟩;show dr c.w<=dr (Lib.bytesWorld c.w e b);exact X4e (Nat.le_succ _)
 have hrel:Xh c' false (.list true (byL b)) (.slice (some ⟨c.w.heap.size,0,none⟩) b.size (grownCap c.w b.size 0 e)):=by
  have hlen:(byL b).length=b.size:=by unfold byL;rw[List.length_map,Array.length_toList];rfl
  by_cases hne:byL b=[]
  ·rw[hne] at hlen ⊢;have:b.size=0:=by rw[<-hlen];rfl
   rw[this];exact .listNil
  ·have hd:∀ (i:Nat) ee,(byL b)[i]?=some ee->i<b.size/\ee=.sc (.int .u8 (b.data.toList.getD i 0).toNat):=by
    intro i ee he;unfold byL at he;rw[List.getElem?_map] at he
    cases hq:b.data.toList[i]? with
    |none=>rw[hq] at he;cases he
    |some u =>
     rw[hq] at he;simp only[Option.map_some,Option.some.injEq] at he;have hi:i<b.data.toList.length:=(List.getElem?_eq_some_iff.1 hq).1;refine⟨by rw[Array.length_toList] at hi;exact hi,?_⟩;rw[<-he,List.getD_eq_getElem?_getD,hq];rfl
   refine .list (esz:=1) (λi _=>.int .u8 (b.data.toList.getD i 0).toNat) hne (.inr (.inr rfl)) hlen.symm ?_ (λi ee he=>?_) (λi ee k a he ha=>?_) (λi ee k a he ha=>rfl) (λi ee k a he ha=>?_)
   ·rw[hlen];exact grownCap_ge c.w b.size 0 e
   ·rw[(hd i ee he).2];rfl
   ·obtain⟨hi,rfl⟩:=hd i ee he
    cases k with
    |zero =>
     have:=Lib.bytesWorld_cell c.w e b i hi;simpa using this
    |succ k=>cases ha
   ·obtain⟨hi,rfl⟩:=hd i ee he
    cases k with
    |zero=>cases ha;exact .sc
    |succ k=>cases ha
 exact hK c' _ s.H s.n _ ⟨rfl,rfl,rfl⟩ λdst' hd=>g.next hd hle rfl (λk hk=>hk.elim .inl (λh=>.inr (.inl om))) hfr (λq x hx=>.inr ⟨q,x,hx,rfl⟩) hI' g.solo (Nat.le_refl _) hrel .list
def Ext (P:Program) (f:Nat) (as:List AV) (r:AV):Prop :=
 ∀ (c:Ctx) (vs:Array Value),X48 c false as vs->∃ v,(callFunc f vs).run P c.w=.ok (.value v) c.w/\Xh c false r v/\r.Ok (λ_=>False)
theorem OpR.ext {P:Program} {nt:Nat} {s:St} {o:Oper} {x:Operand} {args:Array Operand} {ts:Array Nat} {f:Nat} {caps:List AV} {r:AV}
  (ho:o.op=.call { callee:=.value x,args:=args,argTypes:=ts }) (hx:evA s.A x=.fn f caps) (h:Ext P f (args.toList.map (evA s.A)++caps) r):OpR P nt o s (λa' H' n'=>a'=r/\H'=s.H/\n'=s.n):=by
 intro c0 H0 n0 c act g K Q hK R;have hfx:=g.ev x;rw[hx] at hfx;obtain⟨cv,hcv,hcl,hcr⟩:=hfx.fn_inv;let vs:Array Value:=args.map act.eval++cv
 have hrel:X48 c false (args.toList.map (evA s.A)++caps) vs:=by
  refine⟨by simp[vs,hcl],λi a v ha hv=>?_⟩;rw[List.getElem?_append] at ha;simp only[vs,Array.getElem?_append,Array.size_map] at hv;simp only[List.length_map,Array.length_toList] at ha;by_cases hi:i<args.size
  ·rw[if_pos hi] at ha hv;rw[List.getElem?_map] at ha;rw[Array.getElem?_map] at hv
   cases hq:args[i]? with
   |none=>simp[hq] at hv
   |some q =>
    have hq':args.toList[i]?=some q:=by simpa using hq
    simp only[hq',Option.map_some,Option.some.injEq] at ha;simp only[hq,Option.map_some,Option.some.injEq] at hv;subst ha hv;exact g.ev q
  ·rw[if_neg hi] at ha hv;exact hcr _ a v ha hv
 obtain⟨v,hr,hv,hok⟩:=h c _ hrel;have hrun:(execOp act.eval o).run P c.w=.ok (.value v) c.w:=by
  simp only[execOp,ho,resolve,hcv,Deferred.ofValue,Sem.run_bind,Sem.run_pure,Result.andThen_ok,invoke,Array.empty_append];exact hr
 refine Oper.wpR (λd hd=>by rw[hd] at ho;cases ho) ?_;unfold Oper.wp;rw[hrun];exact hK c r s.H s.n v ⟨rfl,rfl,rfl⟩ λdst hd=>g.next hd (.refl c) rfl (λk hk=>.inl hk) ⟨rfl,rfl,⟨rfl,Nat.le_refl _⟩,Nat.le_refl _,λ_ _ _=>rfl⟩ (λq x hx=>.inr ⟨q,x,hx,rfl⟩) g.inv g.solo (Nat.le_refl _) hv (hok.mono λ_ h=>h.elim)
theorem OpR.extM {P:Program} {nt:Nat} {s:St} {o:Oper} {x:Operand} {args:Array Operand} {ts:Array Nat} {f:Nat} {ra r:AV}
  (ho:o.op=.call { callee:=.value x,args:=args,argTypes:=ts }) (hx:evA s.A x=.mv f ra) (h:Ext P f (ra::args.toList.map (evA s.A)) r):OpR P nt o s (λa' H' n'=>a'=r/\H'=s.H/\n'=s.n):=by
 intro c0 H0 n0 c act g K Q hK R;have hfx:=g.ev x;rw[hx] at hfx;have hru:∃ u,act.eval x=.func (.func f) #[u] #[]/\Xh c false ra u:=by
  generalize act.eval x=q at hfx
  cases hfx with|mv h=>exact⟨_,rfl,h⟩
 obtain⟨u,hcv,hru⟩:=hru;let vs:Array Value:=#[u]++args.map act.eval
 have hrel:X48 c false (ra::args.toList.map (evA s.A)) vs:=by
  refine⟨by simp[vs];omega,λi a v ha hv=>?_⟩
  cases i with
  |zero =>
   have hv':vs[0]?=some u:=by simp only[vs];rw[Array.getElem?_append_left (by simp)];rfl
   rw[hv'] at hv;simp only[List.getElem?_cons_zero,Option.some.injEq] at ha hv;subst ha hv;exact hru
  |succ i =>
   have hv':(args.map act.eval)[i]?=some v:=by
    simp only[vs] at hv;rw[Array.getElem?_append_right (by simp)] at hv;simpa using hv
   simp only[List.getElem?_cons_succ] at ha;rw[List.getElem?_map] at ha;rw[Array.getElem?_map] at hv'
   cases hq:args[i]? with
   |none=>simp[hq] at hv'
   |some q =>
    have hq':args.toList[i]?=some q:=by simpa using hq
    simp only[hq',Option.map_some,Option.some.injEq] at ha;simp only[hq,Option.map_some,Option.some.injEq] at hv';subst ha hv';exact g.ev q
 obtain⟨v,hr,hv,hok⟩:=h c _ hrel;have hrun:(execOp act.eval o).run P c.w=.ok (.value v) c.w:=by
  simp only[execOp,ho,resolve,hcv,Deferred.ofValue,Sem.run_bind,Sem.run_pure,Result.andThen_ok,invoke,Array.append_empty];exact hr
 refine Oper.wpR (λd hd=>by rw[hd] at ho;cases ho) ?_;unfold Oper.wp;rw[hrun];exact hK c r s.H s.n v ⟨rfl,rfl,rfl⟩ λdst hd=>g.next hd (.refl c) rfl (λk hk=>.inl hk) ⟨rfl,rfl,⟨rfl,Nat.le_refl _⟩,Nat.le_refl _,λ_ _ _=>rfl⟩ (λq x hx=>.inr ⟨q,x,hx,rfl⟩) g.inv g.solo (Nat.le_refl _) hv (hok.mono λ_ h=>h.elim)
noncomputable def ixB (c:Nat) (l:List UInt8) (i:Nat):Int :=
 List.rec (motive:=λ_=>Nat->Int) (λ_ => -1) (λb _ ih i=>Bool.rec (motive:=λ_=>Int) (ih (i+1)) (.ofNat i) (Nat.beq b.toNat c)) l i
theorem X06w (c:UInt8):∀ (l:List UInt8) (i:Nat),ixB c.toNat l i=if Lib.indexByte l c = -1 then -1 else Lib.indexByte l c+i:=by
 intro l
 induction l with
 |nil=>intro i;rfl
 |cons b l ih =>
  intro i;show Bool.rec (motive:=λ_=>Int) (ixB c.toNat l (i+1)) (.ofNat i) (Nat.beq b.toNat c.toNat)=_;unfold Lib.indexByte
  cases hb:Nat.beq b.toNat c.toNat with
  |true =>
   have:b=c:=UInt8.toNat_inj.1 (Nat.eq_of_beq_eq_true hb);subst this;simp
  |false =>
   have:(b==c)=false:=by
    rw[beq_eq_false_iff_ne];intro e;subst e;rw[Nat.beq_refl] at hb;cases hb
   show ixB c.toNat l (i+1)=_;rw[this,ih];have:=Lib.indexByte_ge l c;by_cases h:Lib.indexByte l c = -1
   ·simp[h]
   ·simp only[if_neg h,beq_iff_eq,Bool.false_eq_true,if_false];rw[if_neg om];push_cast;omega
theorem Xg3 (s:ByteArray) (c:UInt8):ixB c.toNat s.data.toList 0=firstIdx s c:=by
 rw[X06w,Lib.firstIdx_eq];by_cases h:Lib.indexByte s.data.toList c = -1
 ·rw[if_pos h,h]
 ·rw[if_neg h];simp
theorem Xgk {P : Program} {f : Nat} {fn : Func} (hf : P.funcs[f]? = some fn) (hname : (fn.name == "runtime.NumGoroutine") = false) (hb : fn.body.isNone = true) (hn : Extern.findNext fn = none)
  (he:Extern.find fn=some Extern.BytealgIndexByte.indexByte) (s:ByteArray) (c:Nat) (hc:c<256):Ext P f [.sc (.string s),.sc (.int .u8 c)] (.sc (.int .i64 (ixB c s.data.toList 0))):=by
 intro cx vs hv;have hl:=hv.len;have h0:=hv.rel 0 (.sc (.string s)) (vs[0]'(by simp at hl;omega)) rfl (Array.getElem?_eq_getElem _);have h1:=hv.rel 1 (.sc (.int .u8 c)) (vs[1]'(by simp at hl;omega)) rfl (Array.getElem?_eq_getElem _);have e:vs=#[.string s,.int .u8 c]:=by
  apply Array.ext
  ·simpa using hl.symm
  ·intro i hi hi2
   match i with
   |0=>exact h0.sc_inv
   |1=>exact h1.sc_inv
   |i+2=>simp at hi2;omega
 subst e;refine⟨.int .i64 (ixB c s.data.toList 0),?_,.sc,.sc⟩;rw[run_callFunc_extern hf hname hb hn he,run_indexByte_string];have:((c:Int).toNat.toUInt8)=UInt8.ofNat c:=rfl;rw[this,<-Xg3];have:(UInt8.ofNat c).toNat=c:=by simp;omega
 rw[this];rfl
noncomputable def ixG:List AV->Option AV
 |[.sc (.string s),.sc (.int .u8 (.ofNat c))]=>bif Nat.blt c 256 then some (.sc (.int .i64 (ixB c s.data.toList 0))) else none
 |_=>none
theorem X06v {P : Program} {f : Nat} {fn : Func} (hf : P.funcs[f]? = some fn) (hname : (fn.name == "runtime.NumGoroutine") = false) (hb : fn.body.isNone = true) (hn : Extern.findNext fn = none)
  (he:Extern.find fn=some Extern.BytealgIndexByte.indexByte):∀ as r,ixG as=some r->Ext P f as r:=by
 intro as r h;unfold ixG at h;split at h
 ·rename_i s c
  cases hc:Nat.blt c 256 with
  |false=>rw[hc] at h;cases h
  |true =>
   rw[hc] at h;cases h
   exact Xgk hf hname hb hn he s c (by simpa using hc)
 ·cases h
theorem OpR.notNil {P:Program} {T:Ty} {nt:Nat} {s:St} {o:Oper} {t yt et:Nat} {x:Operand} {ti:TI} {bo:BinOp} {z:Bool} (hT:X2i P T) (ho:o.op=.binOp bo t x (.const (.slice none 0 0)) yt) (ht:T t=some ti) (hk:ti.kind=.slice et)
  (hm:X4g (evA s.A x)=some false) (hb:bo=.eql/\z=false\/bo=.neq/\z=true):OpR P nt o s (λa' H' n'=>a'=.sc (.bool z)/\H'=s.H/\n'=s.n):=by
 intro c0 H0 n0 c act g K Q hK R;have hv:=g.ev x;obtain⟨p,m1,m2,hv',hp'⟩:=Xb1 hv hm;have hp:=hp' rfl;refine Oper.wpR (λd hd=>by rw[hd] at ho;cases ho) ?_;unfold Oper.wp;have hu:=X0o (hT t ti ht) hk;have hr:(execOp act.eval o).run P c.w=.ok (.value (.bool z)) c.w:=by
  obtain⟨dst,op,type,pos,after,guard⟩:=o;simp only at ho;subst ho;have hc:act.eval (.const (.slice none 0 0))=.slice none 0 0:=rfl;simp only[execOp,hv',hc];rcases hb with ⟨rfl,rfl⟩|⟨rfl,rfl⟩
  ·have:=X7h (P:=P) (t:=t) (x:=x) (p:=p) (n:=m1) (m:=m2) hu c.w (.const (.slice none 0 0));rw[Sem.run_bind,this,hp];rfl
  ·have h1:(eqGuard .neq t x (.const (.slice none 0 0)) (.slice p m1 m2) (.slice none 0 0)).run P c.w=.ok () c.w:=rfl;have h2:(binOp .neq t (.slice p m1 m2) (.slice none 0 0))=(do pure (.bool (!(<-Op.equalIn (9999+1) t (.slice p m1 m2) (.slice none 0 0)))):Sem Value):=rfl;have:((do eqGuard .neq t x (.const (.slice none 0 0)) (.slice p m1 m2) (.slice none 0 0);binOp .neq t (.slice p m1 m2) (.slice none 0 0):Sem Value)).run P c.w=.ok (.bool true) c.w:=by
    rw[Sem.run_bind,h1,Result.andThen_ok,h2,Sem.run_bind,X8r hu c.w 9999,hp];rfl
   rw[Sem.run_bind,this];rfl
 rw[hr];exact hK c _ s.H s.n _ ⟨rfl,rfl,rfl⟩ λdst hd=>g.next hd (.refl c) rfl (λk hk=>.inl hk) ⟨rfl,rfl,⟨rfl,Nat.le_refl _⟩,Nat.le_refl _,λ_ _ _=>rfl⟩ (λq x hx=>.inr ⟨q,x,hx,rfl⟩) g.inv g.solo (Nat.le_refl _) .sc .sc
end Go.Av


namespace Go.Av.X
variable [Gls]
open Go.Av
inductive Stk:Nat->Prop
inductive StkO:Nat->Op->Prop
inductive Xtb:Nat->AV->Prop
noncomputable def fN (n:Nat) (k:Nat->Prop):Prop:=Nat.rec (motive:=λ_=>(Nat->Prop)->Prop) (λk=>k 0) (λm _ k=>k (Nat.succ m)) n k
theorem X2o (n:Nat) (k:Nat->Prop):fN n k=k n:=by cases n<;>rfl
noncomputable def fZ (z:Int) (k:Int->Prop):Prop:=Int.rec (motive:=λ_=>(Int->Prop)->Prop) (λn k=>fN n λn=>k (.ofNat n)) (λn k=>fN n λn=>k (.negSucc n)) z k
theorem Xj6 (z:Int) (k:Int->Prop):fZ z k=k z:=by
 cases z with
 |ofNat n=>exact X2o n λn=>k (.ofNat n)
 |negSucc n=>exact X2o n λn=>k (.negSucc n)
noncomputable def fB (b:Bool) (k:Bool->Prop):Prop:=Bool.rec (motive:=λ_=>(Bool->Prop)->Prop) (λk=>k false) (λk=>k true) b k
theorem X5x (b:Bool) (k:Bool->Prop):fB b k=k b:=by cases b<;>rfl
noncomputable def fK (x:IntKind) (k:IntKind->Prop):Prop:=IntKind.rec (motive:=λ_=>(IntKind->Prop)->Prop) (λk=>k .i8) (λk=>k .i16) (λk=>k .i32) (λk=>k .i64) (λk=>k .u8) (λk=>k .u16) (λk=>k .u32) (λk=>k .u64) x k
theorem X0xu (x:IntKind) (k:IntKind->Prop):fK x k=k x:=by cases x<;>rfl
noncomputable def fY (u:UInt8) (k:UInt8->Prop):Prop:=fN u.toNat λn=>k (UInt8.ofNat n)
theorem X0xs (u:UInt8) (k:UInt8->Prop):fY u k=k u:=by unfold fY;rw[X2o,UInt8.ofNat_toNat]
noncomputable def fYs (l:List UInt8):(List UInt8->Prop)->Prop :=
 List.rec (motive:=λ_=>(List UInt8->Prop)->Prop) (λk=>k []) (λu _ ih k=>fY u λu=>ih λl=>k (u::l)) l
theorem X07b (l:List UInt8):∀ k:List UInt8->Prop,fYs l k=k l:=by
 induction l with
 |nil=>intro k;rfl
 |cons u l ih=>intro k;show fY u (λu=>fYs l λl=>k (u::l))=_;rw[X0xs,ih]
noncomputable def fS (s:ByteArray) (k:ByteArray->Prop):Prop:=fYs s.data.toList λl=>k ⟨⟨l⟩⟩
theorem X0xt (s:ByteArray) (k:ByteArray->Prop):fS s k=k s:=by unfold fS;rw[X07b]
noncomputable def fV (v:Value) (k:Value->Prop):Prop :=
 Value.rec (motive_1:=λ_=>(Value->Prop)->Prop) (motive_2:=λ_=>Unit) (motive_3:=λ_=>Unit) (λb k=>fB b λb=>k (.bool b)) (λx z k=>fK x λx=>fZ z λz=>k (.int x z)) (λx n k=>k (.float x n)) (λx n m k=>k (.complex x n m)) (λs k=>fS s λs=>k (.string s)) (λa k=>k (.pointer a)) (λa l c k=>k (.slice a l c)) (λr k=>k (.map r)) (λr k=>k (.chan r)) (λf a b _ _ k=>k (.func f a b)) (λk=>k .nilFunc) (λt v _ k=>k (.iface t v)) (λk=>k .nilIface) (λc _ k=>k (.agg c)) (λc _ k=>k (.tuple c)) (λ_ _=>()) () (λ_ _ _ _=>()) v k
theorem X07c (v:Value) (k:Value->Prop):fV v k=k v:=by
 cases v with
 |bool b=>exact X5x b λb=>k (.bool b)
 |int x z=>show fK x (λx=>fZ z λz=>k (.int x z))=_;rw[X0xu,Xj6]
 |string s=>exact X0xt s λs=>k (.string s)
 |_=>rfl
noncomputable def sh (a:AV) (k:AV->Prop):Prop :=
 AV.rec (motive_1:=λ_=>(AV->Prop)->Prop) (motive_2:=λ_=>Unit) (λk=>k .junk) (λv k=>k (.sc v)) (λk=>k .nils) (λc _ k=>k (.agg c)) (λc _ k=>k (.tup c)) (λo e _ k=>k (.list o e)) (λo f l k=>k (.ref o f l)) (λo i j k=>k (.ptr o i j)) (λo e j _ k=>k (.elem o e j)) (λf c _ k=>k (.fn f c)) (λo m k=>k (.mref o m)) (λb v _ k=>k (.cond b v)) (λf a _ k=>k (.mv f a)) () (λ_ _ _ _=>()) a k
theorem X3k (a:AV) (k:AV->Prop):sh a k=k a:=by cases a<;>rfl
noncomputable def fsp (g:AV->(AV->Prop)->Prop) (l:List AV):(List AV->Prop)->Prop :=
 List.rec (motive:=λ_=>(List AV->Prop)->Prop) (λk=>k []) (λa _ ih k=>g a λa=>ih λl=>k (a::l)) l
theorem Xgc {g:AV->(AV->Prop)->Prop} (hg:∀ a k,g a k=k a) (l:List AV):∀ k:List AV->Prop,fsp g l k=k l:=by
 induction l with
 |nil=>intro k;rfl
 |cons a l ih=>intro k;show g a (λa=>fsp g l λl=>k (a::l))=_;rw[hg,ih]
noncomputable def fL:List AV->(List AV->Prop)->Prop:=fsp sh
theorem Xab (l:List AV) (k:List AV->Prop):fL l k=k l:=Xgc X3k l k
noncomputable def fA (a:AV) (k:AV->Prop):Prop :=
 AV.rec (motive_1:=λ_=>(AV->Prop)->Prop) (motive_2:=λ_=>Unit) (λk=>k .junk) (λv k=>fV v λv=>k (.sc v)) (λk=>k .nils) (λc _ k=>fL c λc=>k (.agg c)) (λc _ k=>fL c λc=>k (.tup c)) (λo e _ k=>fB o λo=>fL e λe=>k (.list o e)) (λo f l k=>fN o λo=>fN f λf=>fN l λl=>k (.ref o f l)) (λo i j k=>fN o λo=>fN i λi=>fN j λj=>k (.ptr o i j)) (λo e j _ k=>fB o λo=>sh e λe=>fN j λj=>k (.elem o e j)) (λf c _ k=>fN f λf=>fL c λc=>k (.fn f c)) (λo m k=>k (.mref o m)) (λb v _ k=>fB b λb=>sh v λv=>k (.cond b v)) (λf a _ k=>fN f λf=>sh a λa=>k (.mv f a)) () (λ_ _ _ _=>()) a k
theorem X4m (a:AV) (k:AV->Prop):fA a k=k a:=by
 cases a with
 |junk=>rfl
 |sc v=>exact X07c v λv=>k (.sc v)
 |nils=>rfl
 |agg c=>exact Xab c λc=>k (.agg c)
 |tup c=>exact Xab c λc=>k (.tup c)
 |list o e=>show fB o (λo=>fL e λe=>k (.list o e))=_;rw[X5x,Xab]
 |ref o f l=>show fN o (λo=>fN f λf=>fN l λl=>k (.ref o f l))=_;rw[X2o,X2o,X2o]
 |ptr o f l=>show fN o (λo=>fN f λf=>fN l λl=>k (.ptr o f l))=_;rw[X2o,X2o,X2o]
 |elem o e j=>show fB o (λo=>sh e λe=>fN j λj=>k (.elem o e j))=_;rw[X5x,X3k,X2o]
 |fn f c=>show fN f (λf=>fL c λc=>k (.fn f c))=_;rw[X2o,Xab]
 |mref o m=>rfl
 |cond b v=>show fB b (λb=>sh v λv=>k (.cond b v))=_;rw[X5x,X3k]
 |mv f a=>show fN f (λf=>sh a λa=>k (.mv f a))=_;rw[X2o,X3k]
noncomputable def fO (g:AV->(AV->Prop)->Prop) (x:Obj) (k:Obj->Prop):Prop :=
 fsp g x.es λes=>fN x.esz λz=>fB x.spent λb=>fB x.solo λc=>fB x.gone λd=>k ⟨es,z,b,c,d⟩
theorem X58 {g:AV->(AV->Prop)->Prop} (hg:∀ a k,g a k=k a) (x:Obj) (k:Obj->Prop):fO g x k=k x:=by
 unfold fO;rw[Xgc hg,X2o,X5x,X5x,X5x]
noncomputable def fD (a:AV):(AV->Prop)->Prop :=
 AV.rec (motive_1:=λ_=>(AV->Prop)->Prop) (motive_2:=λ_=>(List AV->Prop)->Prop) (λk=>k .junk) (λv k=>fV v λv=>k (.sc v)) (λk=>k .nils) (λ_ ih k=>ih λc=>k (.agg c)) (λ_ ih k=>ih λc=>k (.tup c))
  (λo _ ih k=>fB o λo=>ih λe=>k (.list o e)) (λo f l k=>fN o λo=>fN f λf=>fN l λl=>k (.ref o f l)) (λo i j k=>fN o λo=>fN i λi=>fN j λj=>k (.ptr o i j)) (λo _ j ih k=>fB o λo=>ih λe=>fN j λj=>k (.elem o e j))
  (λf _ ih k=>fN f λf=>ih λc=>k (.fn f c)) (λo m k=>k (.mref o m)) (λb _ ih k=>fB b λb=>ih λv=>k (.cond b v)) (λf _ ih k=>fN f λf=>ih λa=>k (.mv f a)) (λk=>k []) (λ_ _ ih1 ih2 k=>ih1 λa=>ih2 λl=>k (a::l)) a
noncomputable def fDs (l:List AV):(List AV->Prop)->Prop :=
 AV.rec_1 (motive_1:=λ_=>(AV->Prop)->Prop) (motive_2:=λ_=>(List AV->Prop)->Prop) (λk=>k .junk) (λv k=>fV v λv=>k (.sc v)) (λk=>k .nils) (λ_ ih k=>ih λc=>k (.agg c)) (λ_ ih k=>ih λc=>k (.tup c))
  (λo _ ih k=>fB o λo=>ih λe=>k (.list o e)) (λo f l k=>fN o λo=>fN f λf=>fN l λl=>k (.ref o f l)) (λo i j k=>fN o λo=>fN i λi=>fN j λj=>k (.ptr o i j)) (λo _ j ih k=>fB o λo=>ih λe=>fN j λj=>k (.elem o e j))
  (λf _ ih k=>fN f λf=>ih λc=>k (.fn f c)) (λo m k=>k (.mref o m)) (λb _ ih k=>fB b λb=>ih λv=>k (.cond b v)) (λf _ ih k=>fN f λf=>ih λa=>k (.mv f a)) (λk=>k []) (λ_ _ ih1 ih2 k=>ih1 λa=>ih2 λl=>k (a::l)) l
theorem Xeb (a:AV):∀ k,fD a k=k a:=by
 refine AV.rec (motive_1:=λa=>∀ k,fD a k=k a) (motive_2:=λl=>∀ k:List AV->Prop,fDs l k=k l) ?_ ?_ ?_ ?_ ?_ ?_ ?_ ?_ ?_ ?_ ?_ ?_ ?_ ?_ ?_ a
 ·intro k;rfl
 ·intro v k;exact X07c v λv=>k (.sc v)
 ·intro k;rfl
 ·intro c ih k;exact ih λc=>k (.agg c)
 ·intro c ih k;exact ih λc=>k (.tup c)
 ·intro o e ih k;show fB o (λo=>fDs e λe=>k (.list o e))=_;rw[X5x,ih]
 ·intro o f l k;show fN o (λo=>fN f λf=>fN l λl=>k (.ref o f l))=_;rw[X2o,X2o,X2o]
 ·intro o f l k;show fN o (λo=>fN f λf=>fN l λl=>k (.ptr o f l))=_;rw[X2o,X2o,X2o]
 ·intro o e j ih k;show fB o (λo=>fD e λe=>fN j λj=>k (.elem o e j))=_;rw[X5x,ih,X2o]
 ·intro f c ih k;show fN f (λf=>fDs c λc=>k (.fn f c))=_;rw[X2o,ih]
 ·intro o m k;rfl
 ·intro b v ih k;show fB b (λb=>fD v λv=>k (.cond b v))=_;rw[X5x,ih]
 ·intro f a ih k;show fN f (λf=>fD a λa=>k (.mv f a))=_;rw[X2o,ih]
 ·intro k;rfl
 ·intro a l ih1 ih2 k;show fD a (λa=>fDs l λl=>k (a::l))=_;rw[ih1,ih2]
theorem X9q (l:List AV):∀ k,fDs l k=k l:=by
 induction l with
 |nil=>intro k;rfl
 |cons a l ih=>intro k;show fD a (λa=>fDs l λl=>k (a::l))=_;rw[Xeb,ih]
noncomputable def stk (n:Nat):Prop:=Stk n
noncomputable def effX (id:Nat) (H:HX) (e:Eff) (k:HX->Prop):Prop :=
 match e with
 |.none=>k H
 |.new x=>fO fA x λx=>X1o H id (some x) k
 |.app old x=>fO sh x λx=>X1o H old none λH=>X1o H id (some x) k
theorem Xoq {id:Nat} {H:HX} {e:Eff} {k:HX->Prop} (h:effX id H e k):∃ H',hpX H'=e.seq id (hpX H)/\k H':=by
 cases e with
 |none=>exact⟨H,rfl,h⟩
 |new x =>
  have h:fO fA x (λx=>X1o H id (some x) k):=h;rw[X58 X4m] at h;exact X1j h
 |app old x =>
  have h:fO sh x (λx=>X1o H old none λH=>X1o H id (some x) k):=h;rw[X58 X3k] at h;obtain⟨H1,h1,h⟩:=X1j h;obtain⟨H2,h2,h⟩:=X1j h;exact⟨H2,by rw[h2,h1];rfl,h⟩
noncomputable def Xl3 (id:Nat) (H:HX) (e:X1k) (k:HX->Prop):Prop :=
 match e with
 |.none=>k H
 |.new x=>fO fA x λx=>X1o H id (some x) k
 |.app old x=>fO sh x λx=>X1o H old none λH=>X1o H id (some x) k
 |.set o x=>fO fA x λx=>X1o H o (some x) k
theorem Xi0 {id:Nat} {H:HX} {e:X1k} {k:HX->Prop} (h:Xl3 id H e k):∃ H',hpX H'=e.go id (hpX H)/\k H':=by
 cases e with
 |none=>exact⟨H,rfl,h⟩
 |new x =>
  have h:fO fA x (λx=>X1o H id (some x) k):=h;rw[X58 X4m] at h;rw[X1k.go_new];exact X1j h
 |app old x =>
  have h:fO sh x (λx=>X1o H old none λH=>X1o H id (some x) k):=h;rw[X58 X3k] at h;obtain⟨H1,h1,h⟩:=X1j h;obtain⟨H2,h2,h⟩:=X1j h;exact⟨H2,by rw[X1k.go_app,h2,h1],h⟩
 |set o x =>
  have h:fO fA x (λx=>X1o H o (some x) k):=h;rw[X58 X4m] at h;rw[X1k.go_set];exact X1j h
noncomputable def setL (l:List AV):Nat->AV->(List AV->Prop)->Prop :=
 List.rec (motive:=λ_=>Nat->AV->(List AV->Prop)->Prop) (λ_ _ k=>k []) (λb l ih i a k=>Nat.rec (motive:=λ_=>AV->List AV->AV->(Nat->AV->(List AV->Prop)->Prop)->(List AV->Prop)->Prop) (λ_ l a _ k=>k (a::l)) (λi _ b _ a ih k=>ih i a λl=>k (b::l)) i b l a ih k) l
theorem Xff (l:List AV):∀ (i:Nat) (a:AV) (k:List AV->Prop),setL l i a k=k (l.set i a):=by
 induction l with
 |nil=>intro i a k;rfl
 |cons b l ih =>
  intro i a k
  cases i with
  |zero=>rfl
  |succ i=>exact ih i a λl=>k (b::l)
theorem Xns (a b:Nat):((min a b:Nat):Int)=min (a:Int) (b:Int):=by omega
abbrev X4o:=Nat->List AV->HX->Nat->(AV->HX->Nat->Prop)->Prop
def X3n (P:Program) (rec:X4o):Prop :=
 ∀ f as H n k,rec f as H n k->∃ r H' n',HC P f as (hpX H) n (λr2 H2 n2=>r2=r/\H2=hpX H'/\n2=n')/\k r H' n'
def X9u (P:Program) (rec:X4o):Prop :=
 ∀ f as H n k,rec f as H n k->(∃ r H' n',HC P f as (hpX H) n (λr2 H2 n2=>r2=r/\H2=hpX H'/\n2=n')/\k r H' n')\/(∃ r,Ext P f as r/\k r H n)
theorem X3n.X {P:Program} {rec:X4o} (h:X3n P rec):X9u P rec:=λf as H n k hk=>.inl (h f as H n k hk)
noncomputable def extR (X:Nat->Option (List AV->Option AV)) (rec:X4o):X4o:=λf as H n k =>
 match X f with
 |none=>rec f as H n k
 |some g=>match g as with
  |some r=>fA r λr=>k r H n
  |none=>Stk f
def Xaj (P:Program) (X:Nat->Option (List AV->Option AV)):Prop:=∀ f g,X f=some g->∀ as r,g as=some r->Ext P f as r
theorem Xom {P:Program} {X:Nat->Option (List AV->Option AV)} {rec:X4o} (hX:Xaj P X) (h:X3n P rec):X9u P (extR X rec):=by
 intro f as H n k hk;unfold extR at hk;split at hk
 ·exact .inl (h _ _ _ _ _ hk)
 ·rename_i g hg;split at hk
  ·rename_i r hr;rw[X4m] at hk;exact .inr ⟨r,hX _ _ hg _ _ hr,hk⟩
  ·cases hk
def stC (ti:TI) (y:Obj) (e v:AV) (k:Nat):Bool:=y.solo&&v.whole&&Nat.beq v.cells.length ti.size&&Nat.ble (k+ti.size) e.cells.length&&!Nat.beq ti.size 0
noncomputable def stX (T:Ty) (H:HX) (t:Nat) (p v:AV) (K:Obj->List AV->Nat->HX->Prop):Prop :=
 match T t with
 |some ti=>match p with
  |.ptr o i k=>match hpX H o with
   |some y=>match y.es[i]? with
    |some e=>Bool.rec (motive:=λ_=>Prop) (stk 11) (fA (X2k e k v) λe'=>setL y.es i e' λes=>X1o H o (some { y with es:=es }) (K y es o)) (stC ti y e v k)
    |none=>stk 12
   |none=>stk 13
  |p=>Xtb 14 p
 |none=>stk 15
theorem X00l {T:Ty} {ev:Operand->AV} {H:HX} {t:Nat} {p x:Operand} {K:Obj->List AV->Nat->HX->Prop} (h:stX T H t (ev p) (ev x) K) :
  ∃ q z y es H',stF T ev (hpX H) t p x=some (q,z)/\hpX H'=upd (hpX H) q (some z)/\K y es q H':=by
 unfold stX at h;split at h
 ·rename_i ti hT;split at h
  ·rename_i o i k hp;split at h
   ·rename_i y hy;split at h
    ·rename_i e he
     cases hc:stC ti y e (ev x) k with
     |false=>rw[hc] at h;cases h
     |true =>
      rw[hc] at h;have h:fA (X2k e k (ev x)) (λe'=>setL y.es i e' λes=>X1o H o (some { y with es:=es }) (K y es o)):=h;rw[X4m,Xff] at h;obtain⟨H',h1,h2⟩:=X1j h;refine⟨o,_,y,_,H',?_,h1,h2⟩;simp only[stC,Bool.and_eq_true,Nat.beq_eq,Nat.ble_eq,Bool.not_eq_true'] at hc;obtain⟨⟨⟨⟨g1,g2⟩,g3⟩,g4⟩,g5⟩:=hc;unfold stF;simp only[hT,hp,hy,he];rw[if_pos ⟨g1,g2,g3,g4,Nat.ne_of_beq_eq_false g5⟩]
    ·cases h
   ·cases h
  ·cases h
 ·cases h
noncomputable def Xbf (rec:X4o) (H:HX) (n:Nat) (f:AV) (as:List AV) (k:AV->HX->Nat->Prop):Prop :=
 match f with
 |.fn f caps=>fL (as++caps) λas=>rec f as H n k
 |.mv f a=>fL (a::as) λas=>rec f as H n k
 |f=>Xtb 21 f
noncomputable def strB (a:AV):Bool:=match a with
 |.sc _=>true
 |_=>false
noncomputable def cp0X (a b:Option Nat) (s:Bool) (H:HX) (n:Nat) (k:AV->HX->Nat->Prop):Prop :=
 match a,b with
 |some a,some b=>if min b a=0/\s=false then k (.sc (goInt 0)) H n else stk 32
 |_,_=>stk 37
theorem Xsu {a b:Option Nat} {s:Bool} {H:HX} {n:Nat} {k:AV->HX->Nat->Prop} (h:cp0X a b s H n k):∃ x y,a=some x/\b=some y/\min y x=0/\s=false/\k (.sc (goInt 0)) H n:=by
 unfold cp0X at h;split at h
 ·split at h
  ·rename_i hh;exact⟨_,_,rfl,rfl,hh.1,hh.2,h⟩
  ·cases h
 ·cases h
noncomputable def cpX (T:Ty) (ev:Operand->AV) (H:HX) (n:Nat) (t:Nat) (d x:Operand) (k:AV->HX->Nat->Prop):Prop :=
 match X1v T t with
 |some te=>match srcF (hpX H) (ev x) with
  |some xs=>match ev d with
   |.ref q off len=>match hpX H q with
    |some y=>if min xs.length len≠0/\off+len<=y.es.length/\y.esz=te.size then
      (if xs.all (λe=>e.cells.length==te.size)=true then
       fN (min xs.length len) λm=>fO sh { y with es:=splice y.es off (xs.take m) } λz=>X1o H q (some z) λH=>k (.sc (goInt (m:Nat))) H n else stk 31)
      else cp0X (Xa6 (ev d)) (Xa6 (ev x)) (strB (ev x)) H n k
    |none=>stk 33
   |_=>stk 34
  |none=>stk 35
 |none=>stk 36
theorem OpR.trunc {P:Program} {nt:Nat} {o:Oper} {A:Nat->AV} {H:X3} {n q:Nat} {y:Obj} {R:AV->X3->Nat->Prop} (hy:H q=some y) (m:Nat) (h:OpR P nt o ⟨A,upd H q (some { y with es:=y.es.take m }),n⟩ R):OpR P nt o ⟨A,H,n⟩ R :=
 λc0 H0 n0 c act g=>h c0 H0 n0 c act (g.trunc hy m)
noncomputable def cutX (ev:Operand->AV) (H:HX) (n:Nat) (op:Op) (k:HX->Prop):Prop :=
 match op with
 |.call { callee:=.builtin .append,args:=⟨[s,_]⟩,argTypes:=_ }=>match ev s with
  |.ref o 0 m=>match hpX H o with
   |some y=>fO sh { y with es:=y.es.take m } λy=>X1o H o (some y) k
   |none=>stk 42
  |a=>fA a (Xtb 43)
 |op=>StkO n op
noncomputable def mkX (T:Ty) (F:FX) (n:Nat) (op:Op) (H:HX) (no:Prop) (k:AV->HX->Nat->Prop):Prop :=
 match mkF T (evA (frX F)) (hpX H) n op with
 |some (a,e)=>fA a λa=>effX n H e λH=>fN (n+1) λn=>k a H n
 |none=>no
noncomputable def flB (es:List AV):Bool:=es.all λe=>e.cells.all strB
theorem Xkt {es:List AV} (h:flB es=true):∀ e∈es,∀ a∈e.cells,∃ v,a=.sc v:=λe he a ha=>by
 have:=List.all_eq_true.1 (List.all_eq_true.1 h e he) a ha;cases a<;>first|exact⟨_,rfl⟩|cases this
noncomputable def frX3 (T:Ty) (ev:Operand->AV) (H:HX) (n:Nat) (t q len:Nat) (lo:Option Operand) (hi mx:Operand) (no:Prop) (k:AV->HX->Nat->Prop):Prop :=
 match X1v T t with
 |some te=>match hpX H q with
  |some y=>match bdF ev lo 0,bdF ev (some hi) 0,bdF ev (some mx) 0 with
   |some l,some h,some m=>bif Nat.beq m len&&Nat.beq y.es.length len&&Nat.ble l h&&Nat.ble h len&&Nat.beq y.esz te.size&&flB y.es then fA (.list true ((y.es.drop l).take (h - l))) λa=>X1o H q none λH=>k a H n else no
   |_,_,_=>no
  |none=>no
 |none=>no
theorem Xoi {P:Program} {T:Ty} {nt:Nat} {H:HX} {n:Nat} {o:Oper} {no:Prop} {k:AV->HX->Nat->Prop} {A:Nat->AV} {t q len:Nat} {x:Operand} {lo:Option Operand} {hi mx:Operand} (hT:X2i P T) (ho:o.op=.slice t x lo (some hi) (some mx)) (hx:evA A x=.ref q 0 len) (h:frX3 T (evA A) H n t q len lo hi mx no k) :
  (∃ a H' n',OpR P nt o ⟨A,hpX H,n⟩ (λa' H2 n2=>a'=a/\H2=hpX H'/\n2=n')/\k a H' n')\/no:=by
 unfold frX3 at h;split at h
 ·rename_i te hs;obtain⟨ti,et,h1,h2,h3⟩:=X0i hs;split at h
  ·rename_i y hy;split at h
   ·rename_i l hh m hl hhh hm
    cases hc:(Nat.beq m len&&Nat.beq y.es.length len&&Nat.ble l hh&&Nat.ble hh len&&Nat.beq y.esz te.size&&flB y.es) with
    |false=>rw[hc,cond_false] at h;exact .inr h
    |true =>
     rw[hc,cond_true,X4m] at h;simp only[Bool.and_eq_true,Nat.beq_eq,Nat.ble_eq] at hc;obtain⟨⟨⟨⟨⟨rfl,c1⟩,c2⟩,c3⟩,c4⟩,c5⟩:=hc;obtain⟨H',e1,h⟩:=X1j h;refine .inl ⟨_,H',n,?_,h⟩;have:=OpR.sliceFrz (s:=⟨A,hpX H,n⟩) (nt:=nt) hT ho hx hy c1 (X2f hl) (X2f hhh) (X2f hm) c2 c3 h1 h2 h3 c4 (Xkt c5);exact this.mono λa Hq nq hq=>⟨hq.1,hq.2.1.trans e1.symm,hq.2.2⟩
   ·exact .inr h
  ·exact .inr h
 ·exact .inr h
noncomputable def exX (T:Ty) (F:FX) (H:HX) (n:Nat) (op:Op) (no:Prop) (k:AV->HX->Nat->Prop):Prop :=
 match op with
 |.convert s d x=>match T s,T d with
  |some ts,some td=>match ts.kind,td.kind with
   |.string,.slice e=>match T e with
    |some te=>match te.kind with
     |.int .u8=>match evA (frX F) x with
      |.sc (.string b)=>fD (.list true (byL b)) λa=>k a H n
      |_=>no
     |_=>no
    |none=>no
   |_,_=>no
  |_,_=>no
 |.slice t x lo (some hi) (some mx)=>match evA (frX F) x with
  |.ref q 0 len=>frX3 T (evA (frX F)) H n t q len lo hi mx no k
  |_=>no
 |.binOp bo t x (.const (.slice none 0 0)) _=>match T t with
  |some ti=>match ti.kind with
   |.slice _=>match X4g (evA (frX F) x) with
    |some false=>match bo with
     |.eql=>k (.sc (.bool false)) H n
     |.neq=>k (.sc (.bool true)) H n
     |_=>no
    |_=>no
   |_=>no
  |none=>no
 |_=>no
noncomputable def opG (T:Ty) (rec:X4o) (F:FX) (H:HX) (n:Nat) (o:Oper) (k:AV->HX->Nat->Prop):Prop :=
 match o.op with
 |.move x=>sh (evA (frX F) x) λa=>k a H n
 |.assign x=>sh (evA (frX F) x) λa=>k a H n
 |.store t p x=>stX T H t (evA (frX F) p) (evA (frX F) x) λ_ _ _ H=>k (.sc undef) H n
 |.call { callee:=.value x,args:=args,argTypes:=_ }=>Xbf rec H n (evA (frX F) x) (args.toList.map (evA (frX F))) k
 |.call { callee:=.builtin .copy,args:=⟨[d,x]⟩,argTypes:=⟨[t,_]⟩ }=>cpX T (evA (frX F)) H n t d x k
 |op=>match pX T (evG (frX F)) (hpX H) op with
  |some a=>fA a λa=>k a H n
  |none=>mkX T F n op H (exX T F H n op (cutX (evA (frX F)) H n op λH=>mkX T F n op H (StkO n op) k) k) k
theorem X07e {A B:Nat->AV} (h:evA A=evA B):evG A=evG B:=by
 funext x
 cases x with
 |global g=>rfl
 |tmp t=>exact congrFun h (.tmp t)
 |const v=>exact congrFun h (.const v)
 |func f=>exact congrFun h (.func f)
theorem Xfr {P:Program} {T:Ty} {nt:Nat} {F:FX} {H:HX} {n:Nat} {o:Oper} {no:Prop} {k:AV->HX->Nat->Prop} {A:Nat->AV} (hA:evA A=evA (frX F)) (hT:X2i P T) (h:mkX T F n o.op H no k) :
  no\/∃ a H' n',OpR P nt o ⟨A,hpX H,n⟩ (λa' H2 n2=>a'=a/\H2=hpX H'/\n2=n')/\k a H' n':=by
 unfold mkX at h;rw[<-hA] at h;split at h
 ·rename_i hm;rw[X4m] at h;obtain⟨H',e1,h⟩:=Xoq h;rw[X2o] at h;obtain⟨h1,h2⟩:=X7m hm;refine .inr ⟨_,_,_,?_,h⟩;rw[e1];exact OpR.mk hT (s:=⟨A,hpX H,n⟩) h1 h2
 ·exact .inl h
theorem Xsr {ev:Operand->AV} {H:HX} {n:Nat} {op:Op} {k:HX->Prop} (h:cutX ev H n op k):∃ q y m H',hpX H q=some y/\hpX H'=upd (hpX H) q (some { y with es:=y.es.take m })/\k H':=by
 unfold cutX at h;split at h
 ·split at h
  ·split at h
   ·rename_i hy;rw[X58 X3k] at h;obtain⟨H',h1,h2⟩:=X1j h;exact⟨_,_,_,H',hy,h1,h2⟩
   ·cases h
  ·rw[X4m] at h;cases h
 ·cases h
theorem X07d {P:Program} {T:Ty} {nt:Nat} {F:FX} {H:HX} {n:Nat} {o:Oper} {no:Prop} {k:AV->HX->Nat->Prop} {A:Nat->AV} (hA:evA A=evA (frX F)) (hT:X2i P T) (h:exX T F H n o.op no k) :
  (∃ a H' n',OpR P nt o ⟨A,hpX H,n⟩ (λa' H2 n2=>a'=a/\H2=hpX H'/\n2=n')/\k a H' n')\/no:=by
 unfold exX at h;split at h
 ·rename_i s d x ho;split at h
  ·rename_i ts td h1 h2;split at h
   ·rename_i e k1 k2;split at h
    ·rename_i te h3;split at h
     ·rename_i k3;split at h
      ·rename_i b hx;rw[Xeb] at h;exact .inl ⟨_,_,_,OpR.bytes (s:=⟨A,hpX H,n⟩) hT ho (by show evA A x=_;rw[hA];exact hx) h1 k1 h2 k2 h3 k3,h⟩
      ·exact .inr h
     ·exact .inr h
    ·exact .inr h
   ·exact .inr h
  ·exact .inr h
 ·rename_i t x lo hi mx ho;rw[<-hA] at h;split at h
  ·rename_i hx;exact Xoi hT ho hx h
  ·exact .inr h
 ·rename_i bo t x yt ho;split at h
  ·rename_i ti ht;split at h
   ·rename_i et hk;split at h
    ·rename_i hm;rw[<-hA] at hm;split at h
     ·exact .inl ⟨_,_,_,OpR.notNil (s:=⟨A,hpX H,n⟩) hT ho ht hk hm (.inl ⟨rfl,rfl⟩),h⟩
     ·exact .inl ⟨_,_,_,OpR.notNil (s:=⟨A,hpX H,n⟩) hT ho ht hk hm (.inr ⟨rfl,rfl⟩),h⟩
     ·exact .inr h
    ·exact .inr h
   ·exact .inr h
  ·exact .inr h
 ·exact .inr h
theorem X02l {P:Program} {T:Ty} {rec:X4o} {nt:Nat} {F:FX} {H:HX} {n:Nat} {o:Oper} {k:AV->HX->Nat->Prop} {A:Nat->AV} (hA:evA A=evA (frX F)) (hT:X2i P T) (hr:X9u P rec) (h:opG T rec F H n o k) :
  ∃ a H' n',OpR P nt o ⟨A,hpX H,n⟩ (λa' H2 n2=>a'=a/\H2=hpX H'/\n2=n')/\k a H' n':=by
 unfold opG at h;simp only[<-hA,<-X07e hA] at h;split at h
 ·rename_i x ho;rw[X3k] at h;exact⟨_,_,_,OpR.pu hT (s:=⟨A,hpX H,n⟩) (by rw[ho];exact .move),h⟩
 ·rename_i x ho;rw[X3k] at h;exact⟨_,_,_,OpR.pu hT (s:=⟨A,hpX H,n⟩) (by rw[ho];exact .assign),h⟩
 ·rename_i t p x ho;obtain⟨q,z,y,es,H',h1,h2,h3⟩:=X00l h;obtain⟨i,k',y,e,ti,g1,g2,g3,g4,g5,g6,g7,g8,g9,rfl⟩:=Xcv h1;refine⟨_,_,_,?_,h3⟩;rw[h2];refine OpR.st hT (s:=⟨A,hpX H,n⟩) ?_;rw[ho];exact .store g1 g2 g3 g4 g5 g6 g7 g8 g9
 ·rename_i x args ts ho;unfold Xbf at h;split at h
  ·rename_i f caps hx;rw[Xab] at h;rcases hr _ _ _ _ _ h with ⟨r,H',n',h1,h2⟩|⟨r,h1,h2⟩
   ·exact⟨r,H',n',OpR.call (s:=⟨A,hpX H,n⟩) ho hx h1,h2⟩
   ·exact⟨r,H,n,OpR.ext (s:=⟨A,hpX H,n⟩) ho hx h1,h2⟩
  ·rename_i f ra hx;rw[Xab] at h;rcases hr _ _ _ _ _ h with ⟨r,H',n',h1,h2⟩|⟨r,h1,h2⟩
   ·exact⟨r,H',n',OpR.callM (s:=⟨A,hpX H,n⟩) ho hx h1,h2⟩
   ·exact⟨r,H,n,OpR.extM (s:=⟨A,hpX H,n⟩) ho hx h1,h2⟩
  ·cases h
 ·rename_i d x t t' ho;unfold cpX at h;split at h
  ·rename_i hs;obtain⟨ti,et,h1,h2,h3⟩:=X0i hs;split at h
   ·rename_i hx;split at h
    ·rename_i hd;split at h
     ·rename_i hH;split at h
      ·rename_i hh;obtain⟨g1,g2,g3⟩:=hh;split at h
       ·rename_i hall;rw[X2o,X58 X3k] at h;obtain⟨H',e1,e2⟩:=X1j h;refine⟨_,_,_,?_,e2⟩;rw[e1];have:=OpR.copy (nt:=nt) hT (s:=⟨A,hpX H,n⟩) ho hd hH g2 (X76 hx) g1 h1 h2 h3 (λe he=>by simpa using List.all_eq_true.1 hall e he) g3;simp only[<-Xns] at this;exact this
       ·cases h
      ·obtain⟨a,b,g1,g2,g3,g4,h⟩:=Xsu h;exact⟨_,_,_,OpR.copy0 (nt:=nt) (s:=⟨A,hpX H,n⟩) hT ho g1 (λu hu=>by rw[hd] at hu;cases hu) g2 (λu hu=>by rw[hu] at g4;cases g4) g3 h1 h2 h3,h⟩
     ·cases h
    ·cases h
   ·cases h
  ·cases h
 ·split at h
  ·rename_i hp;rw[X4m] at h;exact⟨_,_,_,OpR.puG hT (s:=⟨A,hpX H,n⟩) (X02h hp),h⟩
  ·rename_i ho _;rcases Xfr (nt:=nt) hA hT h with h|h
   ·rcases X07d (nt:=nt) hA hT h with h|h
    ·exact h
    obtain⟨q,y,m,H1,hy,hH,h⟩:=Xsr h;rcases Xfr (nt:=nt) hA hT h with h|⟨a,H',n',h1,h2⟩
    ·cases h
    ·rw[hH] at h1;exact⟨a,H',n',OpR.trunc hy m h1,h2⟩
   ·exact h
abbrev KA:=AV->HX->Nat->Prop
abbrev OPX:=Ty->X4o->FX->HX->Nat->Oper->KA->Prop
noncomputable def shC (b:Bool) (v:AV) (k:AV->Prop):Prop:=Bool.rec (motive:=λ_=>AV->(AV->Prop)->Prop) (λ_ k=>k .junk) sh b v k
noncomputable def shS (a:AV) (k:AV->Prop):Prop :=
 AV.rec (motive_1:=λ_=>(AV->Prop)->Prop) (motive_2:=λ_=>Unit) (λk=>k .junk) (λv k=>k (.sc v)) (λk=>k .nils) (λc _ k=>k (.agg c)) (λc _ k=>k (.tup c)) (λo e _ k=>k (.list o e)) (λo f l k=>k (.ref o f l)) (λo i j k=>k (.ptr o i j)) (λo e j _ k=>k (.elem o e j)) (λf c _ k=>k (.fn f c)) (λo m k=>k (.mref o m)) (λb v _ k=>shC b v k) (λf a _ k=>k (.mv f a)) () (λ_ _ _ _=>()) a k
theorem X00s (a:AV) (k:AV->Prop):shS a k=k (X24 a):=by
 cases a with
 |cond b v=>cases b with
  |true=>exact X3k v k
  |false=>rfl
 |_=>rfl
noncomputable def evKT (t:Nat) (F:FX) (k:AV->Prop):Prop:=shS (frX F t) k
noncomputable def evKC (v:Value) (_:FX) (k:AV->Prop):Prop:=sh (X0t v) k
noncomputable def evKG (g:Nat) (_:FX) (k:AV->Prop):Prop:=k (.sc (.pointer (some ⟨g,0,none⟩)))
noncomputable def evKF (f:Nat) (_:FX) (k:AV->Prop):Prop:=k (.fn f [])
noncomputable def evK (F:FX) (x:Operand) (k:AV->Prop):Prop:=Operand.rec (motive:=λ_=>FX->(AV->Prop)->Prop) evKT evKC evKG evKF x F k
theorem X5n (F:FX) (x:Operand) (k:AV->Prop):evK F x k=k (evA (frX F) x):=by
 cases x with
 |tmp t=>exact X00s _ k
 |const v=>exact X3k _ k
 |_=>rfl
noncomputable def X06x (v:Value) (k:IntKind->Int->Prop) (no:Prop):Prop :=
 Value.rec (motive_1:=λ_=>(IntKind->Int->Prop)->Prop->Prop) (motive_2:=λ_=>Unit) (motive_3:=λ_=>Unit) (λ_ _ no=>no) (λx z k no=>k x z) (λ_ _ _ no=>no) (λ_ _ _ _ no=>no) (λ_ _ no=>no) (λ_ _ no=>no) (λ_ _ _ _ no=>no) (λ_ _ no=>no) (λ_ _ no=>no) (λ_ _ _ _ _ _ no=>no) (λ_ no=>no) (λ_ _ _ _ no=>no) (λ_ no=>no) (λ_ _ _ no=>no) (λ_ _ _ no=>no) (λ_ _=>()) () (λ_ _ _ _=>()) v k no
noncomputable def Xis (a:AV) (k:IntKind->Int->Prop) (no:Prop):Prop :=
 AV.rec (motive_1:=λ_=>(IntKind->Int->Prop)->Prop->Prop) (motive_2:=λ_=>Unit) (λ_ no=>no) (λv k no=>X06x v k no) (λ_ no=>no) (λ_ _ _ no=>no) (λ_ _ _ no=>no) (λ_ _ _ _ no=>no) (λ_ _ _ _ no=>no) (λ_ _ _ _ no=>no) (λ_ _ _ _ _ no=>no) (λ_ _ _ _ no=>no) (λ_ _ _ no=>no) (λ_ _ _ _ no=>no) (λ_ _ _ _ no=>no) () (λ_ _ _ _=>()) a k no
theorem Xd5 {a:AV} {k:IntKind->Int->Prop} {no:Prop} (h:Xis a k no):no\/∃ x z,a=.sc (.int x z)/\k x z:=by
 cases a with
 |sc v=>cases v with
  |int x z=>exact .inr ⟨x,z,rfl,h⟩
  |_=>exact .inl h
 |_=>exact .inl h
noncomputable def Xoc (v:Value) (k:Bool->Prop) (no:Prop):Prop :=
 Value.rec (motive_1:=λ_=>(Bool->Prop)->Prop->Prop) (motive_2:=λ_=>Unit) (motive_3:=λ_=>Unit) (λb k no=>k b) (λ_ _ _ no=>no) (λ_ _ _ no=>no) (λ_ _ _ _ no=>no) (λ_ _ no=>no) (λ_ _ no=>no) (λ_ _ _ _ no=>no) (λ_ _ no=>no) (λ_ _ no=>no) (λ_ _ _ _ _ _ no=>no) (λ_ no=>no) (λ_ _ _ _ no=>no) (λ_ no=>no) (λ_ _ _ no=>no) (λ_ _ _ no=>no) (λ_ _=>()) () (λ_ _ _ _=>()) v k no
noncomputable def Xko (a:AV) (k:Bool->Prop) (no:Prop):Prop :=
 AV.rec (motive_1:=λ_=>(Bool->Prop)->Prop->Prop) (motive_2:=λ_=>Unit) (λ_ no=>no) (λv k no=>Xoc v k no) (λ_ no=>no) (λ_ _ _ no=>no) (λ_ _ _ no=>no) (λ_ _ _ _ no=>no) (λ_ _ _ _ no=>no) (λ_ _ _ _ no=>no) (λ_ _ _ _ _ no=>no) (λ_ _ _ _ no=>no) (λ_ _ _ no=>no) (λ_ _ _ _ no=>no) (λ_ _ _ _ no=>no) () (λ_ _ _ _=>()) a k no
theorem Xg4 {a:AV} {k:Bool->Prop} {no:Prop} (h:Xko a k no):no\/∃ b,a=.sc (.bool b)/\k b:=by
 cases a with
 |sc v=>cases v with
  |bool b=>exact .inr ⟨b,rfl,h⟩
  |_=>exact .inl h
 |_=>exact .inl h
noncomputable def Xb4 (a:AV) (k:Nat->Nat->Nat->Prop) (el:Bool->AV->Nat->Prop) (no:Prop):Prop :=
 AV.rec (motive_1:=λ_=>(Nat->Nat->Nat->Prop)->(Bool->AV->Nat->Prop)->Prop->Prop) (motive_2:=λ_=>Unit) (λ_ _ no=>no) (λ_ _ _ no=>no) (λ_ _ no=>no) (λ_ _ _ _ no=>no) (λ_ _ _ _ no=>no) (λ_ _ _ _ _ no=>no) (λ_ _ _ _ _ no=>no) (λo i j k el no=>k o i j) (λo e j _ k el no=>el o e j) (λ_ _ _ _ _ no=>no) (λ_ _ _ _ no=>no) (λ_ _ _ _ _ no=>no) (λ_ _ _ _ _ no=>no) () (λ_ _ _ _=>()) a k el no
theorem X83 {a:AV} {k:Nat->Nat->Nat->Prop} {el:Bool->AV->Nat->Prop} {no:Prop} (h:Xb4 a k el no):no\/(∃ o i j,a=.ptr o i j/\k o i j)\/(∃ o e j,a=.elem o e j/\el o e j):=by
 cases a with
 |ptr o i j=>exact .inr (.inl ⟨o,i,j,rfl,h⟩)
 |elem o e j=>exact .inr (.inr ⟨o,e,j,rfl,h⟩)
 |_=>exact .inl h
noncomputable def Xuw {α:Type} (l:List α):Nat->(α->Prop)->Prop->Prop :=
 List.rec (motive:=λ_=>Nat->(α->Prop)->Prop->Prop) (λ_ _ no=>no) (λa _ ih i k no=>Nat.rec (motive:=λ_=>α->(Nat->(α->Prop)->Prop->Prop)->(α->Prop)->Prop->Prop) (λa _ k _=>k a) (λi _ _ ih k no=>ih i k no) i a ih k no) l
theorem Xa3 {α:Type} (l:List α):∀ (i:Nat) (k:α->Prop) (no:Prop),Xuw l i k no->no\/∃ a,l[i]?=some a/\k a:=by
 induction l with
 |nil=>intro i k no h;exact .inl h
 |cons a l ih =>
  intro i k no h
  cases i with
  |zero=>exact .inr ⟨a,rfl,h⟩
  |succ i =>
   rcases ih i k no h with h|⟨b,h1,h2⟩
   ·exact .inl h
   ·exact .inr ⟨b,by rw[List.getElem?_cons_succ];exact h1,h2⟩
noncomputable def Xh9 (e:AV) (k:List AV->Prop):Prop :=
 AV.rec (motive_1:=λ_=>(List AV->Prop)->Prop) (motive_2:=λ_=>Unit) (λk=>k [.junk]) (λv k=>k [.sc v]) (λk=>k [.nils]) (λc _ k=>k c) (λc _ k=>k [.tup c]) (λo e _ k=>k [.list o e]) (λo f l k=>k [.ref o f l]) (λo i j k=>k [.ptr o i j]) (λo e j _ k=>k [.elem o e j]) (λf c _ k=>k [.fn f c]) (λo m k=>k [.mref o m]) (λb v _ k=>k [.cond b v]) (λf a _ k=>k [.mv f a]) () (λ_ _ _ _=>()) e k
theorem Xh8 (e:AV) (k:List AV->Prop):Xh9 e k=k e.cells:=by cases e<;>rfl
noncomputable def rawT (t:Nat) (F:FX):AV:=frX F t
noncomputable def rawC (v:Value) (_:FX):AV:=X0t v
noncomputable def rawG (g:Nat) (_:FX):AV:=.sc (.pointer (some ⟨g,0,none⟩))
noncomputable def rawF (f:Nat) (_:FX):AV:=.fn f []
noncomputable def Xml (F:FX) (x:Operand):AV:=Operand.rec (motive:=λ_=>FX->AV) rawT rawC rawG rawF x F
theorem Xcx {F:FX} {x:Operand} {v:AV} (h:Xml F x=v) (hv:∀ b w,v≠.cond b w):evA (frX F) x=v:=by
 cases x with
 |tmp t =>
  show X24 (frX F t)=_;rw[show frX F t=v from h];cases v<;>first|rfl|exact absurd rfl (hv _ _)
 |_=>exact h
theorem Xkf {F:FX} {x:Operand} {v:Value} (h:Xml F x=.sc v):evA (frX F) x=.sc v:=by
 cases x with
 |tmp t=>show X24 (frX F t)=_;rw[show frX F t=.sc v from h];rfl
 |_=>exact h
noncomputable def kHn (k:KA) (H:HX) (n:Nat) (a:AV):Prop:=k a H n
noncomputable def X06t (x:Operand):OPX:=λ_ _ F H n _ k=>evK F x λa=>k a H n
noncomputable def Xoa (c a b:Operand):OPX:=λT rec F H n o k=>evK F c λv=>Xko v (λt=>Bool.rec (motive:=λ_=>Prop) (evK F b λa=>k a H n) (evK F a λa=>k a H n) t) (opG T rec F H n o k)
noncomputable def kMk1 (_:Nat):OPX:=λT rec F H n o k=>mkX T F n o.op H (opG T rec F H n o k) k
noncomputable def Xuz (a:AV) (k:List AV->Prop) (lf:Prop):Prop :=
 AV.rec (motive_1:=λ_=>(List AV->Prop)->Prop->Prop) (motive_2:=λ_=>Unit) (λ_ lf=>lf) (λ_ _ lf=>lf) (λ_ lf=>lf) (λc _ k _=>k c) (λ_ _ _ lf=>lf) (λ_ _ _ _ lf=>lf) (λ_ _ _ _ lf=>lf) (λ_ _ _ _ lf=>lf) (λ_ _ _ _ _ lf=>lf) (λ_ _ _ _ lf=>lf) (λ_ _ _ lf=>lf) (λ_ _ _ _ lf=>lf) (λ_ _ _ _ lf=>lf) () (λ_ _ _ _=>()) a k lf
theorem Xa7 {a:AV} {k:List AV->Prop} {lf:Prop} (h:Xuz a k lf):(∃ c,a=.agg c/\k c)\/((∀ c,a≠.agg c)/\lf):=by
 cases a with
 |agg c=>exact .inl ⟨c,rfl,h⟩
 |_=>exact .inr ⟨(λ_ h=>by cases h),h⟩
noncomputable def shTo (k:AV->Prop) (a:AV):Prop:=sh a k
noncomputable def ld3 (j:Nat) (k:AV->Prop) (no:Prop) (c:List AV):Prop:=Xuw c j (shTo k) no
noncomputable def fATo (k:AV->Prop) (a:AV):Prop:=fA a k
noncomputable def ld4 (ti:TI) (e:AV) (j:Nat) (k:AV->Prop) (no:Prop) (c:List AV):Prop :=
 Bool.rec (motive:=λ_=>Prop) (Option.rec (motive:=λ_=>Prop) no (fATo k) (X67 ti e j)) (k e) (Nat.beq j 0&&Nat.beq c.length ti.size)
noncomputable def ld2 (ti:TI) (j:Nat) (k:AV->Prop) (no:Prop) (e:AV):Prop :=
 Bool.rec (motive:=λ_=>Prop) (Xh9 e (ld3 j k no)) (Xuz e (ld4 ti e j k no) no) ti.kind.isAgg
noncomputable def ldY (ti:TI) (i j:Nat) (k:AV->Prop) (no:Prop) (y:Obj):Prop:=Xuw y.es i (ld2 ti j k no) no
noncomputable def ldP (H:HX) (ti:TI) (k:AV->Prop) (no:Prop) (o i j:Nat):Prop:=Option.rec (motive:=λ_=>Prop) no (ldY ti i j k no) (hpX H o)
noncomputable def ldE (ti:TI) (k:AV->Prop) (no:Prop) (_:Bool) (e:AV) (j:Nat):Prop:=ld2 ti j k no e
noncomputable def kLd1 (x:Operand) (T:Ty) (rec:X4o) (F:FX) (H:HX) (n:Nat) (o:Oper) (k:KA) (ti:TI):Prop :=
 Xb4 (Xml F x) (ldP H ti (kHn k H n) (opG T rec F H n o k)) (ldE ti (kHn k H n) (opG T rec F H n o k)) (opG T rec F H n o k)
noncomputable def X0ww (t:Nat) (x:Operand):OPX:=λT rec F H n o k=>Option.rec (motive:=λ_=>Prop) (opG T rec F H n o k) (kLd1 x T rec F H n o k) (T t)
noncomputable def lfV:Value->Bool :=
 Value.rec (motive_1:=λ_=>Bool) (motive_2:=λ_=>Unit) (motive_3:=λ_=>Unit) (λ_=>true) (λ_ _=>true) (λ_ _=>true) (λ_ _ _=>true) (λ_=>true) (λ_=>true) (λ_ _ _=>true) (λ_=>true) (λ_=>true) (λ_ _ _ _ _=>true) (true) (λ_ _ _=>true) (true) (λ_ _=>false) (λ_ _=>false) (λ_ _=>()) () (λ_ _ _ _=>())
noncomputable def lfA:AV->Bool :=
 AV.rec (motive_1:=λ_=>Bool) (motive_2:=λ_=>Unit) (false) (λv=>lfV v) (true) (λ_ _=>false) (λ_ _=>false) (λ_ _ _=>true) (λ_ _ _=>true) (λ_ _ _=>true) (λ_ _ _ _=>true) (λ_ _ _=>true) (λ_ _=>false) (λ_ _ _=>false) (λ_ _ _=>true) () (λ_ _ _ _=>())
theorem X06o (v:Value):lfV v=v.oneCell':=by cases v<;>rfl
theorem X06p {a:AV} (h:lfA a=true):a.whole=true/\a.cells=[a]/\∀ xs,a≠.agg xs:=by
 cases a<;>first|(cases h;done)|(refine⟨?_,rfl,λ_ h=>by cases h⟩;first|rfl|(show Value.oneCell' _=true;rw[<-X06o];exact h))
noncomputable def putL (l:List AV):Nat->AV->(List AV->Prop)->Prop->Prop :=
 List.rec (motive:=λ_=>Nat->AV->(List AV->Prop)->Prop->Prop) (λ_ _ _ no=>no) (λb l ih i a k no=>Nat.rec (motive:=λ_=>AV->List AV->AV->(Nat->AV->(List AV->Prop)->Prop->Prop)->(List AV->Prop)->Prop->Prop) (λ_ l a _ k _=>k (a::l)) (λi _ b _ a ih k no=>ih i a (λl=>k (b::l)) no) i b l a ih k no) l
theorem Xnk (l:List AV):∀ (i:Nat) (a:AV) (k:List AV->Prop) (no:Prop),putL l i a k no->no\/(i<l.length/\k (l.set i a)):=by
 induction l with
 |nil=>intro i a k no h;exact .inl h
 |cons b l ih =>
  intro i a k no h
  cases i with
  |zero=>exact .inr ⟨by simp,h⟩
  |succ i =>
   rcases ih i a (λl=>k (b::l)) no h with h|⟨h1,h2⟩
   ·exact .inl h
   ·exact .inr ⟨by simpa using h1,h2⟩
theorem Xdt (l:List AV) (j:Nat) (v:AV) (h:j<l.length):splice l j [v]=l.set j v:=by
 apply List.ext_getElem?;intro i;rw[getElem?_splice (by simp;omega),List.getElem?_set];by_cases hi:j=i
 ·subst hi;rw[if_pos ⟨Nat.le_refl _,by simp⟩,if_pos rfl,if_pos h];simp
 ·rw[if_neg (by simp;omega),if_neg hi]
noncomputable def stE (ti:TI) (e:AV) (j:Nat) (v:AV) (k:AV->Prop) (no:Prop):Prop :=
 Xuz v (λxs=>Xuz e (λcs=>Bool.rec (motive:=λ_=>Prop) no (k v) (Nat.beq j 0&&(Nat.beq xs.length ti.size&&(Nat.beq cs.length ti.size&&!Nat.beq ti.size 0)))) no)
  (Bool.rec (motive:=λ_=>Prop) no (Xuz e (λcs=>putL cs j v (λcs=>k (.agg cs)) no) (Bool.rec (motive:=λ_=>Prop) no (k v) (Nat.beq j 0))) (lfA v&&Nat.beq ti.size 1))
theorem Xh7 (a:AV) (h:∀ c,a≠.agg c):a.cells=[a]:=by cases a<;>first|rfl|exact absurd rfl (h _)
theorem X00o {ti:TI} {e:AV} {j:Nat} {v:AV} {k:AV->Prop} {no:Prop} (h:stE ti e j v k no):no\/(v.whole=true/\v.cells.length=ti.size/\j+ti.size<=e.cells.length/\ti.size≠0/\k (X2k e j v)):=by
 unfold stE at h;have h':=Xa7 h;clear h;rcases h' with ⟨xs,rfl,h⟩|⟨hv,h⟩
 ·have h':=Xa7 h;clear h;rcases h' with ⟨cs,rfl,h⟩|⟨_,h⟩
  ·have h0:Bool.rec (motive:=λ_=>Prop) no (k (.agg xs)) (Nat.beq j 0&&(Nat.beq xs.length ti.size&&(Nat.beq cs.length ti.size&&!Nat.beq ti.size 0))):=h;clear h;have h:=h0;clear h0
   cases hc:(Nat.beq j 0&&(Nat.beq xs.length ti.size&&(Nat.beq cs.length ti.size&&!Nat.beq ti.size 0))) with
   |false=>rw[hc] at h;exact .inl h
   |true =>
    rw[hc] at h;simp only[Bool.and_eq_true,Nat.beq_eq,Bool.not_eq_true'] at hc;obtain⟨rfl,h1,h2,h3⟩:=hc;refine .inr ⟨rfl,h1,by show 0+ti.size<=cs.length;omega,Nat.ne_of_beq_eq_false h3,?_⟩;have:X2k (.agg cs) 0 (.agg xs)=.agg xs:=by
     show(if (0:Nat)==0&&xs.length==cs.length then AV.agg xs else .agg (splice cs 0 xs))=_;rw[if_pos (by simp;omega)]
    rw[this];exact h
  ·exact .inl h
 ·cases hl:(lfA v&&Nat.beq ti.size 1) with
  |false=>rw[hl] at h;exact .inl h
  |true =>
   rw[hl] at h;simp only[Bool.and_eq_true,Nat.beq_eq] at hl;obtain⟨l1,l2,l3⟩:=X06p hl.1;have h:Xuz e (λcs=>putL cs j v (λcs=>k (.agg cs)) no) (Bool.rec (motive:=λ_=>Prop) no (k v) (Nat.beq j 0)):=h;have h':=Xa7 h;clear h;rcases h' with ⟨cs,rfl,g⟩|⟨he,g⟩
   ·rcases Xnk _ _ _ _ _ g with g|⟨h1,h2⟩
    ·exact .inl g
    ·refine .inr ⟨l1,by rw[l2,hl.2];rfl,by show j+ti.size<=cs.length;omega,by omega,?_⟩;have:X2k (.agg cs) j v=.agg (splice cs j [v]):=by
      cases v<;>first|rfl|exact absurd rfl (hv _)
     rw[this,Xdt cs j v h1];exact h2
   ·cases hj:Nat.beq j 0 with
    |false=>rw[hj] at g;exact .inl g
    |true =>
     rw[hj] at g;have:=Nat.eq_of_beq_eq_true hj;subst this;refine .inr ⟨l1,by rw[l2,hl.2];rfl,by rw[Xh7 e he,hl.2];simp,by omega,?_⟩;have:X2k e 0 v=v:=by
      have:X2k e 0 v=v.cells.headD e:=by cases e<;>first|rfl|exact absurd rfl (he _)
      rw[this,l2];rfl
     rw[this];exact g
noncomputable def stP (H:HX) (o i:Nat) (y:Obj) (K:HX->Prop) (e':AV):Prop:=setL y.es i e' λes=>X1o H o (some { y with es:=es }) K
noncomputable def stY (ti:TI) (H:HX) (o i j:Nat) (v:AV) (K:HX->Prop) (no:Prop) (y:Obj):Prop :=
 Bool.rec (motive:=λ_=>Prop) no (Xuw y.es i (λe=>stE ti e j v (stP H o i y K) no) no) y.solo
noncomputable def stK2 (ti:TI) (H:HX) (o i j:Nat) (v:AV) (K:HX->Prop) (no:Prop):Prop :=
 Option.rec (motive:=λ_=>Prop) no (stY ti H o i j v K no) (hpX H o)
noncomputable def X06s (t:Nat) (p x:Operand):OPX:=λT rec F H n o k =>
 Option.rec (motive:=λ_=>Prop) (opG T rec F H n o k) (λti=>evK F p λp=>evK F x λv=>Xb4 p (λq i j=>stK2 ti H q i j v (λH=>k (.sc undef) H n) (opG T rec F H n o k)) (λ_ _ _=>opG T rec F H n o k) (opG T rec F H n o k)) (T t)
noncomputable def kNil (x:Operand):OPX:=λT rec F H n o k=>evK F x λa=>Xb4 a (λq i j=>k (.ptr q i j) H n) (λw e j=>k (.elem w e j) H n) (opG T rec F H n o k)
abbrev IK:=IntKind->Int->Int->(AV->Prop)->Prop->Prop
noncomputable def kI (x:IntKind) (K:AV->Prop) (z:Int):Prop:=K (.sc (.int x z))
noncomputable def kB (K:AV->Prop) (z:Bool):Prop:=K (.sc (.bool z))
noncomputable def X0xb:IK:=λx a b K _=>fZ (wrX x (Int.add a b)) (kI x K)
noncomputable def X0x3:IK:=λx a b K _=>fZ (wrX x (Int.sub a b)) (kI x K)
noncomputable def X0x5:IK:=λx a b K _=>fZ (wrX x (Int.mul a b)) (kI x K)
noncomputable def X0xa:IK:=λ_ a b K _=>fB (eqZ a b) (kB K)
noncomputable def X0x4:IK:=λ_ a b K _=>fB (Bool.not (eqZ a b)) (kB K)
noncomputable def X0x6:IK:=λ_ a b K _=>fB (ltZ a b) (kB K)
noncomputable def X0x7:IK:=λ_ a b K _=>fB (Bool.not (ltZ b a)) (kB K)
noncomputable def X0x8:IK:=λ_ a b K _=>fB (ltZ b a) (kB K)
noncomputable def X0x9:IK:=λ_ a b K _=>fB (Bool.not (ltZ a b)) (kB K)
noncomputable def X7n:IK:=λ_ _ _ _ no=>no
noncomputable def iK:BinOp->IK:=BinOp.rec (motive:=λ_=>IK) X0xb X0x3 X0x5 X7n X7n X7n X7n X7n X7n X7n X7n X0xa X0x4 X0x6 X0x7 X0x8 X0x9
theorem X0xc {op:BinOp} {x:IntKind} {a b:Int} {K:AV->Prop} {no:Prop} (h:iK op x a b K no):no\/∃ r,iX op x a b=some r/\K r:=by
 cases op with
 |add=>have h:fZ (wrX x (Int.add a b)) (kI x K):=h;rw[Xj6] at h;exact .inr ⟨_,rfl,h⟩
 |sub=>have h:fZ (wrX x (Int.sub a b)) (kI x K):=h;rw[Xj6] at h;exact .inr ⟨_,rfl,h⟩
 |mul=>have h:fZ (wrX x (Int.mul a b)) (kI x K):=h;rw[Xj6] at h;exact .inr ⟨_,rfl,h⟩
 |eql=>have h:fB (eqZ a b) (kB K):=h;rw[X5x] at h;exact .inr ⟨_,rfl,h⟩
 |neq=>have h:fB (Bool.not (eqZ a b)) (kB K):=h;rw[X5x] at h;exact .inr ⟨_,rfl,h⟩
 |lss=>have h:fB (ltZ a b) (kB K):=h;rw[X5x] at h;exact .inr ⟨_,rfl,h⟩
 |leq=>have h:fB (Bool.not (ltZ b a)) (kB K):=h;rw[X5x] at h;exact .inr ⟨_,rfl,h⟩
 |gtr=>have h:fB (ltZ b a) (kB K):=h;rw[X5x] at h;exact .inr ⟨_,rfl,h⟩
 |geq=>have h:fB (Bool.not (ltZ a b)) (kB K):=h;rw[X5x] at h;exact .inr ⟨_,rfl,h⟩
 |_=>exact .inl h
noncomputable def bin2 (op:BinOp) (T:Ty) (rec:X4o) (F:FX) (H:HX) (n:Nat) (o:Oper) (k:KA) (ka:IntKind) (za:Int) (kb:IntKind) (zb:Int):Prop :=
 Bool.rec (motive:=λ_=>Prop) (opG T rec F H n o k) (iK op ka za zb (kHn k H n) (opG T rec F H n o k)) (Nat.beq (kn ka) (kn kb))
noncomputable def bin1 (op:BinOp) (y:Operand) (T:Ty) (rec:X4o) (F:FX) (H:HX) (n:Nat) (o:Oper) (k:KA) (ka:IntKind) (za:Int):Prop :=
 Xis (Xml F y) (bin2 op T rec F H n o k ka za) (opG T rec F H n o k)
noncomputable def kBin (op:BinOp) (t:Nat) (x y:Operand) (yt:Nat):OPX:=λT rec F H n o k=>Xis (Xml F x) (bin1 op y T rec F H n o k) (opG T rec F H n o k)
noncomputable def kUn (op:UnOp) (t:Nat) (x:Operand):OPX:=λT rec F H n o k =>
 evK F x λa=>Option.rec (motive:=λ_=>Prop) (opG T rec F H n o k) (λr=>fA r λr=>k r H n) (unF op a)
noncomputable def fa3 (k:KA) (H:HX) (n q i j:Nat):Prop:=k (.ptr q i j) H n
noncomputable def fa2 (off:Nat) (k:KA) (H:HX) (n q i j:Nat):Prop:=fN (j+off) (fa3 k H n q i)
noncomputable def fe3 (k:KA) (H:HX) (n:Nat) (w:Bool) (e:AV) (j:Nat):Prop:=k (.elem w e j) H n
noncomputable def fe2 (off:Nat) (k:KA) (H:HX) (n:Nat) (w:Bool) (e:AV) (j:Nat):Prop:=fN (j+off) (fe3 k H n w e)
noncomputable def fa1 (x:Operand) (T:Ty) (rec:X4o) (F:FX) (H:HX) (n:Nat) (o:Oper) (k:KA) (off:Nat) (tf:TI):Prop :=
 Bool.rec (motive:=λ_=>Prop) (Xb4 (Xml F x) (fa2 off k H n) (fe2 off k H n) (opG T rec F H n o k)) (opG T rec F H n o k) (Nat.beq tf.size 0)
noncomputable def kFA (s:Nat) (x:Operand) (f:Nat):OPX:=λT rec F H n o k =>
 Option.rec (motive:=λ_=>Prop) (opG T rec F H n o k) (Prod.rec (motive:=λ_=>Prop) (fa1 x T rec F H n o k)) (X64 T s f)
noncomputable def kFld (s:Nat) (x:Operand) (f:Nat):OPX:=λT rec F H n o k =>
 Option.rec (motive:=λ_=>Prop) (opG T rec F H n o k) (λr=>fA r λr=>k r H n) (Xfo T (evA (frX F)) s x f)
noncomputable def Xob (a:AV) (k:List AV->Prop) (no:Prop):Prop :=
 AV.rec (motive_1:=λ_=>(List AV->Prop)->Prop->Prop) (motive_2:=λ_=>Unit) (λ_ no=>no) (λ_ _ no=>no) (λ_ no=>no) (λ_ _ _ no=>no) (λc _ k no=>k c) (λ_ _ _ _ no=>no) (λ_ _ _ _ no=>no) (λ_ _ _ _ no=>no) (λ_ _ _ _ _ no=>no) (λ_ _ _ _ no=>no) (λ_ _ _ no=>no) (λ_ _ _ _ no=>no) (λ_ _ _ _ no=>no) () (λ_ _ _ _=>()) a k no
theorem Xir {a:AV} {k:List AV->Prop} {no:Prop} (h:Xob a k no):no\/∃ c,a=.tup c/\k c:=by
 cases a with
 |tup c=>exact .inr ⟨c,rfl,h⟩
 |_=>exact .inl h
noncomputable def kExt (x:Operand) (i:Nat):OPX:=λT rec F H n o k=>evK F x λa=>Xob a (λc=>Xuw c i (λa=>sh a λa=>k a H n) (opG T rec F H n o k)) (opG T rec F H n o k)
noncomputable def kIx (t:Nat) (x ix:Operand):OPX:=λT rec F H n o k =>
 Option.rec (motive:=λ_=>Prop) (opG T rec F H n o k) (λr=>fA r λr=>k r H n) (X7a T (evA (frX F)) (hpX H) t x ix)
noncomputable def kCV (f:Operand) (args:Array Operand):OPX:=λ_ rec F H n _ k=>evK F f λf=>Xbf rec H n f (args.toList.map (evA (frX F))) k
noncomputable def X0wy (c:Call):OPX:=λT rec F H n o k =>
 Call.rec (motive:=λ_=>Prop) (λca args _=>Callee.rec (motive:=λ_=>Prop) (λf=>kCV f args T rec F H n o k) (λ_ _=>opG T rec F H n o k) (λ_=>opG T rec F H n o k) ca) c
noncomputable def opX (T:Ty) (rec:X4o) (F:FX) (H:HX) (n:Nat) (o:Oper) (k:KA):Prop :=
 Op.rec (motive:=λ_=>OPX) X06t X06t Xoa kMk1 (λ_ _=>opG) (λ_ _=>opG) (λ_ _ _=>opG) (λ_ _ _ _=>opG) X0ww X06s (λ_=>opG) (λ_=>opG) kNil kBin kUn (λ_ _ _=>opG) (λ_ _=>opG) (λ_ _=>opG) (λ_ _ _=>opG) (λ_ _=>opG) (λ_ _=>opG) (λ_ _ _=>opG) (λ_ _ _ _ _=>opG) kFA kFld kIx (λ_ _ _=>opG) (λ_ _ _ _=>opG) (λ_ _ _ _=>opG) (λ_ _ _=>opG) (λ_ _ _ _=>opG) (λ_ _=>opG) (λ_ _=>opG) (λ_=>opG) (λ_ _ _ _=>opG) kExt X0wy (λ_=>opG) (λ_=>opG) (λ_=>opG) (λ_ _=>opG) (λ_ _ _=>opG) (λ_ _=>opG) o.op T rec F H n o k
theorem X02k {P:Program} {T:Ty} {rec:X4o} {nt:Nat} {F:FX} {H:HX} {n:Nat} {o:Oper} {k:KA} {A:Nat->AV} (hA:evA A=evA (frX F)) (hT:X2i P T) (hr:X9u P rec) (h:opX T rec F H n o k) :
  ∃ a H' n',OpR P nt o ⟨A,hpX H,n⟩ (λa' H2 n2=>a'=a/\H2=hpX H'/\n2=n')/\k a H' n':=by
 have gen:=λh=>X02l (P:=P) (T:=T) (rec:=rec) (nt:=nt) (F:=F) (H:=H) (n:=n) (o:=o) (k:=k) (A:=A) hA hT hr h;have pu:∀ a,Pu T (evA (frX F)) (hpX H) o.op a->k a H n->∃ a H' n',OpR P nt o ⟨A,hpX H,n⟩ (λa' H2 n2=>a'=a/\H2=hpX H'/\n2=n')/\k a H' n':=by
  intro a hp hk;rw[<-hA] at hp;exact⟨_,_,_,OpR.pu hT (s:=⟨A,hpX H,n⟩) hp,hk⟩
 have ld2_ok:∀ (ti:TI) (e:AV) (j:Nat) (kk:AV->Prop) (no:Prop),ld2 ti j kk no e->no\/∃ a,X67 ti e j=some a/\kk a:=by
  intro ti e j kk no h;unfold ld2 at h
  cases hg:ti.kind.isAgg with
  |true =>
   rw[hg] at h;have h':=Xa7 h;clear h;rcases h' with ⟨c,rfl,h⟩|⟨_,h⟩
   ·unfold ld4 at h
    cases hc:(Nat.beq j 0&&Nat.beq c.length ti.size) with
    |true =>
     rw[hc] at h;simp only[Bool.and_eq_true,Nat.beq_eq] at hc;obtain⟨rfl,hc⟩:=hc;refine .inr ⟨_,?_,h⟩;unfold X67;rw[if_pos hg,if_pos (by show 0+ti.size<=c.length;omega)];show some (AV.agg ((c.drop 0).take ti.size))=_;rw[List.drop_zero,<-hc,List.take_length]
    |false =>
     rw[hc] at h
     cases hl:X67 ti (.agg c) j with
     |none=>rw[hl] at h;exact .inl h
     |some a =>
      rw[hl] at h;have h:fA a kk:=h;rw[X4m] at h;exact .inr ⟨a,rfl,h⟩
   ·exact .inl h
  |false =>
   rw[hg] at h;have h:Xh9 e (ld3 j kk no):=h;rw[Xh8] at h;rcases Xa3 _ _ _ _ h with h|⟨a,h1,h2⟩
   ·exact .inl h
   ·have h2:sh a kk:=h2;rw[X3k] at h2;exact .inr ⟨a,by unfold X67;rw[if_neg (by rw[hg];simp)];exact h1,h2⟩
 unfold opX at h
 cases ho:o.op with
 |move x =>
  rw[ho] at h;have h:evK F x (λa=>k a H n):=h;rw[X5n] at h;exact pu _ (by rw[ho];exact .move) h
 |assign x =>
  rw[ho] at h;have h:evK F x (λa=>k a H n):=h;rw[X5n] at h;exact pu _ (by rw[ho];exact .assign) h
 |pick c a b =>
  rw[ho] at h;have h:Xoa c a b T rec F H n o k:=h;unfold Xoa at h;rw[X5n] at h;rcases Xg4 h with h|⟨t,hc,h⟩
  ·exact gen h
  ·cases t with
   |true =>
    have h:evK F a (λa=>k a H n):=h;rw[X5n] at h;exact pu _ (by rw[ho];exact .pick hc (λ_=>rfl) (λh=>by cases h)) h
   |false =>
    have h:evK F b (λa=>k a H n):=h;rw[X5n] at h;exact pu _ (by rw[ho];exact .pick hc (λh=>by cases h) (λ_=>rfl)) h
 |alloc t =>
  rw[ho] at h;have h:mkX T F n o.op H (opG T rec F H n o k) k:=by rw[ho];rw[<-ho] at h;have h2:kMk1 t T rec F H n o k:=by { rw[ho] at h;exact h };unfold kMk1 at h2;rw[ho] at h2;exact h2
  rcases Xfr (nt:=nt) hA hT h with h|h
  ·exact gen h
  ·exact h
 |load t x =>
  rw[ho] at h;have h:Option.rec (motive:=λ_=>Prop) (opG T rec F H n o k) (kLd1 x T rec F H n o k) (T t):=h
  cases ht:T t with
  |none=>rw[ht] at h;exact gen h
  |some ti =>
   rw[ht] at h;have h:kLd1 x T rec F H n o k ti:=h;unfold kLd1 at h;rcases X83 h with h|⟨q,i,j,hx,h⟩|⟨w,e,j,hx,h⟩
   ·exact gen h
   ·unfold ldP at h
    cases hq:hpX H q with
    |none=>rw[hq] at h;exact gen h
    |some y =>
     rw[hq] at h;rcases Xa3 _ _ _ _ h with h|⟨e,he,h⟩
     ·exact gen h
     ·rcases ld2_ok _ _ _ _ _ h with h|⟨a,hl,h⟩
      ·exact gen h
      ·exact pu _ (by rw[ho];exact .load ht (by rw[Xcx hx (by simp)];exact .ptr hq he) hl) h
   ·rcases ld2_ok _ _ _ _ _ h with h|⟨a,hl,h⟩
    ·exact gen h
    ·exact pu _ (by rw[ho];exact .load ht (by rw[Xcx hx (by simp)];exact .elem) hl) h
 |store t p x =>
  rw[ho] at h;have h:Option.rec (motive:=λ_=>Prop) (opG T rec F H n o k) (λti=>evK F p λp=>evK F x λv=>Xb4 p (λq i j=>stK2 ti H q i j v (λH=>k (.sc undef) H n) (opG T rec F H n o k)) (λ_ _ _=>opG T rec F H n o k) (opG T rec F H n o k)) (T t):=h
  cases ht:T t with
  |none=>rw[ht] at h;exact gen h
  |some ti =>
   rw[ht] at h;have h:evK F p (λp=>evK F x λv=>Xb4 p (λq i j=>stK2 ti H q i j v (λH=>k (.sc undef) H n) (opG T rec F H n o k)) (λ_ _ _=>opG T rec F H n o k) (opG T rec F H n o k)):=h;rw[X5n,X5n] at h;rcases X83 h with h|⟨q,i,j,hx,h⟩|⟨w,e,j,hx,h⟩
   ·exact gen h
   ·unfold stK2 at h
    cases hq:hpX H q with
    |none=>rw[hq] at h;exact gen h
    |some y =>
     rw[hq] at h;have h:stY ti H q i j (evA (frX F) x) (λH=>k (.sc undef) H n) (opG T rec F H n o k) y:=h;unfold stY at h
     cases hs:y.solo with
     |false=>rw[hs] at h;exact gen h
     |true =>
     rw[hs] at h;rcases Xa3 _ _ _ _ h with h|⟨e,he,h⟩
     ·exact gen h
     ·rcases X00o h with h|⟨g2,g3,g4,g5,h⟩
      ·exact gen h
      ·unfold stP at h;rw[Xff] at h;obtain⟨H',h1,h2⟩:=X1j h;refine⟨_,_,_,?_,h2⟩;rw[h1];refine OpR.st hT (s:=⟨A,hpX H,n⟩) ?_;rw[ho];show StR T (evA A) (hpX H) _ _;rw[hA];have st:=StR.store (T:=T) (ev:=evA (frX F)) (H:=hpX H) (t:=t) (p:=p) (x:=x) hx hq hs he ht g2 g3 g4 g5;exact st
   ·exact gen h
 |nilCheck x =>
  rw[ho] at h;have h:evK F x (λa=>Xb4 a (λq i j=>k (.ptr q i j) H n) (λw e j=>k (.elem w e j) H n) (opG T rec F H n o k)):=h;rw[X5n] at h;rcases X83 h with h|⟨q,i,j,hx,h⟩|⟨w,e,j,hx,h⟩
  ·exact gen h
  ·rw[<-hx] at h;exact pu _ (by rw[ho];exact .nilCheckPtr hx) h
  ·rw[<-hx] at h;exact pu _ (by rw[ho];exact .nilCheckElem hx) h
 |binOp op t x y yt =>
  rw[ho] at h;have h:Xis (Xml F x) (bin1 op y T rec F H n o k) (opG T rec F H n o k):=h;rcases Xd5 h with h|⟨ka,za,hx,h⟩
  ·exact gen h
  ·unfold bin1 at h;rcases Xd5 h with h|⟨kb,zb,hy,h⟩
   ·exact gen h
   ·unfold bin2 at h
    cases hk:Nat.beq (kn ka) (kn kb) with
    |false=>rw[hk] at h;exact gen h
    |true =>
     rw[hk] at h;have:=Xg0 hk;subst this;rcases X0xc h with h|⟨r,hi,h⟩
     ·exact gen h
     ·exact pu _ (by rw[ho];exact X070 (Xkf hx) (Xkf hy) hi) h
 |unOp op t x =>
  rw[ho] at h;have h:kUn op t x T rec F H n o k:=h;unfold kUn at h;rw[X5n] at h
  cases hu:unF op (evA (frX F) x) with
  |none=>rw[hu] at h;exact gen h
  |some r =>
   rw[hu] at h;have h:fA r (λr=>k r H n):=h;rw[X4m] at h;exact pu _ (by rw[ho];exact X61 (T:=T) (ev:=evA (frX F)) (H:=hpX H) (op:=.unOp op t x) hu) h
 |fieldAddr s x f =>
  rw[ho] at h;have h:kFA s x f T rec F H n o k:=h;unfold kFA at h
  cases hf:X64 T s f with
  |none=>rw[hf] at h;exact gen h
  |some p =>
   obtain⟨off,tf⟩:=p;rw[hf] at h;have h:fa1 x T rec F H n o k off tf:=h;unfold fa1 at h
   cases hz:Nat.beq tf.size 0 with
   |true=>rw[hz] at h;exact gen h
   |false =>
    rw[hz] at h;obtain⟨ti,fs,ft,t1,t2,t3,t4⟩:=X5m hf;rcases X83 h with h|⟨q,i,j,hx,h⟩|⟨w,e,j,hx,h⟩
    ·exact gen h
    ·unfold fa2 at h;rw[X2o] at h;exact pu _ (by rw[ho];exact .fieldAddrPtr (Xcx hx (by simp)) t1 t2 t3 t4 (Nat.ne_of_beq_eq_false hz)) h
    ·unfold fe2 at h;rw[X2o] at h;exact pu _ (by rw[ho];exact .fieldAddrElem (Xcx hx (by simp)) t1 t2 t3 t4 (Nat.ne_of_beq_eq_false hz)) h
 |field s x f =>
  rw[ho] at h;have h:kFld s x f T rec F H n o k:=h;unfold kFld at h
  cases hu:Xfo T (evA (frX F)) s x f with
  |none=>rw[hu] at h;exact gen h
  |some r =>
   rw[hu] at h;have h:fA r (λr=>k r H n):=h;rw[X4m] at h;exact pu _ (by rw[ho];exact X61 (T:=T) (ev:=evA (frX F)) (H:=hpX H) (op:=.field s x f) hu) h
 |extract x i =>
  rw[ho] at h;have h:evK F x (λa=>Xob a (λc=>Xuw c i (λa=>sh a λa=>k a H n) (opG T rec F H n o k)) (opG T rec F H n o k)):=h;rw[X5n] at h;rcases Xir h with h|⟨c,hx,h⟩
  ·exact gen h
  ·rcases Xa3 _ _ _ _ h with h|⟨a,ha,h⟩
   ·exact gen h
   ·rw[X3k] at h;exact pu _ (by rw[ho];exact .extract hx ha) h
 |indexAddr t x ix =>
  rw[ho] at h;have h:kIx t x ix T rec F H n o k:=h;unfold kIx at h
  cases hu:X7a T (evA (frX F)) (hpX H) t x ix with
  |none=>rw[hu] at h;exact gen h
  |some r =>
   rw[hu] at h;have h:fA r (λr=>k r H n):=h;rw[X4m] at h;exact pu _ (by rw[ho];exact X61 (T:=T) (ev:=evA (frX F)) (H:=hpX H) (op:=.indexAddr t x ix) hu) h
 |call c =>
  rw[ho] at h;obtain⟨ca,args,ts⟩:=c
  cases ca with
  |value x =>
   have h:evK F x (λf=>Xbf rec H n f (args.toList.map (evA (frX F))) k):=h;rw[X5n] at h;unfold Xbf at h;split at h
   ·rename_i f caps hx;rw[Xab] at h;rcases hr _ _ _ _ _ h with ⟨r,H',n',h1,h2⟩|⟨r,h1,h2⟩
    ·rw[<-hA] at hx h1;exact⟨r,H',n',OpR.call (s:=⟨A,hpX H,n⟩) ho hx h1,h2⟩
    ·rw[<-hA] at hx h1;exact⟨r,H,n,OpR.ext (s:=⟨A,hpX H,n⟩) ho hx h1,h2⟩
   ·rename_i f ra hx;rw[Xab] at h;rcases hr _ _ _ _ _ h with ⟨r,H',n',h1,h2⟩|⟨r,h1,h2⟩
    ·rw[<-hA] at hx h1;exact⟨r,H',n',OpR.callM (s:=⟨A,hpX H,n⟩) ho hx h1,h2⟩
    ·rw[<-hA] at hx h1;exact⟨r,H,n,OpR.extM (s:=⟨A,hpX H,n⟩) ho hx h1,h2⟩
   ·cases h
  |_=>exact gen h
 |_=>rw[ho] at h;exact gen h
end Go.Av.X


namespace Go.Av
variable [Gls]
inductive Tr (V:Type) where
 |nil
 |node (l:Tr V) (v:Option V) (r:Tr V)
noncomputable def Tr.get {V:Type} (t:Tr V):Nat->Option V :=
 Tr.rec (motive:=λ_=>Nat->Option V) (λ_=>none)
  (λ_ v _ ihl ihr n=>Nat.rec (motive:=λ_=>Option V) v (λm _=>bif Nat.beq (Nat.mod m 2) 0 then ihl (Nat.div m 2) else ihr (Nat.div m 2)) n) t
noncomputable def Tr.left {V:Type} (t:Tr V):Tr V:=Tr.rec (motive:=λ_=>Tr V) .nil (λl _ _ _ _=>l) t
noncomputable def Tr.right {V:Type} (t:Tr V):Tr V:=Tr.rec (motive:=λ_=>Tr V) .nil (λ_ _ r _ _=>r) t
noncomputable def Tr.val {V:Type} (t:Tr V):Option V:=Tr.rec (motive:=λ_=>Option V) none (λ_ v _ _ _=>v) t
noncomputable def Tr.set {V:Type} (f:Nat):Tr V->Nat->Option V->Tr V :=
 Nat.rec (motive:=λ_=>Tr V->Nat->Option V->Tr V) (λt _ v=>.node t.left v t.right)
  (λ_ ih t n v=>Nat.rec (motive:=λ_=>Tr V) (.node t.left v t.right)
   (λm _=>bif Nat.beq (Nat.mod m 2) 0 then .node (ih t.left (Nat.div m 2) v) t.val t.right else .node t.left t.val (ih t.right (Nat.div m 2) v)) n) f
end Go.Av


namespace Go.Av
variable [Gls]
noncomputable def getT (F:Tr AV) (t:Nat):AV:=Option.rec (motive:=λ_=>AV) (.sc undef) (λa=>a) (F.get t)
noncomputable def setH (H:Tr Obj) (o:Nat) (x:Option Obj):Tr Obj:=H.set 40 o x
structure RT where
 F:Tr AV
 H:Tr Obj
 n:Nat
noncomputable def RT.st (s:RT):St:=⟨getT s.F,s.H.get,s.n⟩
theorem Xgt {nt:Nat} {bad:List Nat} {d:Option Nat} (h:X39 nt bad d=true):X45 nt d=true:=by
 cases d with
 |none=>rfl
 |some d=>simp only[X39,Bool.and_eq_true] at h;exact h.1
end Go.Av


namespace Go.Av
variable [Gls]
end Go.Av


namespace Go.Av.X
variable [Gls]
open Go.Av
noncomputable def eqV:Value->Value->Bool
 |.bool a,.bool b=>Bool.rec (motive:=λ_=>Bool) (Bool.not b) b a
 |.int j a,.int k b=>Nat.beq (kn j) (kn k)&&eqZ a b
 |.string a,.string b=>eqY a.data.toList b.data.toList
 |.nilIface,.nilIface=>true
 |_,_=>false
theorem X07f {v w:Value} (h:eqV v w=true):v=w:=by
 unfold eqV at h;split at h
 ·rename_i a b;cases a<;>cases b<;>first|rfl|cases h
 ·rw[Bool.and_eq_true] at h;rw[Xg0 h.1,(Xgm _ _).1 h.2]
 ·rename_i a b;have:=(Xgn _ _).1 h;congr 1
  exact ByteArray.ext (Array.toList_inj.1 this)
 ·rfl
 ·cases h
noncomputable def eqL (f:AV->AV->Bool) (l:List AV):List AV->Bool :=
 List.rec (motive:=λ_=>List AV->Bool) (λm=>List.rec (motive:=λ_=>Bool) true (λ_ _ _=>false) m) (λa _ ih m=>List.rec (motive:=λ_=>Bool) false (λb m _=>Bool.rec (motive:=λ_=>Bool) false (ih m) (f a b)) m) l
theorem Xde {f:AV->AV->Bool} (hf:∀ a b,f a b=true->a=b):∀ l m:List AV,eqL f l m=true->l=m:=by
 intro l
 induction l with
 |nil=>intro m h;cases m with
  |nil=>rfl
  |cons b m=>cases h
 |cons a l ih =>
  intro m h
  cases m with
  |nil=>cases h
  |cons b m =>
   have h:Bool.rec (motive:=λ_=>Bool) false (eqL f l m) (f a b)=true:=h
   cases hb:f a b with
   |false=>rw[hb] at h;cases h
   |true=>rw[hb] at h;rw[hf a b hb,ih m h]
noncomputable def eqA1 (f:AV->AV->Bool):AV->AV->Bool
 |.sc v,.sc w=>eqV v w
 |.nils,.nils=>true
 |.agg l,.agg m=>eqL f l m
 |.tup l,.tup m=>eqL f l m
 |.list o l,.list p m=>Bool.rec (motive:=λ_=>Bool) (Bool.not p) p o&&eqL f l m
 |.ref o a b,.ref p c d=>Nat.beq o p&&(Nat.beq a c&&Nat.beq b d)
 |.ptr o a b,.ptr p c d=>Nat.beq o p&&(Nat.beq a c&&Nat.beq b d)
 |_,_=>false
noncomputable def eqA (n:Nat):AV->AV->Bool:=Nat.rec (motive:=λ_=>AV->AV->Bool) (λ_ _=>false) (λ_ ih=>eqA1 ih) n
theorem Xgp:∀ (n:Nat) (a b:AV),eqA n a b=true->a=b:=by
 intro n
 induction n with
 |zero=>intro a b h;cases h
 |succ n ih =>
  intro a b h;have h:eqA1 (eqA n) a b=true:=h;unfold eqA1 at h;split at h
  ·rw[X07f h]
  ·rfl
  ·rw[Xde ih _ _ h]
  ·rw[Xde ih _ _ h]
  ·rename_i o l p m _;rw[Bool.and_eq_true] at h;rw[Xde ih _ _ h.2];have:o=p:=by
    have h1:=h.1;cases o<;>cases p<;>first|rfl|cases h1
   rw[this]
  ·simp only[Bool.and_eq_true,Nat.beq_eq] at h;rw[h.1,h.2.1,h.2.2]
  ·simp only[Bool.and_eq_true,Nat.beq_eq] at h;rw[h.1,h.2.1,h.2.2]
  ·cases h
end Go.Av.X
