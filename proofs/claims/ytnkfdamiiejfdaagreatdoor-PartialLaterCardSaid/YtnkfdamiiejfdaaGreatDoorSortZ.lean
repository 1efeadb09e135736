/- The sort of the library at this program (laid by the tool of the kit), and its comparisons. -/
import Derived.Test.YtnkfdamiiejfdaaGreatDoorDFunZ
import Derived.Test.YtnkfdamiiejfdaaGreatDoorProg
set_option linter.all false

set_option maxRecDepth 100000
namespace Go.Proofs
open Go.Shelf
def Tryz.sortLay76_ren:Go.Shelf.Ren:=⟨fun|6=>76|15=>141|14=>140|28=>210|29=>211|20=>202|21=>203|22=>204|23=>205|24=>206|25=>207|26=>208|27=>209|46=>259|47=>260|48=>261|49=>262|50=>263|57=>312|n=>n,fun|22=>31|24=>44|25=>117|3=>3|39=>240|0=>0|53=>327|55=>329|4=>4|46=>321|45=>320|50=>184|5=>5|9=>9|66=>374|70=>378|76=>427|77=>110|n=>n,fun|n=>n⟩
theorem Tryz.sortLay76:Go.Proofs.SlLaysF0.n6 Tryz.prog Tryz.sortLay76_ren:={
  mixed:=by kernel_rfl
  f6:=⟨Tryz.f76.name,by decide,Tryz.func76.trans (congrArg some (by kernel_rfl))⟩
  f14:=⟨Tryz.f140.name,by decide,Tryz.func140.trans (congrArg some (by kernel_rfl))⟩
  f15:=Tryz.func141.trans (congrArg some (by kernel_rfl))
  f20:=⟨Tryz.f202.name,by decide,Tryz.func202.trans (congrArg some (by kernel_rfl))⟩
  f21:=⟨Tryz.f203.name,by decide,Tryz.func203.trans (congrArg some (by kernel_rfl))⟩
  f22:=⟨Tryz.f204.name,by decide,Tryz.func204.trans (congrArg some (by kernel_rfl))⟩
  f23:=⟨Tryz.f205.name,by decide,Tryz.func205.trans (congrArg some (by kernel_rfl))⟩
  f24:=⟨Tryz.f206.name,by decide,Tryz.func206.trans (congrArg some (by kernel_rfl))⟩
  f25:=⟨Tryz.f207.name,by decide,Tryz.func207.trans (congrArg some (by kernel_rfl))⟩
  f26:=⟨Tryz.f208.name,by decide,Tryz.func208.trans (congrArg some (by kernel_rfl))⟩
  f27:=⟨Tryz.f209.name,by decide,Tryz.func209.trans (congrArg some (by kernel_rfl))⟩
  f28:=Tryz.func210.trans (congrArg some (by kernel_rfl))
  f29:=Tryz.func211.trans (congrArg some (by kernel_rfl))
  f46:=⟨Tryz.f259.name,by decide,Tryz.func259.trans (congrArg some (by kernel_rfl))⟩
  f47:=Tryz.func260.trans (congrArg some (by kernel_rfl))
  f48:=Tryz.func261.trans (congrArg some (by kernel_rfl))
  f49:=⟨Tryz.f262.name,by decide,Tryz.func262.trans (congrArg some (by kernel_rfl))⟩
  f50:=⟨Tryz.f263.name,by decide,Tryz.func263.trans (congrArg some (by kernel_rfl))⟩
  f57:=⟨Tryz.f312.name,by decide,Tryz.func312.trans (congrArg some (by kernel_rfl))⟩
  t0:=Tryz.underlying0
  a0:=Tryz.isAgg0
  z0:=Tryz.sizeOf0
  v0:=Tryz.zeroValue0
  t3:=Tryz.underlying3
  a3:=Tryz.isAgg3
  z3:=Tryz.sizeOf3
  v3:=Tryz.zeroValue3
  t4:=Tryz.underlying4
  a4:=Tryz.isAgg4
  z4:=Tryz.sizeOf4
  v4:=Tryz.zeroValue4
  t5:=Tryz.underlying5
  a5:=Tryz.isAgg5
  z5:=Tryz.sizeOf5
  v5:=Tryz.zeroValue5
  t9:=Tryz.underlying9
  a9:=Tryz.isAgg9
  z9:=Tryz.sizeOf9
  v9:=Tryz.zeroValue9
  t22:=Tryz.underlying31
  a22:=Tryz.isAgg31
  z22:=Tryz.sizeOf31
  v22:=Tryz.zeroValue31
  t25:=Tryz.underlying117
  a25:=Tryz.isAgg117
  z25:=Tryz.sizeOf117
  v25:=Tryz.zeroValue117
  t39:=Tryz.underlying240
  a39:=Tryz.isAgg240
  z39:=Tryz.sizeOf240
  v39:=Tryz.zeroValue240
  t45:=Tryz.underlying320
  a45:=Tryz.isAgg320
  z45:=Tryz.sizeOf320
  v45:=Tryz.zeroValue320
  t46:=Tryz.underlying321
  a46:=Tryz.isAgg321
  z46:=Tryz.sizeOf321
  v46:=Tryz.zeroValue321
  t50:=Tryz.underlying184
  a50:=Tryz.isAgg184
  z50:=Tryz.sizeOf184
  v50:=Tryz.zeroValue184
  t53:=Tryz.underlying327
  a53:=Tryz.isAgg327
  z53:=Tryz.sizeOf327
  v53:=Tryz.zeroValue327
  t55:=Tryz.underlying329
  a55:=Tryz.isAgg329
  z55:=Tryz.sizeOf329
  v55:=Tryz.zeroValue329
  t66:=Tryz.underlying374
  a66:=Tryz.isAgg374
  z66:=Tryz.sizeOf374
  v66:=Tryz.zeroValue374
  t70:=Tryz.underlying378
  a70:=Tryz.isAgg378
  z70:=Tryz.sizeOf378
  v70:=Tryz.zeroValue378
  t76:=Tryz.underlying427
  a76:=Tryz.isAgg427
  z76:=Tryz.sizeOf427
  v76:=Tryz.zeroValue427
  t77:=Tryz.underlying110
  a77:=Tryz.isAgg110
  z77:=Tryz.sizeOf110
  v77:=Tryz.zeroValue110 }
def Tryz.sortLay78_ren:Go.Shelf.Ren:=⟨fun|6=>78|15=>141|14=>142|28=>210|29=>211|20=>212|21=>213|22=>214|23=>215|24=>216|25=>217|26=>218|27=>219|46=>264|47=>260|48=>261|49=>265|50=>266|57=>313|n=>n,fun|22=>32|24=>59|25=>121|3=>3|39=>240|0=>0|53=>327|55=>329|4=>4|46=>321|45=>320|50=>184|5=>5|9=>9|66=>374|70=>378|76=>427|77=>110|n=>n,fun|n=>n⟩
theorem Tryz.sortLay78:Go.Proofs.SlLaysF0.n6 Tryz.prog Tryz.sortLay78_ren:={
  mixed:=by kernel_rfl
  f6:=⟨Tryz.f78.name,by decide,Tryz.func78.trans (congrArg some (by kernel_rfl))⟩
  f14:=⟨Tryz.f142.name,by decide,Tryz.func142.trans (congrArg some (by kernel_rfl))⟩
  f15:=Tryz.func141.trans (congrArg some (by kernel_rfl))
  f20:=⟨Tryz.f212.name,by decide,Tryz.func212.trans (congrArg some (by kernel_rfl))⟩
  f21:=⟨Tryz.f213.name,by decide,Tryz.func213.trans (congrArg some (by kernel_rfl))⟩
  f22:=⟨Tryz.f214.name,by decide,Tryz.func214.trans (congrArg some (by kernel_rfl))⟩
  f23:=⟨Tryz.f215.name,by decide,Tryz.func215.trans (congrArg some (by kernel_rfl))⟩
  f24:=⟨Tryz.f216.name,by decide,Tryz.func216.trans (congrArg some (by kernel_rfl))⟩
  f25:=⟨Tryz.f217.name,by decide,Tryz.func217.trans (congrArg some (by kernel_rfl))⟩
  f26:=⟨Tryz.f218.name,by decide,Tryz.func218.trans (congrArg some (by kernel_rfl))⟩
  f27:=⟨Tryz.f219.name,by decide,Tryz.func219.trans (congrArg some (by kernel_rfl))⟩
  f28:=Tryz.func210.trans (congrArg some (by kernel_rfl))
  f29:=Tryz.func211.trans (congrArg some (by kernel_rfl))
  f46:=⟨Tryz.f264.name,by decide,Tryz.func264.trans (congrArg some (by kernel_rfl))⟩
  f47:=Tryz.func260.trans (congrArg some (by kernel_rfl))
  f48:=Tryz.func261.trans (congrArg some (by kernel_rfl))
  f49:=⟨Tryz.f265.name,by decide,Tryz.func265.trans (congrArg some (by kernel_rfl))⟩
  f50:=⟨Tryz.f266.name,by decide,Tryz.func266.trans (congrArg some (by kernel_rfl))⟩
  f57:=⟨Tryz.f313.name,by decide,Tryz.func313.trans (congrArg some (by kernel_rfl))⟩
  t0:=Tryz.underlying0
  a0:=Tryz.isAgg0
  z0:=Tryz.sizeOf0
  v0:=Tryz.zeroValue0
  t3:=Tryz.underlying3
  a3:=Tryz.isAgg3
  z3:=Tryz.sizeOf3
  v3:=Tryz.zeroValue3
  t4:=Tryz.underlying4
  a4:=Tryz.isAgg4
  z4:=Tryz.sizeOf4
  v4:=Tryz.zeroValue4
  t5:=Tryz.underlying5
  a5:=Tryz.isAgg5
  z5:=Tryz.sizeOf5
  v5:=Tryz.zeroValue5
  t9:=Tryz.underlying9
  a9:=Tryz.isAgg9
  z9:=Tryz.sizeOf9
  v9:=Tryz.zeroValue9
  t22:=Tryz.underlying32
  a22:=Tryz.isAgg32
  z22:=Tryz.sizeOf32
  v22:=Tryz.zeroValue32
  t25:=Tryz.underlying121
  a25:=Tryz.isAgg121
  z25:=Tryz.sizeOf121
  v25:=Tryz.zeroValue121
  t39:=Tryz.underlying240
  a39:=Tryz.isAgg240
  z39:=Tryz.sizeOf240
  v39:=Tryz.zeroValue240
  t45:=Tryz.underlying320
  a45:=Tryz.isAgg320
  z45:=Tryz.sizeOf320
  v45:=Tryz.zeroValue320
  t46:=Tryz.underlying321
  a46:=Tryz.isAgg321
  z46:=Tryz.sizeOf321
  v46:=Tryz.zeroValue321
  t50:=Tryz.underlying184
  a50:=Tryz.isAgg184
  z50:=Tryz.sizeOf184
  v50:=Tryz.zeroValue184
  t53:=Tryz.underlying327
  a53:=Tryz.isAgg327
  z53:=Tryz.sizeOf327
  v53:=Tryz.zeroValue327
  t55:=Tryz.underlying329
  a55:=Tryz.isAgg329
  z55:=Tryz.sizeOf329
  v55:=Tryz.zeroValue329
  t66:=Tryz.underlying374
  a66:=Tryz.isAgg374
  z66:=Tryz.sizeOf374
  v66:=Tryz.zeroValue374
  t70:=Tryz.underlying378
  a70:=Tryz.isAgg378
  z70:=Tryz.sizeOf378
  v70:=Tryz.zeroValue378
  t76:=Tryz.underlying427
  a76:=Tryz.isAgg427
  z76:=Tryz.sizeOf427
  v76:=Tryz.zeroValue427
  t77:=Tryz.underlying110
  a77:=Tryz.isAgg110
  z77:=Tryz.sizeOf110
  v77:=Tryz.zeroValue110 }
end Go.Proofs
namespace Go.D
theorem cmpX (a b:Int):X02 a b=some (cmI a b):=by
  unfold X02 cmI;by_cases h:a<b
  · simp[h,X2i]
  · by_cases h2:a>b
    · simp[h,h2,X2i]
    · simp[h,h2,X2i]
theorem X05s (Y:List Int):∀ (xs:List Int) (k:Nat),(∃ z,X2s Y xs k=some (.x1 z)/\orI xs=z)\/(X2s Y xs k=some .x0/\orI xs=0)
  |[],k=>.inr ⟨rfl,rfl⟩
  |x::xs,k=>by
    rw[X2s,orI];by_cases h:x=0
    · subst h;simpa using X05s Y xs (k+1)
    · rw[if_neg h,show(x != 0)=true by simpa using h];exact .inl ⟨x,rfl,rfl⟩
theorem orX {l:List Int} (hl:l.length<=100):X67 l=some (orI l):=by
  unfold X67;rw[show X3b l.length=some () by unfold X3b;rw[if_pos om],Option.bind_some];rcases X05s l l 0 with ⟨z,h,e⟩|⟨h,e⟩
  · rw[h,e];rfl
  · rw[h,e];rfl
def Xc6 (x:X6):List Int:=[x.Time,x.Key,x.Value]
theorem Xoq (x y:X6):X26 x y=some (Xde (Xc6 x) (Xc6 y)):=by
  unfold X26;simp only[cmpX,Option.bind_some];rw[orX (by simp)];simp only[Option.bind_some];rw[<-Xqs _ _ (by rfl)];rfl
instance:Go.Av.CmpOk X26:=Go.Av.cmpOk_lex Xc6 3 (λ_=>rfl) (λx y h=>by
  obtain⟨k1,a1,b1⟩:=x;obtain⟨k2,a2,b2⟩:=y;simp only[Xc6,List.cons.injEq,and_true] at h;obtain⟨rfl,rfl,rfl⟩:=h;rfl) Xoq
def X2q (x:X1z):List Int:=[x.Span.End,x.Span.Start,x.Key,x.Values.e0,x.Values.e1]
theorem Xja (x y:X1z):Xp x y=some (Xde (X2q x) (X2q y)):=by
  unfold Xp X5m;simp only[cmpX,Option.bind_some];rw[orX (by simp)];simp only[Option.bind_some];rw[<-Xqs _ _ (by rfl)];rfl
instance:Go.Av.CmpOk Xp:=Go.Av.cmpOk_lex X2q 5 (λ_=>rfl) (λx y h=>by
  obtain⟨k1,⟨a1,b1⟩,⟨c1,d1⟩⟩:=x;obtain⟨k2,⟨a2,b2⟩,⟨c2,d2⟩⟩:=y;simp only[X2q,List.cons.injEq,and_true] at h;obtain⟨rfl,rfl,rfl,rfl,rfl⟩:=h;rfl) Xja
end Go.D
