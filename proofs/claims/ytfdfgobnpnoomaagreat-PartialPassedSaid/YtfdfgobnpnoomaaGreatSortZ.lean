/- The sort of the library at this program (laid by the tool of the kit), and its comparisons. -/
import Derived.Test.YtfdfgobnpnoomaaGreatAvSort
import Derived.Test.YtfdfgobnpnoomaaGreatDFunZ
import Derived.Test.YtfdfgobnpnoomaaGreatProg
set_option linter.all false

set_option maxRecDepth 100000
namespace Go.Proofs
open Go.Shelf
def Tryz.sortLay101_ren:Go.Shelf.Ren:=⟨fun|6=>101|15=>133|14=>134|28=>165|29=>166|20=>167|21=>168|22=>169|23=>170|24=>171|25=>172|26=>173|27=>174|46=>195|47=>191|48=>192|49=>196|50=>197|57=>210|n=>n,fun|22=>31|24=>55|25=>121|3=>3|39=>199|0=>0|53=>237|55=>239|4=>4|46=>231|45=>230|50=>180|5=>5|9=>9|66=>262|70=>266|76=>279|77=>66|n=>n,fun|n=>n⟩
theorem Tryz.sortLay101:Go.Proofs.SlLaysF0.n6 Tryz.prog Tryz.sortLay101_ren:={
  mixed:=by kernel_rfl
  f6:=⟨Tryz.f101.name,by decide,Tryz.func101.trans (congrArg some (by kernel_rfl))⟩
  f14:=⟨Tryz.f134.name,by decide,Tryz.func134.trans (congrArg some (by kernel_rfl))⟩
  f15:=Tryz.func133.trans (congrArg some (by kernel_rfl))
  f20:=⟨Tryz.f167.name,by decide,Tryz.func167.trans (congrArg some (by kernel_rfl))⟩
  f21:=⟨Tryz.f168.name,by decide,Tryz.func168.trans (congrArg some (by kernel_rfl))⟩
  f22:=⟨Tryz.f169.name,by decide,Tryz.func169.trans (congrArg some (by kernel_rfl))⟩
  f23:=⟨Tryz.f170.name,by decide,Tryz.func170.trans (congrArg some (by kernel_rfl))⟩
  f24:=⟨Tryz.f171.name,by decide,Tryz.func171.trans (congrArg some (by kernel_rfl))⟩
  f25:=⟨Tryz.f172.name,by decide,Tryz.func172.trans (congrArg some (by kernel_rfl))⟩
  f26:=⟨Tryz.f173.name,by decide,Tryz.func173.trans (congrArg some (by kernel_rfl))⟩
  f27:=⟨Tryz.f174.name,by decide,Tryz.func174.trans (congrArg some (by kernel_rfl))⟩
  f28:=Tryz.func165.trans (congrArg some (by kernel_rfl))
  f29:=Tryz.func166.trans (congrArg some (by kernel_rfl))
  f46:=⟨Tryz.f195.name,by decide,Tryz.func195.trans (congrArg some (by kernel_rfl))⟩
  f47:=Tryz.func191.trans (congrArg some (by kernel_rfl))
  f48:=Tryz.func192.trans (congrArg some (by kernel_rfl))
  f49:=⟨Tryz.f196.name,by decide,Tryz.func196.trans (congrArg some (by kernel_rfl))⟩
  f50:=⟨Tryz.f197.name,by decide,Tryz.func197.trans (congrArg some (by kernel_rfl))⟩
  f57:=⟨Tryz.f210.name,by decide,Tryz.func210.trans (congrArg some (by kernel_rfl))⟩
  t0:=Tryz.underlying0
  a0:=Tryz.isAgg0
  z0:=Tryz.sizeOf0
  v0:=Tryz.zeroValue0
  t3:=Tryz.underlying3
  a3:=Tryz.isAgg3
  z3:=Tryz.sizeOf3
  v3:=Tryz.zeroValue3
  t4:=Tryz.underlying4
  a4:=Tryz.isAgg4
  z4:=Tryz.sizeOf4
  v4:=Tryz.zeroValue4
  t5:=Tryz.underlying5
  a5:=Tryz.isAgg5
  z5:=Tryz.sizeOf5
  v5:=Tryz.zeroValue5
  t9:=Tryz.underlying9
  a9:=Tryz.isAgg9
  z9:=Tryz.sizeOf9
  v9:=Tryz.zeroValue9
  t22:=Tryz.underlying31
  a22:=Tryz.isAgg31
  z22:=Tryz.sizeOf31
  v22:=Tryz.zeroValue31
  t25:=Tryz.underlying121
  a25:=Tryz.isAgg121
  z25:=Tryz.sizeOf121
  v25:=Tryz.zeroValue121
  t39:=Tryz.underlying199
  a39:=Tryz.isAgg199
  z39:=Tryz.sizeOf199
  v39:=Tryz.zeroValue199
  t45:=Tryz.underlying230
  a45:=Tryz.isAgg230
  z45:=Tryz.sizeOf230
  v45:=Tryz.zeroValue230
  t46:=Tryz.underlying231
  a46:=Tryz.isAgg231
  z46:=Tryz.sizeOf231
  v46:=Tryz.zeroValue231
  t50:=Tryz.underlying180
  a50:=Tryz.isAgg180
  z50:=Tryz.sizeOf180
  v50:=Tryz.zeroValue180
  t53:=Tryz.underlying237
  a53:=Tryz.isAgg237
  z53:=Tryz.sizeOf237
  v53:=Tryz.zeroValue237
  t55:=Tryz.underlying239
  a55:=Tryz.isAgg239
  z55:=Tryz.sizeOf239
  v55:=Tryz.zeroValue239
  t66:=Tryz.underlying262
  a66:=Tryz.isAgg262
  z66:=Tryz.sizeOf262
  v66:=Tryz.zeroValue262
  t70:=Tryz.underlying266
  a70:=Tryz.isAgg266
  z70:=Tryz.sizeOf266
  v70:=Tryz.zeroValue266
  t76:=Tryz.underlying279
  a76:=Tryz.isAgg279
  z76:=Tryz.sizeOf279
  v76:=Tryz.zeroValue279
  t77:=Tryz.underlying66
  a77:=Tryz.isAgg66
  z77:=Tryz.sizeOf66
  v77:=Tryz.zeroValue66 }
def Tryz.sortLay99_ren:Go.Shelf.Ren:=⟨fun|6=>99|15=>133|14=>132|28=>165|29=>166|20=>157|21=>158|22=>159|23=>160|24=>161|25=>162|26=>163|27=>164|46=>190|47=>191|48=>192|49=>193|50=>194|57=>209|n=>n,fun|22=>30|24=>65|25=>118|3=>3|39=>199|0=>0|53=>237|55=>239|4=>4|46=>231|45=>230|50=>180|5=>5|9=>9|66=>262|70=>266|76=>279|77=>66|n=>n,fun|n=>n⟩
theorem Tryz.sortLay99:Go.Proofs.SlLaysF0.n6 Tryz.prog Tryz.sortLay99_ren:={
  mixed:=by kernel_rfl
  f6:=⟨Tryz.f99.name,by decide,Tryz.func99.trans (congrArg some (by kernel_rfl))⟩
  f14:=⟨Tryz.f132.name,by decide,Tryz.func132.trans (congrArg some (by kernel_rfl))⟩
  f15:=Tryz.func133.trans (congrArg some (by kernel_rfl))
  f20:=⟨Tryz.f157.name,by decide,Tryz.func157.trans (congrArg some (by kernel_rfl))⟩
  f21:=⟨Tryz.f158.name,by decide,Tryz.func158.trans (congrArg some (by kernel_rfl))⟩
  f22:=⟨Tryz.f159.name,by decide,Tryz.func159.trans (congrArg some (by kernel_rfl))⟩
  f23:=⟨Tryz.f160.name,by decide,Tryz.func160.trans (congrArg some (by kernel_rfl))⟩
  f24:=⟨Tryz.f161.name,by decide,Tryz.func161.trans (congrArg some (by kernel_rfl))⟩
  f25:=⟨Tryz.f162.name,by decide,Tryz.func162.trans (congrArg some (by kernel_rfl))⟩
  f26:=⟨Tryz.f163.name,by decide,Tryz.func163.trans (congrArg some (by kernel_rfl))⟩
  f27:=⟨Tryz.f164.name,by decide,Tryz.func164.trans (congrArg some (by kernel_rfl))⟩
  f28:=Tryz.func165.trans (congrArg some (by kernel_rfl))
  f29:=Tryz.func166.trans (congrArg some (by kernel_rfl))
  f46:=⟨Tryz.f190.name,by decide,Tryz.func190.trans (congrArg some (by kernel_rfl))⟩
  f47:=Tryz.func191.trans (congrArg some (by kernel_rfl))
  f48:=Tryz.func192.trans (congrArg some (by kernel_rfl))
  f49:=⟨Tryz.f193.name,by decide,Tryz.func193.trans (congrArg some (by kernel_rfl))⟩
  f50:=⟨Tryz.f194.name,by decide,Tryz.func194.trans (congrArg some (by kernel_rfl))⟩
  f57:=⟨Tryz.f209.name,by decide,Tryz.func209.trans (congrArg some (by kernel_rfl))⟩
  t0:=Tryz.underlying0
  a0:=Tryz.isAgg0
  z0:=Tryz.sizeOf0
  v0:=Tryz.zeroValue0
  t3:=Tryz.underlying3
  a3:=Tryz.isAgg3
  z3:=Tryz.sizeOf3
  v3:=Tryz.zeroValue3
  t4:=Tryz.underlying4
  a4:=Tryz.isAgg4
  z4:=Tryz.sizeOf4
  v4:=Tryz.zeroValue4
  t5:=Tryz.underlying5
  a5:=Tryz.isAgg5
  z5:=Tryz.sizeOf5
  v5:=Tryz.zeroValue5
  t9:=Tryz.underlying9
  a9:=Tryz.isAgg9
  z9:=Tryz.sizeOf9
  v9:=Tryz.zeroValue9
  t22:=Tryz.underlying30
  a22:=Tryz.isAgg30
  z22:=Tryz.sizeOf30
  v22:=Tryz.zeroValue30
  t25:=Tryz.underlying118
  a25:=Tryz.isAgg118
  z25:=Tryz.sizeOf118
  v25:=Tryz.zeroValue118
  t39:=Tryz.underlying199
  a39:=Tryz.isAgg199
  z39:=Tryz.sizeOf199
  v39:=Tryz.zeroValue199
  t45:=Tryz.underlying230
  a45:=Tryz.isAgg230
  z45:=Tryz.sizeOf230
  v45:=Tryz.zeroValue230
  t46:=Tryz.underlying231
  a46:=Tryz.isAgg231
  z46:=Tryz.sizeOf231
  v46:=Tryz.zeroValue231
  t50:=Tryz.underlying180
  a50:=Tryz.isAgg180
  z50:=Tryz.sizeOf180
  v50:=Tryz.zeroValue180
  t53:=Tryz.underlying237
  a53:=Tryz.isAgg237
  z53:=Tryz.sizeOf237
  v53:=Tryz.zeroValue237
  t55:=Tryz.underlying239
  a55:=Tryz.isAgg239
  z55:=Tryz.sizeOf239
  v55:=Tryz.zeroValue239
  t66:=Tryz.underlying262
  a66:=Tryz.isAgg262
  z66:=Tryz.sizeOf262
  v66:=Tryz.zeroValue262
  t70:=Tryz.underlying266
  a70:=Tryz.isAgg266
  z70:=Tryz.sizeOf266
  v70:=Tryz.zeroValue266
  t76:=Tryz.underlying279
  a76:=Tryz.isAgg279
  z76:=Tryz.sizeOf279
  v76:=Tryz.zeroValue279
  t77:=Tryz.underlying66
  a77:=Tryz.isAgg66
  z77:=Tryz.sizeOf66
  v77:=Tryz.zeroValue66 }
end Go.Proofs
namespace Go.D
theorem cmpX (a b:Int):X0j a b=some (cmI a b):=by
  unfold X0j cmI
  by_cases h:a<b
  · simp[h,X3f]
  · by_cases h2:a>b
    · simp[h,h2,X3f]
    · simp[h,h2,X3f]
theorem X07b (Y:List Int):∀ (xs:List Int) (k:Nat),(∃ z,X3u Y xs k=some (.x1 z)/\orI xs=z)\/(X3u Y xs k=some .x0/\orI xs=0)
  |[],k=>.inr ⟨rfl,rfl⟩
  |x::xs,k=>by
    rw[X3u,orI]
    by_cases h:x=0
    · subst h;simpa using X07b Y xs (k+1)
    · rw[if_neg h,show(x != 0)=true by simpa using h];exact .inl ⟨x,rfl,rfl⟩
theorem orX {l:List Int} (hl:l.length<=100):X81 l=some (orI l):=by
  unfold X81
  rw[show X2o l.length=some () by unfold X2o;rw[if_pos (by omega)],Option.bind_some]
  rcases X07b l l 0 with ⟨z,h,e⟩|⟨h,e⟩
  · rw[h,e];rfl
  · rw[h,e];rfl
def Xet (x:X7):List Int:=[x.Time,x.Key,x.Value]
theorem Xr5 (x y:X7):X46 x y=some (Xgw (Xet x) (Xet y)):=by
  unfold X46
  simp only[cmpX,Option.bind_some]
  rw[orX (by simp)]
  simp only[Option.bind_some]
  rw[<-Xto _ _ (by rfl)];rfl
instance:Go.Av.CmpOk X46:=Go.Av.cmpOk_lex Xet 3 (fun _=>rfl) (fun x y h=>by
  obtain⟨k1,a1,b1⟩:=x
  obtain⟨k2,a2,b2⟩:=y
  simp only[Xet,List.cons.injEq,and_true] at h
  obtain⟨rfl,rfl,rfl⟩:=h;rfl) Xr5
def Xes (x:X0t):List Int:=[x.Span.End,x.Span.Start,x.Key,x.Values.e0,x.Values.e1]
theorem Xr2 (x y:X0t):X07 x y=some (Xgw (Xes x) (Xes y)):=by
  unfold X07 X77
  simp only[cmpX,Option.bind_some]
  rw[orX (by simp)]
  simp only[Option.bind_some]
  rw[<-Xto _ _ (by rfl)];rfl
instance:Go.Av.CmpOk X07:=Go.Av.cmpOk_lex Xes 5 (fun _=>rfl) (fun x y h=>by
  obtain⟨k1,⟨a1,b1⟩,⟨c1,d1⟩⟩:=x
  obtain⟨k2,⟨a2,b2⟩,⟨c2,d2⟩⟩:=y
  simp only[Xes,List.cons.injEq,and_true] at h
  obtain⟨rfl,rfl,rfl,rfl,rfl⟩:=h;rfl) Xr2
end Go.D
