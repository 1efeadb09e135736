/- slices.Sort at this program (laid by the tool of the kit). -/
import Derived.Test.YtmkegegjcihooaaGreatAvSortI
import Derived.Shelf.SortM.Plain
import Derived.Shelf.SortM.SortNone
import Derived.Test.YtmkegegjcihooaaGreatProg
set_option linter.all false

set_option maxRecDepth 100000
namespace Go.Proofs
open Go.Shelf
def Tryz.sortLay217_ren:Go.Shelf.Ren:=⟨fun|5=>217|8=>125|7=>257|19=>188|20=>189|10=>281|11=>282|12=>283|13=>284|14=>285|15=>286|16=>287|17=>288|18=>289|30=>310|31=>230|32=>231|33=>311|34=>312|35=>126|40=>322|n=>n,fun|23=>23|25=>3|3=>3|32=>194|22=>23|0=>0|44=>258|46=>260|4=>4|36=>251|35=>250|41=>255|5=>5|9=>9|53=>303|57=>307|63=>344|64=>173|n=>n,fun|n=>n⟩
theorem Tryz.sortLay217:Go.Proofs.SlLaysM.n5 Tryz.prog Tryz.sortLay217_ren:={
  mixed:=by kernel_rfl
  f5:=⟨Tryz.f217.name,by decide,Tryz.func217.trans (congrArg some (by kernel_rfl))⟩
  f7:=⟨Tryz.f257.name,by decide,Tryz.func257.trans (congrArg some (by kernel_rfl))⟩
  f8:=Tryz.func125.trans (congrArg some (by kernel_rfl))
  f10:=⟨Tryz.f281.name,by decide,Tryz.func281.trans (congrArg some (by kernel_rfl))⟩
  f11:=⟨Tryz.f282.name,by decide,Tryz.func282.trans (congrArg some (by kernel_rfl))⟩
  f12:=⟨Tryz.f283.name,by decide,Tryz.func283.trans (congrArg some (by kernel_rfl))⟩
  f13:=⟨Tryz.f284.name,by decide,Tryz.func284.trans (congrArg some (by kernel_rfl))⟩
  f14:=⟨Tryz.f285.name,by decide,Tryz.func285.trans (congrArg some (by kernel_rfl))⟩
  f15:=⟨Tryz.f286.name,by decide,Tryz.func286.trans (congrArg some (by kernel_rfl))⟩
  f16:=⟨Tryz.f287.name,by decide,Tryz.func287.trans (congrArg some (by kernel_rfl))⟩
  f17:=⟨Tryz.f288.name,by decide,Tryz.func288.trans (congrArg some (by kernel_rfl))⟩
  f18:=⟨Tryz.f289.name,by decide,Tryz.func289.trans (congrArg some (by kernel_rfl))⟩
  f19:=Tryz.func188.trans (congrArg some (by kernel_rfl))
  f20:=Tryz.func189.trans (congrArg some (by kernel_rfl))
  f30:=⟨Tryz.f310.name,by decide,Tryz.func310.trans (congrArg some (by kernel_rfl))⟩
  f31:=Tryz.func230.trans (congrArg some (by kernel_rfl))
  f32:=Tryz.func231.trans (congrArg some (by kernel_rfl))
  f33:=⟨Tryz.f311.name,by decide,Tryz.func311.trans (congrArg some (by kernel_rfl))⟩
  f34:=⟨Tryz.f312.name,by decide,Tryz.func312.trans (congrArg some (by kernel_rfl))⟩
  f35:=⟨Tryz.f126.name,by decide,Tryz.func126.trans (congrArg some (by kernel_rfl))⟩
  f40:=⟨Tryz.f322.name,by decide,Tryz.func322.trans (congrArg some (by kernel_rfl))⟩
  t0:=Tryz.underlying0
  a0:=Tryz.isAgg0
  z0:=Tryz.sizeOf0
  v0:=Tryz.zeroValue0
  t3:=Tryz.underlying3
  a3:=Tryz.isAgg3
  z3:=Tryz.sizeOf3
  v3:=Tryz.zeroValue3
  t4:=Tryz.underlying4
  a4:=Tryz.isAgg4
  z4:=Tryz.sizeOf4
  v4:=Tryz.zeroValue4
  t5:=Tryz.underlying5
  a5:=Tryz.isAgg5
  z5:=Tryz.sizeOf5
  v5:=Tryz.zeroValue5
  t9:=Tryz.underlying9
  a9:=Tryz.isAgg9
  z9:=Tryz.sizeOf9
  v9:=Tryz.zeroValue9
  t22:=Tryz.underlying23
  a22:=Tryz.isAgg23
  z22:=Tryz.sizeOf23
  v22:=Tryz.zeroValue23
  t23:=Tryz.underlying23
  a23:=Tryz.isAgg23
  z23:=Tryz.sizeOf23
  v23:=Tryz.zeroValue23
  t25:=Tryz.underlying3
  a25:=Tryz.isAgg3
  z25:=Tryz.sizeOf3
  v25:=Tryz.zeroValue3
  t32:=Tryz.underlying194
  a32:=Tryz.isAgg194
  z32:=Tryz.sizeOf194
  v32:=Tryz.zeroValue194
  t35:=Tryz.underlying250
  a35:=Tryz.isAgg250
  z35:=Tryz.sizeOf250
  v35:=Tryz.zeroValue250
  t36:=Tryz.underlying251
  a36:=Tryz.isAgg251
  z36:=Tryz.sizeOf251
  v36:=Tryz.zeroValue251
  t41:=Tryz.underlying255
  a41:=Tryz.isAgg255
  z41:=Tryz.sizeOf255
  v41:=Tryz.zeroValue255
  t44:=Tryz.underlying258
  a44:=Tryz.isAgg258
  z44:=Tryz.sizeOf258
  v44:=Tryz.zeroValue258
  t46:=Tryz.underlying260
  a46:=Tryz.isAgg260
  z46:=Tryz.sizeOf260
  v46:=Tryz.zeroValue260
  t53:=Tryz.underlying303
  a53:=Tryz.isAgg303
  z53:=Tryz.sizeOf303
  v53:=Tryz.zeroValue303
  t57:=Tryz.underlying307
  a57:=Tryz.isAgg307
  z57:=Tryz.sizeOf307
  v57:=Tryz.zeroValue307
  t63:=Tryz.underlying344
  a63:=Tryz.isAgg344
  z63:=Tryz.sizeOf344
  v63:=Tryz.zeroValue344
  t64:=Tryz.underlying173
  a64:=Tryz.isAgg173
  z64:=Tryz.sizeOf173
  v64:=Tryz.zeroValue173 }
end Go.Proofs
namespace Go.Av.Tryz
open Go.Proofs Go.Sort
theorem sortLaid [Gls]:Xb4 Tryz.prog 217:=⟨λb o c zs w h1 h2 h3=>AnyM.slices_Sort_int Tryz.sortLay217 b o c zs w h1 h2 h3,λp c w=>AnyM.slices_Sort_int_none Tryz.sortLay217 p c w⟩
end Go.Av.Tryz
