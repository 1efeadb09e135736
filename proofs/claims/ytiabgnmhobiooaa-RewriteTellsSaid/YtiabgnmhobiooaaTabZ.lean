/- Printed by gentab.py: the types and the functions of the seat. -/
import Derived.Test.YtiabgnmhobiooaaAvc
import Derived.Test.YtiabgnmhobiooaaProg
import Derived.KernelRfl
set_option linter.all false

namespace Go.Av.Try
open Go.Proofs
set_option maxRecDepth 100000
noncomputable def k1:TI:=⟨X02 (TypeDesc.func #[] #[] false),Try.t1.size,Try.t1.bytes,Value.nilFunc,false⟩
theorem k1_ok:X2r Try.prog 1 k1:=X63 Try.type1 Try.underlying1 rfl (by kernel_rfl)
noncomputable def k2:TI:=⟨X02 (TypeDesc.int IntKind.i64),Try.t2.size,Try.t2.bytes,(Value.int IntKind.i64 0),false⟩
theorem k2_ok:X2r Try.prog 2 k2:=X63 Try.type2 Try.underlying2 rfl (by kernel_rfl)
noncomputable def k3:TI:=⟨X02 (TypeDesc.int IntKind.i64),Try.t3.size,Try.t3.bytes,(Value.int IntKind.i64 0),false⟩
theorem k3_ok:X2r Try.prog 3 k3:=X63 Try.type3 Try.underlying3 rfl (by kernel_rfl)
noncomputable def k4:TI:=⟨X02 TypeDesc.bool,Try.t4.size,Try.t4.bytes,(Value.bool false),false⟩
theorem k4_ok:X2r Try.prog 4 k4:=X63 Try.type4 Try.underlying4 rfl (by kernel_rfl)
noncomputable def k5:TI:=⟨X02 (TypeDesc.int IntKind.u8),Try.t5.size,Try.t5.bytes,(Value.int IntKind.u8 0),false⟩
theorem k5_ok:X2r Try.prog 5 k5:=X63 Try.type5 Try.underlying5 rfl (by kernel_rfl)
noncomputable def k6:TI:=⟨X02 (TypeDesc.int IntKind.u8),Try.t6.size,Try.t6.bytes,(Value.int IntKind.u8 0),false⟩
theorem k6_ok:X2r Try.prog 6 k6:=X63 Try.type6 Try.underlying6 rfl (by kernel_rfl)
noncomputable def k7 : TI := ⟨X02 (TypeDesc.struct #[⟨"x", 2, 0, false, "", "runtime", 0⟩, ⟨"y", 3, 1, false, "", "runtime", 8⟩, ⟨"signed", 4, 2, false, "", "runtime", 16⟩, ⟨"code", 6, 3, false, "", "runtime", 17⟩]), Try.t7.size, Try.t7.bytes, (Value.agg #[Value.int IntKind.i64 0, Value.int IntKind.i64 0, Value.bool false, Value.int IntKind.u8 0]), true⟩
theorem k7_ok:X2r Try.prog 7 k7:=Xhq Try.type7 Try.underlying7 rfl (by kernel_rfl) Try.stoodInHeld7 Try.eqGuardType7 (by kernel_rfl)
noncomputable def k8 : TI := ⟨X02 (TypeDesc.struct #[⟨"x", 2, 0, false, "", "runtime", 0⟩, ⟨"y", 3, 1, false, "", "runtime", 8⟩, ⟨"signed", 4, 2, false, "", "runtime", 16⟩, ⟨"code", 6, 3, false, "", "runtime", 17⟩]), Try.t8.size, Try.t8.bytes, (Value.agg #[Value.int IntKind.i64 0, Value.int IntKind.i64 0, Value.bool false, Value.int IntKind.u8 0]), true⟩
theorem k8_ok:X2r Try.prog 8 k8:=Xhq Try.type8 Try.underlying8 rfl (by kernel_rfl) Try.stoodInHeld8 Try.eqGuardType8 (by kernel_rfl)
noncomputable def k9:TI:=⟨X02 TypeDesc.string,Try.t9.size,Try.t9.bytes,(Value.string { data:=#[] }),false⟩
theorem k9_ok:X2r Try.prog 9 k9:=X63 Try.type9 Try.underlying9 rfl (by kernel_rfl)
noncomputable def k10:TI:=⟨X02 TypeDesc.string,Try.t10.size,Try.t10.bytes,(Value.string { data:=#[] }),false⟩
theorem k10_ok:X2r Try.prog 10 k10:=X63 Try.type10 Try.underlying10 rfl (by kernel_rfl)
noncomputable def k11:TI:=⟨X02 TypeDesc.string,Try.t11.size,Try.t11.bytes,(Value.string { data:=#[] }),false⟩
theorem k11_ok:X2r Try.prog 11 k11:=X63 Try.type11 Try.underlying11 rfl (by kernel_rfl)
noncomputable def k12:TI:=⟨X02 (TypeDesc.int IntKind.u64),Try.t12.size,Try.t12.bytes,(Value.int IntKind.u64 0),false⟩
theorem k12_ok:X2r Try.prog 12 k12:=X63 Try.type12 Try.underlying12 rfl (by kernel_rfl)
noncomputable def k13 : TI := ⟨X02 (TypeDesc.struct #[⟨"msg", 9, 0, false, "", "runtime", 0⟩, ⟨"addr", 12, 1, false, "", "runtime", 16⟩]), Try.t13.size, Try.t13.bytes, (Value.agg #[Value.string { data := #[] }, Value.int IntKind.u64 0]), false⟩
theorem k13_ok:X2r Try.prog 13 k13:=X63 Try.type13 Try.underlying13 rfl (by kernel_rfl)
noncomputable def k14 : TI := ⟨X02 (TypeDesc.struct #[⟨"msg", 9, 0, false, "", "runtime", 0⟩, ⟨"addr", 12, 1, false, "", "runtime", 16⟩]), Try.t14.size, Try.t14.bytes, (Value.agg #[Value.string { data := #[] }, Value.int IntKind.u64 0]), false⟩
theorem k14_ok:X2r Try.prog 14 k14:=X63 Try.type14 Try.underlying14 rfl (by kernel_rfl)
noncomputable def k15:TI:=⟨X02 (TypeDesc.pointer 153),Try.t15.size,Try.t15.bytes,(Value.pointer none),false⟩
theorem k15_ok:X2r Try.prog 15 k15:=X63 Try.type15 Try.underlying15 rfl (by kernel_rfl)
noncomputable def k16:TI:=⟨X02 (TypeDesc.pointer 156),Try.t16.size,Try.t16.bytes,(Value.pointer none),false⟩
theorem k16_ok:X2r Try.prog 16 k16:=X63 Try.type16 Try.underlying16 rfl (by kernel_rfl)
noncomputable def k17:TI:=⟨X02 (TypeDesc.pointer 166),Try.t17.size,Try.t17.bytes,(Value.pointer none),false⟩
theorem k17_ok:X2r Try.prog 17 k17:=X63 Try.type17 Try.underlying17 rfl (by kernel_rfl)
noncomputable def k18 : TI := ⟨X02 (TypeDesc.struct #[⟨"typ", 17, 0, false, "", "internal/runtime/maps", 0⟩]), Try.t18.size, Try.t18.bytes, (Value.agg #[Value.pointer none]), false⟩
theorem k18_ok:X2r Try.prog 18 k18:=X63 Try.type18 Try.underlying18 rfl (by kernel_rfl)
noncomputable def k19 : TI := ⟨X02 (TypeDesc.struct #[⟨"typ", 17, 0, false, "", "internal/runtime/maps", 0⟩]), Try.t19.size, Try.t19.bytes, (Value.agg #[Value.pointer none]), false⟩
theorem k19_ok:X2r Try.prog 19 k19:=X63 Try.type19 Try.underlying19 rfl (by kernel_rfl)
noncomputable def k20:TI:=⟨X02 (TypeDesc.interface #[]),Try.t20.size,Try.t20.bytes,Value.nilIface,false⟩
theorem k20_ok:X2r Try.prog 20 k20:=X63 Try.type20 Try.underlying20 rfl (by kernel_rfl)
noncomputable def k21:TI:=⟨X02 (TypeDesc.int IntKind.i32),Try.t21.size,Try.t21.bytes,(Value.int IntKind.i32 0),false⟩
theorem k21_ok:X2r Try.prog 21 k21:=X63 Try.type21 Try.underlying21 rfl (by kernel_rfl)
noncomputable def k22:TI:=⟨X02 (TypeDesc.slice 58),Try.t22.size,Try.t22.bytes,(Value.slice none 0 0),false⟩
theorem k22_ok:X2r Try.prog 22 k22:=X63 Try.type22 Try.underlying22 rfl (by kernel_rfl)
noncomputable def k23:TI:=⟨X02 (TypeDesc.slice 3),Try.t23.size,Try.t23.bytes,(Value.slice none 0 0),false⟩
theorem k23_ok:X2r Try.prog 23 k23:=X63 Try.type23 Try.underlying23 rfl (by kernel_rfl)
noncomputable def k24 : TI := ⟨X02 (TypeDesc.struct #[⟨"Kind", 5, 0, false, "", "", 0⟩, ⟨"Size", 2, 1, false, "", "", 8⟩, ⟨"Every", 2, 2, false, "", "", 16⟩]), Try.t24.size, Try.t24.bytes, (Value.agg #[Value.int IntKind.u8 0, Value.int IntKind.i64 0, Value.int IntKind.i64 0]), true⟩
theorem k24_ok:X2r Try.prog 24 k24:=Xhq Try.type24 Try.underlying24 rfl (by kernel_rfl) Try.stoodInHeld24 Try.eqGuardType24 (by kernel_rfl)
noncomputable def k25 : TI := ⟨X02 (TypeDesc.struct #[⟨"Kind", 5, 0, false, "", "", 0⟩, ⟨"Size", 2, 1, false, "", "", 8⟩, ⟨"Every", 2, 2, false, "", "", 16⟩]), Try.t25.size, Try.t25.bytes, (Value.agg #[Value.int IntKind.u8 0, Value.int IntKind.i64 0, Value.int IntKind.i64 0]), true⟩
theorem k25_ok:X2r Try.prog 25 k25:=Xhq Try.type25 Try.underlying25 rfl (by kernel_rfl) Try.stoodInHeld25 Try.eqGuardType25 (by kernel_rfl)
noncomputable def k26 : TI := ⟨X02 (TypeDesc.struct #[⟨"Agg", 5, 0, false, "", "", 0⟩, ⟨"Arg", 22, 1, false, "", "", 8⟩, ⟨"Sources", 23, 2, false, "", "", 32⟩, ⟨"Join", 4, 3, false, "", "", 56⟩, ⟨"Where", 22, 4, false, "", "", 64⟩, ⟨"Window", 25, 5, false, "", "", 88⟩, ⟨"ByKey", 4, 8, false, "", "", 112⟩, ⟨"Late", 5, 9, false, "", "", 113⟩]), Try.t26.size, Try.t26.bytes, (Value.agg #[Value.int IntKind.u8 0, Value.slice none 0 0, Value.slice none 0 0, Value.bool false, Value.slice none 0 0, Value.int IntKind.u8 0, Value.int IntKind.i64 0, Value.int IntKind.i64 0, Value.bool false, Value.int IntKind.u8 0]), false⟩
theorem k26_ok:X2r Try.prog 26 k26:=X63 Try.type26 Try.underlying26 rfl (by kernel_rfl)
noncomputable def k27 : TI := ⟨X02 (TypeDesc.struct #[⟨"Agg", 5, 0, false, "", "", 0⟩, ⟨"Arg", 22, 1, false, "", "", 8⟩, ⟨"Sources", 23, 2, false, "", "", 32⟩, ⟨"Join", 4, 3, false, "", "", 56⟩, ⟨"Where", 22, 4, false, "", "", 64⟩, ⟨"Window", 25, 5, false, "", "", 88⟩, ⟨"ByKey", 4, 8, false, "", "", 112⟩, ⟨"Late", 5, 9, false, "", "", 113⟩]), Try.t27.size, Try.t27.bytes, (Value.agg #[Value.int IntKind.u8 0, Value.slice none 0 0, Value.slice none 0 0, Value.bool false, Value.slice none 0 0, Value.int IntKind.u8 0, Value.int IntKind.i64 0, Value.int IntKind.i64 0, Value.bool false, Value.int IntKind.u8 0]), false⟩
theorem k27_ok:X2r Try.prog 27 k27:=X63 Try.type27 Try.underlying27 rfl (by kernel_rfl)
noncomputable def k28:TI:=⟨X02 (TypeDesc.func #[27] #[4] false),Try.t28.size,Try.t28.bytes,Value.nilFunc,false⟩
theorem k28_ok:X2r Try.prog 28 k28:=X63 Try.type28 Try.underlying28 rfl (by kernel_rfl)
noncomputable def k29:TI:=⟨X02 (TypeDesc.int IntKind.i64),Try.t29.size,Try.t29.bytes,(Value.int IntKind.i64 0),false⟩
theorem k29_ok:X2r Try.prog 29 k29:=X63 Try.type29 Try.underlying29 rfl (by kernel_rfl)
noncomputable def k31:TI:=⟨X02 (TypeDesc.func #[27,3] #[27,4,29] false),Try.t31.size,Try.t31.bytes,Value.nilFunc,false⟩
theorem k31_ok:X2r Try.prog 31 k31:=X63 Try.type31 Try.underlying31 rfl (by kernel_rfl)
noncomputable def k50:TI:=⟨X02 (TypeDesc.func #[65] #[3,29] true),Try.t50.size,Try.t50.bytes,Value.nilFunc,false⟩
theorem k50_ok:X2r Try.prog 50 k50:=X63 Try.type50 Try.underlying50 rfl (by kernel_rfl)
noncomputable def k51:TI:=⟨X02 (TypeDesc.func #[22] #[3,29] false),Try.t51.size,Try.t51.bytes,Value.nilFunc,false⟩
theorem k51_ok:X2r Try.prog 51 k51:=X63 Try.type51 Try.underlying51 rfl (by kernel_rfl)
noncomputable def k53 : TI := ⟨X02 (TypeDesc.struct #[⟨"l", 22, 0, false, "", "tailwater/checks", 0⟩, ⟨"ask", 51, 1, false, "", "tailwater/checks", 24⟩]), Try.t53.size, Try.t53.bytes, (Value.agg #[Value.slice none 0 0, Value.nilFunc]), false⟩
theorem k53_ok:X2r Try.prog 53 k53:=X63 Try.type53 Try.underlying53 rfl (by kernel_rfl)
noncomputable def k58 : TI := ⟨X02 (TypeDesc.struct #[⟨"Kind", 5, 0, false, "", "", 0⟩, ⟨"N", 2, 1, false, "", "", 8⟩, ⟨"A", 3, 2, false, "", "", 16⟩, ⟨"B", 3, 3, false, "", "", 24⟩, ⟨"At", 3, 4, false, "", "", 32⟩]), Try.t58.size, Try.t58.bytes, (Value.agg #[Value.int IntKind.u8 0, Value.int IntKind.i64 0, Value.int IntKind.i64 0, Value.int IntKind.i64 0, Value.int IntKind.i64 0]), true⟩
theorem k58_ok:X2r Try.prog 58 k58:=Xhq Try.type58 Try.underlying58 rfl (by kernel_rfl) Try.stoodInHeld58 Try.eqGuardType58 (by kernel_rfl)
noncomputable def k65:TI:=⟨X02 (TypeDesc.slice 53),Try.t65.size,Try.t65.bytes,(Value.slice none 0 0),false⟩
theorem k65_ok:X2r Try.prog 65 k65:=X63 Try.type65 Try.underlying65 rfl (by kernel_rfl)
noncomputable def k69:TI:=⟨X02 (TypeDesc.pointer 22),Try.t69.size,Try.t69.bytes,(Value.pointer none),false⟩
theorem k69_ok:X2r Try.prog 69 k69:=X63 Try.type69 Try.underlying69 rfl (by kernel_rfl)
noncomputable def k70:TI:=⟨X02 (TypeDesc.slice 69),Try.t70.size,Try.t70.bytes,(Value.slice none 0 0),false⟩
theorem k70_ok:X2r Try.prog 70 k70:=X63 Try.type70 Try.underlying70 rfl (by kernel_rfl)
noncomputable def k80 : TI := ⟨X02 (TypeDesc.struct #[⟨"Key", 2, 0, false, "", "", 0⟩, ⟨"Time", 2, 1, false, "", "", 8⟩, ⟨"Value", 2, 2, false, "", "", 16⟩]), Try.t80.size, Try.t80.bytes, (Value.agg #[Value.int IntKind.i64 0, Value.int IntKind.i64 0, Value.int IntKind.i64 0]), true⟩
theorem k80_ok:X2r Try.prog 80 k80:=Xhq Try.type80 Try.underlying80 rfl (by kernel_rfl) Try.stoodInHeld80 Try.eqGuardType80 (by kernel_rfl)
noncomputable def k90:TI:=⟨X02 (TypeDesc.slice 124),Try.t90.size,Try.t90.bytes,(Value.slice none 0 0),false⟩
theorem k90_ok:X2r Try.prog 90 k90:=X63 Try.type90 Try.underlying90 rfl (by kernel_rfl)
noncomputable def k93:TI:=⟨X02 (TypeDesc.func #[3] #[4] false),Try.t93.size,Try.t93.bytes,Value.nilFunc,false⟩
theorem k93_ok:X2r Try.prog 93 k93:=X63 Try.type93 Try.underlying93 rfl (by kernel_rfl)
noncomputable def k96:TI:=⟨X02 (TypeDesc.slice 4),Try.t96.size,Try.t96.bytes,(Value.slice none 0 0),false⟩
theorem k96_ok:X2r Try.prog 96 k96:=X63 Try.type96 Try.underlying96 rfl (by kernel_rfl)
noncomputable def k99:TI:=⟨X02 (TypeDesc.slice 104),Try.t99.size,Try.t99.bytes,(Value.slice none 0 0),false⟩
theorem k99_ok:X2r Try.prog 99 k99:=X63 Try.type99 Try.underlying99 rfl (by kernel_rfl)
noncomputable def k100:TI:=⟨X02 (TypeDesc.func #[93] #[] false),Try.t100.size,Try.t100.bytes,Value.nilFunc,false⟩
theorem k100_ok:X2r Try.prog 100 k100:=X63 Try.type100 Try.underlying100 rfl (by kernel_rfl)
noncomputable def k101:TI:=⟨X02 (TypeDesc.func #[93] #[] false),Try.t101.size,Try.t101.bytes,Value.nilFunc,false⟩
theorem k101_ok:X2r Try.prog 101 k101:=X63 Try.type101 Try.underlying101 rfl (by kernel_rfl)
noncomputable def k104 : TI := ⟨X02 (TypeDesc.struct #[⟨"value", 22, 0, false, "", "tailwater/folds", 0⟩, ⟨"there", 4, 1, false, "", "tailwater/folds", 24⟩]), Try.t104.size, Try.t104.bytes, (Value.agg #[Value.slice none 0 0, Value.bool false]), false⟩
theorem k104_ok:X2r Try.prog 104 k104:=X63 Try.type104 Try.underlying104 rfl (by kernel_rfl)
noncomputable def k110:TI:=⟨X02 (TypeDesc.func #[58] #[4] false),Try.t110.size,Try.t110.bytes,Value.nilFunc,false⟩
theorem k110_ok:X2r Try.prog 110 k110:=X63 Try.type110 Try.underlying110 rfl (by kernel_rfl)
noncomputable def k112:TI:=⟨X02 (TypeDesc.slice 2),Try.t112.size,Try.t112.bytes,(Value.slice none 0 0),false⟩
theorem k112_ok:X2r Try.prog 112 k112:=X63 Try.type112 Try.underlying112 rfl (by kernel_rfl)
noncomputable def k124 : TI := ⟨X02 (TypeDesc.struct #[⟨"at", 3, 0, false, "", "tailwater/nodes", 0⟩, ⟨"size", 3, 1, false, "", "tailwater/nodes", 8⟩, ⟨"depth", 3, 2, false, "", "tailwater/nodes", 16⟩]), Try.t124.size, Try.t124.bytes, (Value.agg #[Value.int IntKind.i64 0, Value.int IntKind.i64 0, Value.int IntKind.i64 0]), true⟩
theorem k124_ok:X2r Try.prog 124 k124:=Xhq Try.type124 Try.underlying124 rfl (by kernel_rfl) Try.stoodInHeld124 Try.eqGuardType124 (by kernel_rfl)
noncomputable def k126:TI:=⟨X02 (TypeDesc.map 3 4),Try.t126.size,Try.t126.bytes,(Value.map none),false⟩
theorem k126_ok:X2r Try.prog 126 k126:=X63 Try.type126 Try.underlying126 rfl (by kernel_rfl)
noncomputable def k129:TI:=⟨X02 (TypeDesc.func #[2] #[22] false),Try.t129.size,Try.t129.bytes,Value.nilFunc,false⟩
theorem k129_ok:X2r Try.prog 129 k129:=X63 Try.type129 Try.underlying129 rfl (by kernel_rfl)
noncomputable def k131:TI:=⟨X02 (TypeDesc.slice 22),Try.t131.size,Try.t131.bytes,(Value.slice none 0 0),false⟩
theorem k131_ok:X2r Try.prog 131 k131:=X63 Try.type131 Try.underlying131 rfl (by kernel_rfl)
noncomputable def k132:TI:=⟨X02 (TypeDesc.func #[4,23] #[4] true),Try.t132.size,Try.t132.bytes,Value.nilFunc,false⟩
theorem k132_ok:X2r Try.prog 132 k132:=X63 Try.type132 Try.underlying132 rfl (by kernel_rfl)
noncomputable def k133:TI:=⟨X02 (TypeDesc.array 2 4),Try.t133.size,Try.t133.bytes,(Value.agg #[Value.bool false,Value.bool false]),false⟩
theorem k133_ok:X2r Try.prog 133 k133:=X63 Try.type133 Try.underlying133 rfl (by kernel_rfl)
noncomputable def k135:TI:=⟨X02 (TypeDesc.array 5 2),Try.t135.size,Try.t135.bytes,(Value.agg #[Value.int IntKind.i64 0,Value.int IntKind.i64 0,Value.int IntKind.i64 0,Value.int IntKind.i64 0,Value.int IntKind.i64 0]),false⟩
theorem k135_ok:X2r Try.prog 135 k135:=X63 Try.type135 Try.underlying135 rfl (by kernel_rfl)
noncomputable def k150:TI:=⟨X02 (TypeDesc.int IntKind.u64),Try.t150.size,Try.t150.bytes,(Value.int IntKind.u64 0),false⟩
theorem k150_ok:X2r Try.prog 150 k150:=X63 Try.type150 Try.underlying150 rfl (by kernel_rfl)
noncomputable def k153 : TI := ⟨X02 (TypeDesc.struct #[⟨"_interface", 17, 0, false, "", "runtime", 0⟩, ⟨"concrete", 17, 1, false, "", "runtime", 8⟩, ⟨"asserted", 17, 2, false, "", "runtime", 16⟩, ⟨"missingMethod", 9, 3, false, "", "runtime", 24⟩]), Try.t153.size, Try.t153.bytes, (Value.agg #[Value.pointer none, Value.pointer none, Value.pointer none, Value.string { data := #[] }]), false⟩
theorem k153_ok:X2r Try.prog 153 k153:=X63 Try.type153 Try.underlying153 rfl (by kernel_rfl)
noncomputable def k156 : TI := ⟨X02 (TypeDesc.struct #[⟨"_", 154, 0, false, "", "runtime", 0⟩]), Try.t156.size, Try.t156.bytes, (Value.agg #[]), false⟩
theorem k156_ok:X2r Try.prog 156 k156:=X63 Try.type156 Try.underlying156 rfl (by kernel_rfl)
noncomputable def k166 : TI := ⟨X02 (TypeDesc.struct #[⟨"Size_", 12, 0, false, "", "", 0⟩, ⟨"PtrBytes", 12, 1, false, "", "", 8⟩, ⟨"Hash", 158, 2, false, "", "", 16⟩, ⟨"TFlag", 159, 3, false, "", "", 20⟩, ⟨"Align_", 5, 4, false, "", "", 21⟩, ⟨"FieldAlign_", 5, 5, false, "", "", 22⟩, ⟨"Kind_", 160, 6, false, "", "", 23⟩, ⟨"Equal", 161, 7, false, "", "", 24⟩, ⟨"GCData", 162, 8, false, "", "", 32⟩, ⟨"Str", 163, 9, false, "", "", 40⟩, ⟨"PtrToThis", 164, 10, false, "", "", 44⟩]), Try.t166.size, Try.t166.bytes, (Value.agg #[Value.int IntKind.u64 0, Value.int IntKind.u64 0, Value.int IntKind.u32 0, Value.int IntKind.u8 0, Value.int IntKind.u8 0, Value.int IntKind.u8 0, Value.int IntKind.u8 0, Value.nilFunc, Value.pointer none, Value.int IntKind.i32 0, Value.int IntKind.i32 0]), false⟩
theorem k166_ok:X2r Try.prog 166 k166:=X63 Try.type166 Try.underlying166 rfl (by kernel_rfl)
noncomputable def Xrj:Tab TI:=(.node 31 k31 (.node 15 k15 (.node 8 k8 (.node 4 k4 (.node 2 k2 (.node 1 k1 .leaf .leaf) (.node 3 k3 .leaf .leaf)) (.node 6 k6 (.node 5 k5 .leaf .leaf) (.node 7 k7 .leaf .leaf))) (.node 12 k12 (.node 10 k10 (.node 9 k9 .leaf .leaf) (.node 11 k11 .leaf .leaf)) (.node 14 k14 (.node 13 k13 .leaf .leaf) .leaf))) (.node 23 k23 (.node 19 k19 (.node 17 k17 (.node 16 k16 .leaf .leaf) (.node 18 k18 .leaf .leaf)) (.node 21 k21 (.node 20 k20 .leaf .leaf) (.node 22 k22 .leaf .leaf))) (.node 27 k27 (.node 25 k25 (.node 24 k24 .leaf .leaf) (.node 26 k26 .leaf .leaf)) (.node 29 k29 (.node 28 k28 .leaf .leaf) .leaf)))) (.node 104 k104 (.node 80 k80 (.node 58 k58 (.node 51 k51 (.node 50 k50 .leaf .leaf) (.node 53 k53 .leaf .leaf)) (.node 69 k69 (.node 65 k65 .leaf .leaf) (.node 70 k70 .leaf .leaf))) (.node 99 k99 (.node 93 k93 (.node 90 k90 .leaf .leaf) (.node 96 k96 .leaf .leaf)) (.node 101 k101 (.node 100 k100 .leaf .leaf) .leaf))) (.node 132 k132 (.node 126 k126 (.node 112 k112 (.node 110 k110 .leaf .leaf) (.node 124 k124 .leaf .leaf)) (.node 131 k131 (.node 129 k129 .leaf .leaf) .leaf)) (.node 153 k153 (.node 135 k135 (.node 133 k133 .leaf .leaf) (.node 150 k150 .leaf .leaf)) (.node 166 k166 (.node 156 k156 .leaf .leaf) .leaf)))))
theorem X8:X9r Try.prog Xrj.find:=Xox ⟨k31_ok,⟨k15_ok,⟨k8_ok,⟨k4_ok,⟨k2_ok,⟨k1_ok,trivial,trivial⟩,⟨k3_ok,trivial,trivial⟩⟩,⟨k6_ok,⟨k5_ok,trivial,trivial⟩,⟨k7_ok,trivial,trivial⟩⟩⟩,⟨k12_ok,⟨k10_ok,⟨k9_ok,trivial,trivial⟩,⟨k11_ok,trivial,trivial⟩⟩,⟨k14_ok,⟨k13_ok,trivial,trivial⟩,trivial⟩⟩⟩,⟨k23_ok,⟨k19_ok,⟨k17_ok,⟨k16_ok,trivial,trivial⟩,⟨k18_ok,trivial,trivial⟩⟩,⟨k21_ok,⟨k20_ok,trivial,trivial⟩,⟨k22_ok,trivial,trivial⟩⟩⟩,⟨k27_ok,⟨k25_ok,⟨k24_ok,trivial,trivial⟩,⟨k26_ok,trivial,trivial⟩⟩,⟨k29_ok,⟨k28_ok,trivial,trivial⟩,trivial⟩⟩⟩⟩,⟨k104_ok,⟨k80_ok,⟨k58_ok,⟨k51_ok,⟨k50_ok,trivial,trivial⟩,⟨k53_ok,trivial,trivial⟩⟩,⟨k69_ok,⟨k65_ok,trivial,trivial⟩,⟨k70_ok,trivial,trivial⟩⟩⟩,⟨k99_ok,⟨k93_ok,⟨k90_ok,trivial,trivial⟩,⟨k96_ok,trivial,trivial⟩⟩,⟨k101_ok,⟨k100_ok,trivial,trivial⟩,trivial⟩⟩⟩,⟨k132_ok,⟨k126_ok,⟨k112_ok,⟨k110_ok,trivial,trivial⟩,⟨k124_ok,trivial,trivial⟩⟩,⟨k131_ok,⟨k129_ok,trivial,trivial⟩,trivial⟩⟩,⟨k153_ok,⟨k135_ok,⟨k133_ok,trivial,trivial⟩,⟨k150_ok,trivial,trivial⟩⟩,⟨k166_ok,⟨k156_ok,trivial,trivial⟩,trivial⟩⟩⟩⟩⟩
end Go.Av.Try
