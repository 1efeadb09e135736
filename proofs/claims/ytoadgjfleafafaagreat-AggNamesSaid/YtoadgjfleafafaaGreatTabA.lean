/- Printed by gentab.py: the types and the functions of the seat. -/
import Derived.Test.YtoadgjfleafafaaGreatAvc
import Derived.Test.YtoadgjfleafafaaGreatProg
import Derived.KernelRfl
set_option linter.all false

namespace Go.Av.Tryz
open Go.Proofs
set_option maxRecDepth 100000
noncomputable def k1 : TI := ⟨X0c (TypeDesc.func #[] #[] false), Tryz.t1.size, Tryz.t1.bytes, Value.nilFunc, false⟩
theorem k1_ok : X2q Tryz.prog 1 k1 := X51 Tryz.type1 Tryz.underlying1 rfl (by kernel_rfl)
noncomputable def k2 : TI := ⟨X0c (TypeDesc.int IntKind.i64), Tryz.t2.size, Tryz.t2.bytes, (Value.int IntKind.i64 0), false⟩
theorem k2_ok : X2q Tryz.prog 2 k2 := X51 Tryz.type2 Tryz.underlying2 rfl (by kernel_rfl)
noncomputable def k3 : TI := ⟨X0c (TypeDesc.int IntKind.i64), Tryz.t3.size, Tryz.t3.bytes, (Value.int IntKind.i64 0), false⟩
theorem k3_ok : X2q Tryz.prog 3 k3 := X51 Tryz.type3 Tryz.underlying3 rfl (by kernel_rfl)
noncomputable def k4 : TI := ⟨X0c TypeDesc.bool, Tryz.t4.size, Tryz.t4.bytes, (Value.bool false), false⟩
theorem k4_ok : X2q Tryz.prog 4 k4 := X51 Tryz.type4 Tryz.underlying4 rfl (by kernel_rfl)
noncomputable def k5 : TI := ⟨X0c (TypeDesc.int IntKind.u8), Tryz.t5.size, Tryz.t5.bytes, (Value.int IntKind.u8 0), false⟩
theorem k5_ok : X2q Tryz.prog 5 k5 := X51 Tryz.type5 Tryz.underlying5 rfl (by kernel_rfl)
noncomputable def k6 : TI := ⟨X0c (TypeDesc.int IntKind.u8), Tryz.t6.size, Tryz.t6.bytes, (Value.int IntKind.u8 0), false⟩
theorem k6_ok : X2q Tryz.prog 6 k6 := X51 Tryz.type6 Tryz.underlying6 rfl (by kernel_rfl)
noncomputable def k7 : TI := ⟨X0c (TypeDesc.struct #[⟨"x", 2, 0, false, "", "runtime", 0⟩, ⟨"y", 3, 1, false, "", "runtime", 8⟩, ⟨"signed", 4, 2, false, "", "runtime", 16⟩, ⟨"code", 6, 3, false, "", "runtime", 17⟩]), Tryz.t7.size, Tryz.t7.bytes, (Value.agg #[Value.int IntKind.i64 0, Value.int IntKind.i64 0, Value.bool false, Value.int IntKind.u8 0]), true⟩
theorem k7_ok : X2q Tryz.prog 7 k7 := Xak Tryz.type7 Tryz.underlying7 rfl (by kernel_rfl) Tryz.stoodInHeld7 Tryz.eqGuardType7 (by kernel_rfl)
noncomputable def k8 : TI := ⟨X0c (TypeDesc.struct #[⟨"x", 2, 0, false, "", "runtime", 0⟩, ⟨"y", 3, 1, false, "", "runtime", 8⟩, ⟨"signed", 4, 2, false, "", "runtime", 16⟩, ⟨"code", 6, 3, false, "", "runtime", 17⟩]), Tryz.t8.size, Tryz.t8.bytes, (Value.agg #[Value.int IntKind.i64 0, Value.int IntKind.i64 0, Value.bool false, Value.int IntKind.u8 0]), true⟩
theorem k8_ok : X2q Tryz.prog 8 k8 := Xak Tryz.type8 Tryz.underlying8 rfl (by kernel_rfl) Tryz.stoodInHeld8 Tryz.eqGuardType8 (by kernel_rfl)
noncomputable def k9 : TI := ⟨X0c TypeDesc.string, Tryz.t9.size, Tryz.t9.bytes, (Value.string { data := #[] }), false⟩
theorem k9_ok : X2q Tryz.prog 9 k9 := X51 Tryz.type9 Tryz.underlying9 rfl (by kernel_rfl)
noncomputable def k10 : TI := ⟨X0c TypeDesc.string, Tryz.t10.size, Tryz.t10.bytes, (Value.string { data := #[] }), false⟩
theorem k10_ok : X2q Tryz.prog 10 k10 := X51 Tryz.type10 Tryz.underlying10 rfl (by kernel_rfl)
noncomputable def k11 : TI := ⟨X0c TypeDesc.string, Tryz.t11.size, Tryz.t11.bytes, (Value.string { data := #[] }), false⟩
theorem k11_ok : X2q Tryz.prog 11 k11 := X51 Tryz.type11 Tryz.underlying11 rfl (by kernel_rfl)
noncomputable def k12 : TI := ⟨X0c (TypeDesc.int IntKind.u64), Tryz.t12.size, Tryz.t12.bytes, (Value.int IntKind.u64 0), false⟩
theorem k12_ok : X2q Tryz.prog 12 k12 := X51 Tryz.type12 Tryz.underlying12 rfl (by kernel_rfl)
noncomputable def k13 : TI := ⟨X0c (TypeDesc.struct #[⟨"msg", 9, 0, false, "", "runtime", 0⟩, ⟨"addr", 12, 1, false, "", "runtime", 16⟩]), Tryz.t13.size, Tryz.t13.bytes, (Value.agg #[Value.string { data := #[] }, Value.int IntKind.u64 0]), false⟩
theorem k13_ok : X2q Tryz.prog 13 k13 := X51 Tryz.type13 Tryz.underlying13 rfl (by kernel_rfl)
noncomputable def k14 : TI := ⟨X0c (TypeDesc.struct #[⟨"msg", 9, 0, false, "", "runtime", 0⟩, ⟨"addr", 12, 1, false, "", "runtime", 16⟩]), Tryz.t14.size, Tryz.t14.bytes, (Value.agg #[Value.string { data := #[] }, Value.int IntKind.u64 0]), false⟩
theorem k14_ok : X2q Tryz.prog 14 k14 := X51 Tryz.type14 Tryz.underlying14 rfl (by kernel_rfl)
noncomputable def k15 : TI := ⟨X0c (TypeDesc.pointer 213), Tryz.t15.size, Tryz.t15.bytes, (Value.pointer none), false⟩
theorem k15_ok : X2q Tryz.prog 15 k15 := X51 Tryz.type15 Tryz.underlying15 rfl (by kernel_rfl)
noncomputable def k16 : TI := ⟨X0c (TypeDesc.pointer 216), Tryz.t16.size, Tryz.t16.bytes, (Value.pointer none), false⟩
theorem k16_ok : X2q Tryz.prog 16 k16 := X51 Tryz.type16 Tryz.underlying16 rfl (by kernel_rfl)
noncomputable def k17 : TI := ⟨X0c (TypeDesc.pointer 225), Tryz.t17.size, Tryz.t17.bytes, (Value.pointer none), false⟩
theorem k17_ok : X2q Tryz.prog 17 k17 := X51 Tryz.type17 Tryz.underlying17 rfl (by kernel_rfl)
noncomputable def k18 : TI := ⟨X0c (TypeDesc.struct #[⟨"typ", 17, 0, false, "", "internal/runtime/maps", 0⟩]), Tryz.t18.size, Tryz.t18.bytes, (Value.agg #[Value.pointer none]), false⟩
theorem k18_ok : X2q Tryz.prog 18 k18 := X51 Tryz.type18 Tryz.underlying18 rfl (by kernel_rfl)
noncomputable def k19 : TI := ⟨X0c (TypeDesc.struct #[⟨"typ", 17, 0, false, "", "internal/runtime/maps", 0⟩]), Tryz.t19.size, Tryz.t19.bytes, (Value.agg #[Value.pointer none]), false⟩
theorem k19_ok : X2q Tryz.prog 19 k19 := X51 Tryz.type19 Tryz.underlying19 rfl (by kernel_rfl)
noncomputable def k20 : TI := ⟨X0c (TypeDesc.interface #[]), Tryz.t20.size, Tryz.t20.bytes, Value.nilIface, false⟩
theorem k20_ok : X2q Tryz.prog 20 k20 := X51 Tryz.type20 Tryz.underlying20 rfl (by kernel_rfl)
noncomputable def k21 : TI := ⟨X0c (TypeDesc.int IntKind.i32), Tryz.t21.size, Tryz.t21.bytes, (Value.int IntKind.i32 0), false⟩
theorem k21_ok : X2q Tryz.prog 21 k21 := X51 Tryz.type21 Tryz.underlying21 rfl (by kernel_rfl)
noncomputable def k22 : TI := ⟨X0c (TypeDesc.struct #[⟨"Kind", 5, 0, false, "", "", 0⟩, ⟨"N", 3, 1, false, "", "", 8⟩]), Tryz.t22.size, Tryz.t22.bytes, (Value.agg #[Value.int IntKind.u8 0, Value.int IntKind.i64 0]), true⟩
theorem k22_ok : X2q Tryz.prog 22 k22 := Xak Tryz.type22 Tryz.underlying22 rfl (by kernel_rfl) Tryz.stoodInHeld22 Tryz.eqGuardType22 (by kernel_rfl)
noncomputable def k23 : TI := ⟨X0c (TypeDesc.struct #[⟨"Kind", 5, 0, false, "", "", 0⟩, ⟨"N", 3, 1, false, "", "", 8⟩]), Tryz.t23.size, Tryz.t23.bytes, (Value.agg #[Value.int IntKind.u8 0, Value.int IntKind.i64 0]), true⟩
theorem k23_ok : X2q Tryz.prog 23 k23 := Xak Tryz.type23 Tryz.underlying23 rfl (by kernel_rfl) Tryz.stoodInHeld23 Tryz.eqGuardType23 (by kernel_rfl)
noncomputable def k24 : TI := ⟨X0c (TypeDesc.slice 55), Tryz.t24.size, Tryz.t24.bytes, (Value.slice none 0 0), false⟩
theorem k24_ok : X2q Tryz.prog 24 k24 := X51 Tryz.type24 Tryz.underlying24 rfl (by kernel_rfl)
noncomputable def k25 : TI := ⟨X0c (TypeDesc.slice 2), Tryz.t25.size, Tryz.t25.bytes, (Value.slice none 0 0), false⟩
theorem k25_ok : X2q Tryz.prog 25 k25 := X51 Tryz.type25 Tryz.underlying25 rfl (by kernel_rfl)
noncomputable def k26 : TI := ⟨X0c (TypeDesc.slice 62), Tryz.t26.size, Tryz.t26.bytes, (Value.slice none 0 0), false⟩
theorem k26_ok : X2q Tryz.prog 26 k26 := X51 Tryz.type26 Tryz.underlying26 rfl (by kernel_rfl)
noncomputable def k27 : TI := ⟨X0c (TypeDesc.slice 99), Tryz.t27.size, Tryz.t27.bytes, (Value.slice none 0 0), false⟩
theorem k27_ok : X2q Tryz.prog 27 k27 := X51 Tryz.type27 Tryz.underlying27 rfl (by kernel_rfl)
noncomputable def k28 : TI := ⟨X0c (TypeDesc.slice 49), Tryz.t28.size, Tryz.t28.bytes, (Value.slice none 0 0), false⟩
theorem k28_ok : X2q Tryz.prog 28 k28 := X51 Tryz.type28 Tryz.underlying28 rfl (by kernel_rfl)
noncomputable def k29 : TI := ⟨X0c (TypeDesc.slice 44), Tryz.t29.size, Tryz.t29.bytes, (Value.slice none 0 0), false⟩
theorem k29_ok : X2q Tryz.prog 29 k29 := X51 Tryz.type29 Tryz.underlying29 rfl (by kernel_rfl)
noncomputable def k30 : TI := ⟨X0c (TypeDesc.struct #[⟨"Op", 23, 0, false, "", "", 0⟩, ⟨"Turn", 3, 2, false, "", "", 16⟩, ⟨"Pending", 24, 3, false, "", "", 24⟩, ⟨"Marks", 25, 4, false, "", "", 48⟩, ⟨"Store", 26, 5, false, "", "", 72⟩, ⟨"Events", 27, 6, false, "", "", 96⟩, ⟨"Rows", 28, 7, false, "", "", 120⟩, ⟨"Late", 29, 8, false, "", "", 144⟩]), Tryz.t30.size, Tryz.t30.bytes, (Value.agg #[Value.int IntKind.u8 0, Value.int IntKind.i64 0, Value.int IntKind.i64 0, Value.slice none 0 0, Value.slice none 0 0, Value.slice none 0 0, Value.slice none 0 0, Value.slice none 0 0, Value.slice none 0 0]), false⟩
theorem k30_ok : X2q Tryz.prog 30 k30 := X51 Tryz.type30 Tryz.underlying30 rfl (by kernel_rfl)
noncomputable def k31 : TI := ⟨X0c (TypeDesc.struct #[⟨"Op", 23, 0, false, "", "", 0⟩, ⟨"Turn", 3, 2, false, "", "", 16⟩, ⟨"Pending", 24, 3, false, "", "", 24⟩, ⟨"Marks", 25, 4, false, "", "", 48⟩, ⟨"Store", 26, 5, false, "", "", 72⟩, ⟨"Events", 27, 6, false, "", "", 96⟩, ⟨"Rows", 28, 7, false, "", "", 120⟩, ⟨"Late", 29, 8, false, "", "", 144⟩]), Tryz.t31.size, Tryz.t31.bytes, (Value.agg #[Value.int IntKind.u8 0, Value.int IntKind.i64 0, Value.int IntKind.i64 0, Value.slice none 0 0, Value.slice none 0 0, Value.slice none 0 0, Value.slice none 0 0, Value.slice none 0 0, Value.slice none 0 0]), false⟩
theorem k31_ok : X2q Tryz.prog 31 k31 := X51 Tryz.type31 Tryz.underlying31 rfl (by kernel_rfl)
noncomputable def k32 : TI := ⟨X0c (TypeDesc.int IntKind.i64), Tryz.t32.size, Tryz.t32.bytes, (Value.int IntKind.i64 0), false⟩
theorem k32_ok : X2q Tryz.prog 32 k32 := X51 Tryz.type32 Tryz.underlying32 rfl (by kernel_rfl)
noncomputable def k34 : TI := ⟨X0c (TypeDesc.func #[3, 3] #[31, 32] false), Tryz.t34.size, Tryz.t34.bytes, Value.nilFunc, false⟩
theorem k34_ok : X2q Tryz.prog 34 k34 := X51 Tryz.type34 Tryz.underlying34 rfl (by kernel_rfl)
noncomputable def k35 : TI := ⟨X0c (TypeDesc.slice 155), Tryz.t35.size, Tryz.t35.bytes, (Value.slice none 0 0), false⟩
theorem k35_ok : X2q Tryz.prog 35 k35 := X51 Tryz.type35 Tryz.underlying35 rfl (by kernel_rfl)
noncomputable def k36 : TI := ⟨X0c (TypeDesc.slice 3), Tryz.t36.size, Tryz.t36.bytes, (Value.slice none 0 0), false⟩
theorem k36_ok : X2q Tryz.prog 36 k36 := X51 Tryz.type36 Tryz.underlying36 rfl (by kernel_rfl)
noncomputable def k38 : TI := ⟨X0c (TypeDesc.struct #[⟨"Kind", 5, 0, false, "", "", 0⟩, ⟨"Size", 2, 1, false, "", "", 8⟩, ⟨"Every", 2, 2, false, "", "", 16⟩]), Tryz.t38.size, Tryz.t38.bytes, (Value.agg #[Value.int IntKind.u8 0, Value.int IntKind.i64 0, Value.int IntKind.i64 0]), true⟩
theorem k38_ok : X2q Tryz.prog 38 k38 := Xak Tryz.type38 Tryz.underlying38 rfl (by kernel_rfl) Tryz.stoodInHeld38 Tryz.eqGuardType38 (by kernel_rfl)
noncomputable def k40 : TI := ⟨X0c (TypeDesc.struct #[⟨"Agg", 5, 0, false, "", "", 0⟩, ⟨"Arg", 35, 1, false, "", "", 8⟩, ⟨"Sources", 36, 2, false, "", "", 32⟩, ⟨"Join", 4, 3, false, "", "", 56⟩, ⟨"Where", 35, 4, false, "", "", 64⟩, ⟨"Window", 38, 5, false, "", "", 88⟩, ⟨"ByKey", 4, 8, false, "", "", 112⟩, ⟨"Late", 5, 9, false, "", "", 113⟩]), Tryz.t40.size, Tryz.t40.bytes, (Value.agg #[Value.int IntKind.u8 0, Value.slice none 0 0, Value.slice none 0 0, Value.bool false, Value.slice none 0 0, Value.int IntKind.u8 0, Value.int IntKind.i64 0, Value.int IntKind.i64 0, Value.bool false, Value.int IntKind.u8 0]), false⟩
theorem k40_ok : X2q Tryz.prog 40 k40 := X51 Tryz.type40 Tryz.underlying40 rfl (by kernel_rfl)
noncomputable def k44 : TI := ⟨X0c (TypeDesc.struct #[⟨"Key", 2, 0, false, "", "", 0⟩, ⟨"Time", 2, 1, false, "", "", 8⟩, ⟨"Value", 2, 2, false, "", "", 16⟩]), Tryz.t44.size, Tryz.t44.bytes, (Value.agg #[Value.int IntKind.i64 0, Value.int IntKind.i64 0, Value.int IntKind.i64 0]), true⟩
theorem k44_ok : X2q Tryz.prog 44 k44 := Xak Tryz.type44 Tryz.underlying44 rfl (by kernel_rfl) Tryz.stoodInHeld44 Tryz.eqGuardType44 (by kernel_rfl)
noncomputable def k46 : TI := ⟨X0c (TypeDesc.struct #[⟨"Start", 2, 0, false, "", "", 0⟩, ⟨"End", 2, 1, false, "", "", 8⟩]), Tryz.t46.size, Tryz.t46.bytes, (Value.agg #[Value.int IntKind.i64 0, Value.int IntKind.i64 0]), true⟩
theorem k46_ok : X2q Tryz.prog 46 k46 := Xak Tryz.type46 Tryz.underlying46 rfl (by kernel_rfl) Tryz.stoodInHeld46 Tryz.eqGuardType46 (by kernel_rfl)
noncomputable def k47 : TI := ⟨X0c (TypeDesc.array 2 2), Tryz.t47.size, Tryz.t47.bytes, (Value.agg #[Value.int IntKind.i64 0, Value.int IntKind.i64 0]), false⟩
theorem k47_ok : X2q Tryz.prog 47 k47 := X51 Tryz.type47 Tryz.underlying47 rfl (by kernel_rfl)
noncomputable def k49 : TI := ⟨X0c (TypeDesc.struct #[⟨"Key", 2, 0, false, "", "", 0⟩, ⟨"Span", 46, 1, false, "", "", 8⟩, ⟨"Values", 47, 3, false, "", "", 24⟩]), Tryz.t49.size, Tryz.t49.bytes, (Value.agg #[Value.int IntKind.i64 0, Value.int IntKind.i64 0, Value.int IntKind.i64 0, Value.int IntKind.i64 0, Value.int IntKind.i64 0]), true⟩
theorem k49_ok : X2q Tryz.prog 49 k49 := Xak Tryz.type49 Tryz.underlying49 rfl (by kernel_rfl) Tryz.stoodInHeld49 Tryz.eqGuardType49 (by kernel_rfl)
noncomputable def k51 : TI := ⟨X0c (TypeDesc.struct #[⟨"Kind", 5, 0, false, "", "", 0⟩, ⟨"Record", 44, 1, false, "", "", 8⟩, ⟨"Time", 2, 4, false, "", "", 32⟩, ⟨"Row", 49, 5, false, "", "", 40⟩]), Tryz.t51.size, Tryz.t51.bytes, (Value.agg #[Value.int IntKind.u8 0, Value.int IntKind.i64 0, Value.int IntKind.i64 0, Value.int IntKind.i64 0, Value.int IntKind.i64 0, Value.int IntKind.i64 0, Value.int IntKind.i64 0, Value.int IntKind.i64 0, Value.int IntKind.i64 0, Value.int IntKind.i64 0]), true⟩
theorem k51_ok : X2q Tryz.prog 51 k51 := Xak Tryz.type51 Tryz.underlying51 rfl (by kernel_rfl) Tryz.stoodInHeld51 Tryz.eqGuardType51 (by kernel_rfl)
noncomputable def k55 : TI := ⟨X0c (TypeDesc.struct #[⟨"Out", 3, 0, false, "", "", 0⟩, ⟨"Message", 51, 1, false, "", "", 8⟩]), Tryz.t55.size, Tryz.t55.bytes, (Value.agg #[Value.int IntKind.i64 0, Value.int IntKind.u8 0, Value.int IntKind.i64 0, Value.int IntKind.i64 0, Value.int IntKind.i64 0, Value.int IntKind.i64 0, Value.int IntKind.i64 0, Value.int IntKind.i64 0, Value.int IntKind.i64 0, Value.int IntKind.i64 0, Value.int IntKind.i64 0]), true⟩
theorem k55_ok : X2q Tryz.prog 55 k55 := Xak Tryz.type55 Tryz.underlying55 rfl (by kernel_rfl) Tryz.stoodInHeld55 Tryz.eqGuardType55 (by kernel_rfl)
noncomputable def k57 : TI := ⟨X0c (TypeDesc.func #[40, 62] #[49, 32] false), Tryz.t57.size, Tryz.t57.bytes, Value.nilFunc, false⟩
theorem k57_ok : X2q Tryz.prog 57 k57 := X51 Tryz.type57 Tryz.underlying57 rfl (by kernel_rfl)
noncomputable def k59 : TI := ⟨X0c (TypeDesc.struct #[⟨"Count", 2, 0, false, "", "", 0⟩, ⟨"Sum", 2, 1, false, "", "", 8⟩, ⟨"Min", 2, 2, false, "", "", 16⟩, ⟨"Max", 2, 3, false, "", "", 24⟩]), Tryz.t59.size, Tryz.t59.bytes, (Value.agg #[Value.int IntKind.i64 0, Value.int IntKind.i64 0, Value.int IntKind.i64 0, Value.int IntKind.i64 0]), true⟩
theorem k59_ok : X2q Tryz.prog 59 k59 := Xak Tryz.type59 Tryz.underlying59 rfl (by kernel_rfl) Tryz.stoodInHeld59 Tryz.eqGuardType59 (by kernel_rfl)
noncomputable def k60 : TI := ⟨X0c (TypeDesc.array 2 59), Tryz.t60.size, Tryz.t60.bytes, (Value.agg #[Value.int IntKind.i64 0, Value.int IntKind.i64 0, Value.int IntKind.i64 0, Value.int IntKind.i64 0, Value.int IntKind.i64 0, Value.int IntKind.i64 0, Value.int IntKind.i64 0, Value.int IntKind.i64 0]), false⟩
theorem k60_ok : X2q Tryz.prog 60 k60 := X51 Tryz.type60 Tryz.underlying60 rfl (by kernel_rfl)
noncomputable def k62 : TI := ⟨X0c (TypeDesc.struct #[⟨"Key", 2, 0, false, "", "", 0⟩, ⟨"Span", 46, 1, false, "", "", 8⟩, ⟨"Values", 60, 3, false, "", "", 24⟩]), Tryz.t62.size, Tryz.t62.bytes, (Value.agg #[Value.int IntKind.i64 0, Value.int IntKind.i64 0, Value.int IntKind.i64 0, Value.int IntKind.i64 0, Value.int IntKind.i64 0, Value.int IntKind.i64 0, Value.int IntKind.i64 0, Value.int IntKind.i64 0, Value.int IntKind.i64 0, Value.int IntKind.i64 0, Value.int IntKind.i64 0]), true⟩
theorem k62_ok : X2q Tryz.prog 62 k62 := Xak Tryz.type62 Tryz.underlying62 rfl (by kernel_rfl) Tryz.stoodInHeld62 Tryz.eqGuardType62 (by kernel_rfl)
noncomputable def k67 : TI := ⟨X0c (TypeDesc.slice 51), Tryz.t67.size, Tryz.t67.bytes, (Value.slice none 0 0), false⟩
theorem k67_ok : X2q Tryz.prog 67 k67 := X51 Tryz.type67 Tryz.underlying67 rfl (by kernel_rfl)
noncomputable def k84 : TI := ⟨X0c (TypeDesc.func #[49] #[] false), Tryz.t84.size, Tryz.t84.bytes, Value.nilFunc, false⟩
theorem k84_ok : X2q Tryz.prog 84 k84 := X51 Tryz.type84 Tryz.underlying84 rfl (by kernel_rfl)
noncomputable def k85 : TI := ⟨X0c (TypeDesc.func #[112] #[] false), Tryz.t85.size, Tryz.t85.bytes, Value.nilFunc, false⟩
theorem k85_ok : X2q Tryz.prog 85 k85 := X51 Tryz.type85 Tryz.underlying85 rfl (by kernel_rfl)
noncomputable def k86 : TI := ⟨X0c (TypeDesc.func #[112] #[] false), Tryz.t86.size, Tryz.t86.bytes, Value.nilFunc, false⟩
theorem k86_ok : X2q Tryz.prog 86 k86 := X51 Tryz.type86 Tryz.underlying86 rfl (by kernel_rfl)
noncomputable def k90 : TI := ⟨X0c (TypeDesc.func #[25, 3] #[25] false), Tryz.t90.size, Tryz.t90.bytes, Value.nilFunc, false⟩
theorem k90_ok : X2q Tryz.prog 90 k90 := X51 Tryz.type90 Tryz.underlying90 rfl (by kernel_rfl)
noncomputable def k99 : TI := ⟨X0c (TypeDesc.struct #[⟨"Mark", 4, 0, false, "", "", 0⟩, ⟨"Time", 2, 1, false, "", "", 8⟩, ⟨"Record", 44, 2, false, "", "", 16⟩]), Tryz.t99.size, Tryz.t99.bytes, (Value.agg #[Value.bool false, Value.int IntKind.i64 0, Value.int IntKind.i64 0, Value.int IntKind.i64 0, Value.int IntKind.i64 0]), true⟩
theorem k99_ok : X2q Tryz.prog 99 k99 := Xak Tryz.type99 Tryz.underlying99 rfl (by kernel_rfl) Tryz.stoodInHeld99 Tryz.eqGuardType99 (by kernel_rfl)
noncomputable def k104 : TI := ⟨X0c (TypeDesc.slice 46), Tryz.t104.size, Tryz.t104.bytes, (Value.slice none 0 0), false⟩
theorem k104_ok : X2q Tryz.prog 104 k104 := X51 Tryz.type104 Tryz.underlying104 rfl (by kernel_rfl)
noncomputable def k112 : TI := ⟨X0c (TypeDesc.func #[49] #[4] false), Tryz.t112.size, Tryz.t112.bytes, Value.nilFunc, false⟩
theorem k112_ok : X2q Tryz.prog 112 k112 := X51 Tryz.type112 Tryz.underlying112 rfl (by kernel_rfl)
noncomputable def k114 : TI := ⟨X0c (TypeDesc.func #[62, 62] #[3] false), Tryz.t114.size, Tryz.t114.bytes, Value.nilFunc, false⟩
theorem k114_ok : X2q Tryz.prog 114 k114 := X51 Tryz.type114 Tryz.underlying114 rfl (by kernel_rfl)
noncomputable def k115 : TI := ⟨X0c (TypeDesc.func #[59] #[32] false), Tryz.t115.size, Tryz.t115.bytes, Value.nilFunc, false⟩
theorem k115_ok : X2q Tryz.prog 115 k115 := X51 Tryz.type115 Tryz.underlying115 rfl (by kernel_rfl)
noncomputable def k116 : TI := ⟨X0c (TypeDesc.array 5 2), Tryz.t116.size, Tryz.t116.bytes, (Value.agg #[Value.int IntKind.i64 0, Value.int IntKind.i64 0, Value.int IntKind.i64 0, Value.int IntKind.i64 0, Value.int IntKind.i64 0]), false⟩
theorem k116_ok : X2q Tryz.prog 116 k116 := X51 Tryz.type116 Tryz.underlying116 rfl (by kernel_rfl)
noncomputable def k117 : TI := ⟨X0c (TypeDesc.int IntKind.u64), Tryz.t117.size, Tryz.t117.bytes, (Value.int IntKind.u64 0), false⟩
theorem k117_ok : X2q Tryz.prog 117 k117 := X51 Tryz.type117 Tryz.underlying117 rfl (by kernel_rfl)
noncomputable def k122 : TI := ⟨X0c (TypeDesc.func #[35] #[3, 32] false), Tryz.t122.size, Tryz.t122.bytes, Value.nilFunc, false⟩
theorem k122_ok : X2q Tryz.prog 122 k122 := X51 Tryz.type122 Tryz.underlying122 rfl (by kernel_rfl)
noncomputable def k124 : TI := ⟨X0c (TypeDesc.struct #[⟨"l", 35, 0, false, "", "tailwater/checks", 0⟩, ⟨"ask", 122, 1, false, "", "tailwater/checks", 24⟩]), Tryz.t124.size, Tryz.t124.bytes, (Value.agg #[Value.slice none 0 0, Value.nilFunc]), false⟩
theorem k124_ok : X2q Tryz.prog 124 k124 := X51 Tryz.type124 Tryz.underlying124 rfl (by kernel_rfl)
noncomputable def k131 : TI := ⟨X0c (TypeDesc.pointer 62), Tryz.t131.size, Tryz.t131.bytes, (Value.pointer none), false⟩
theorem k131_ok : X2q Tryz.prog 131 k131 := X51 Tryz.type131 Tryz.underlying131 rfl (by kernel_rfl)
noncomputable def k132 : TI := ⟨X0c (TypeDesc.func #[26, 3, 3] #[26] false), Tryz.t132.size, Tryz.t132.bytes, Value.nilFunc, false⟩
theorem k132_ok : X2q Tryz.prog 132 k132 := X51 Tryz.type132 Tryz.underlying132 rfl (by kernel_rfl)
noncomputable def k145 : TI := ⟨X0c (TypeDesc.int IntKind.u32), Tryz.t145.size, Tryz.t145.bytes, (Value.int IntKind.u32 0), false⟩
theorem k145_ok : X2q Tryz.prog 145 k145 := X51 Tryz.type145 Tryz.underlying145 rfl (by kernel_rfl)
noncomputable def k148 : TI := ⟨X0c (TypeDesc.int IntKind.u64), Tryz.t148.size, Tryz.t148.bytes, (Value.int IntKind.u64 0), false⟩
theorem k148_ok : X2q Tryz.prog 148 k148 := X51 Tryz.type148 Tryz.underlying148 rfl (by kernel_rfl)
noncomputable def k153 : TI := ⟨X0c (TypeDesc.slice 124), Tryz.t153.size, Tryz.t153.bytes, (Value.slice none 0 0), false⟩
theorem k153_ok : X2q Tryz.prog 153 k153 := X51 Tryz.type153 Tryz.underlying153 rfl (by kernel_rfl)
noncomputable def k155 : TI := ⟨X0c (TypeDesc.struct #[⟨"Kind", 5, 0, false, "", "", 0⟩, ⟨"N", 2, 1, false, "", "", 8⟩, ⟨"A", 3, 2, false, "", "", 16⟩, ⟨"B", 3, 3, false, "", "", 24⟩, ⟨"At", 3, 4, false, "", "", 32⟩]), Tryz.t155.size, Tryz.t155.bytes, (Value.agg #[Value.int IntKind.u8 0, Value.int IntKind.i64 0, Value.int IntKind.i64 0, Value.int IntKind.i64 0, Value.int IntKind.i64 0]), true⟩
theorem k155_ok : X2q Tryz.prog 155 k155 := Xak Tryz.type155 Tryz.underlying155 rfl (by kernel_rfl) Tryz.stoodInHeld155 Tryz.eqGuardType155 (by kernel_rfl)
noncomputable def k167 : TI := ⟨X0c (TypeDesc.slice 181), Tryz.t167.size, Tryz.t167.bytes, (Value.slice none 0 0), false⟩
theorem k167_ok : X2q Tryz.prog 167 k167 := X51 Tryz.type167 Tryz.underlying167 rfl (by kernel_rfl)
noncomputable def k170 : TI := ⟨X0c (TypeDesc.func #[3] #[4] false), Tryz.t170.size, Tryz.t170.bytes, Value.nilFunc, false⟩
theorem k170_ok : X2q Tryz.prog 170 k170 := X51 Tryz.type170 Tryz.underlying170 rfl (by kernel_rfl)
noncomputable def k181 : TI := ⟨X0c (TypeDesc.struct #[⟨"at", 3, 0, false, "", "tailwater/nodes", 0⟩, ⟨"size", 3, 1, false, "", "tailwater/nodes", 8⟩, ⟨"depth", 3, 2, false, "", "tailwater/nodes", 16⟩]), Tryz.t181.size, Tryz.t181.bytes, (Value.agg #[Value.int IntKind.i64 0, Value.int IntKind.i64 0, Value.int IntKind.i64 0]), true⟩
theorem k181_ok : X2q Tryz.prog 181 k181 := Xak Tryz.type181 Tryz.underlying181 rfl (by kernel_rfl) Tryz.stoodInHeld181 Tryz.eqGuardType181 (by kernel_rfl)
noncomputable def k183 : TI := ⟨X0c (TypeDesc.map 3 4), Tryz.t183.size, Tryz.t183.bytes, (Value.map none), false⟩
theorem k183_ok : X2q Tryz.prog 183 k183 := X51 Tryz.type183 Tryz.underlying183 rfl (by kernel_rfl)
noncomputable def k184 : TI := ⟨X0c (TypeDesc.slice 4), Tryz.t184.size, Tryz.t184.bytes, (Value.slice none 0 0), false⟩
theorem k184_ok : X2q Tryz.prog 184 k184 := X51 Tryz.type184 Tryz.underlying184 rfl (by kernel_rfl)
noncomputable def k200 : TI := ⟨X0c (TypeDesc.func #[4, 36] #[4] true), Tryz.t200.size, Tryz.t200.bytes, Value.nilFunc, false⟩
theorem k200_ok : X2q Tryz.prog 200 k200 := X51 Tryz.type200 Tryz.underlying200 rfl (by kernel_rfl)
noncomputable def k201 : TI := ⟨X0c (TypeDesc.array 2 4), Tryz.t201.size, Tryz.t201.bytes, (Value.agg #[Value.bool false, Value.bool false]), false⟩
theorem k201_ok : X2q Tryz.prog 201 k201 := X51 Tryz.type201 Tryz.underlying201 rfl (by kernel_rfl)
noncomputable def k213 : TI := ⟨X0c (TypeDesc.struct #[⟨"_interface", 17, 0, false, "", "runtime", 0⟩, ⟨"concrete", 17, 1, false, "", "runtime", 8⟩, ⟨"asserted", 17, 2, false, "", "runtime", 16⟩, ⟨"missingMethod", 9, 3, false, "", "runtime", 24⟩]), Tryz.t213.size, Tryz.t213.bytes, (Value.agg #[Value.pointer none, Value.pointer none, Value.pointer none, Value.string { data := #[] }]), false⟩
theorem k213_ok : X2q Tryz.prog 213 k213 := X51 Tryz.type213 Tryz.underlying213 rfl (by kernel_rfl)
noncomputable def k216 : TI := ⟨X0c (TypeDesc.struct #[⟨"_", 214, 0, false, "", "runtime", 0⟩]), Tryz.t216.size, Tryz.t216.bytes, (Value.agg #[]), false⟩
theorem k216_ok : X2q Tryz.prog 216 k216 := X51 Tryz.type216 Tryz.underlying216 rfl (by kernel_rfl)
noncomputable def k225 : TI := ⟨X0c (TypeDesc.struct #[⟨"Size_", 12, 0, false, "", "", 0⟩, ⟨"PtrBytes", 12, 1, false, "", "", 8⟩, ⟨"Hash", 145, 2, false, "", "", 16⟩, ⟨"TFlag", 218, 3, false, "", "", 20⟩, ⟨"Align_", 5, 4, false, "", "", 21⟩, ⟨"FieldAlign_", 5, 5, false, "", "", 22⟩, ⟨"Kind_", 219, 6, false, "", "", 23⟩, ⟨"Equal", 220, 7, false, "", "", 24⟩, ⟨"GCData", 221, 8, false, "", "", 32⟩, ⟨"Str", 222, 9, false, "", "", 40⟩, ⟨"PtrToThis", 223, 10, false, "", "", 44⟩]), Tryz.t225.size, Tryz.t225.bytes, (Value.agg #[Value.int IntKind.u64 0, Value.int IntKind.u64 0, Value.int IntKind.u32 0, Value.int IntKind.u8 0, Value.int IntKind.u8 0, Value.int IntKind.u8 0, Value.int IntKind.u8 0, Value.nilFunc, Value.pointer none, Value.int IntKind.i32 0, Value.int IntKind.i32 0]), false⟩
theorem k225_ok : X2q Tryz.prog 225 k225 := X51 Tryz.type225 Tryz.underlying225 rfl (by kernel_rfl)
noncomputable def Xpe : Tab TI := (.node 46 k46 (.node 20 k20 (.node 10 k10 (.node 5 k5 (.node 3 k3 (.node 2 k2 (.node 1 k1 .leaf .leaf) .leaf) (.node 4 k4 .leaf .leaf)) (.node 8 k8 (.node 7 k7 (.node 6 k6 .leaf .leaf) .leaf) (.node 9 k9 .leaf .leaf))) (.node 15 k15 (.node 13 k13 (.node 12 k12 (.node 11 k11 .leaf .leaf) .leaf) (.node 14 k14 .leaf .leaf)) (.node 18 k18 (.node 17 k17 (.node 16 k16 .leaf .leaf) .leaf) (.node 19 k19 .leaf .leaf)))) (.node 30 k30 (.node 25 k25 (.node 23 k23 (.node 22 k22 (.node 21 k21 .leaf .leaf) .leaf) (.node 24 k24 .leaf .leaf)) (.node 28 k28 (.node 27 k27 (.node 26 k26 .leaf .leaf) .leaf) (.node 29 k29 .leaf .leaf))) (.node 36 k36 (.node 34 k34 (.node 32 k32 (.node 31 k31 .leaf .leaf) .leaf) (.node 35 k35 .leaf .leaf)) (.node 40 k40 (.node 38 k38 .leaf .leaf) (.node 44 k44 .leaf .leaf))))) (.node 117 k117 (.node 84 k84 (.node 57 k57 (.node 51 k51 (.node 49 k49 (.node 47 k47 .leaf .leaf) .leaf) (.node 55 k55 .leaf .leaf)) (.node 62 k62 (.node 60 k60 (.node 59 k59 .leaf .leaf) .leaf) (.node 67 k67 .leaf .leaf))) (.node 104 k104 (.node 90 k90 (.node 86 k86 (.node 85 k85 .leaf .leaf) .leaf) (.node 99 k99 .leaf .leaf)) (.node 115 k115 (.node 114 k114 (.node 112 k112 .leaf .leaf) .leaf) (.node 116 k116 .leaf .leaf)))) (.node 170 k170 (.node 145 k145 (.node 131 k131 (.node 124 k124 (.node 122 k122 .leaf .leaf) .leaf) (.node 132 k132 .leaf .leaf)) (.node 155 k155 (.node 153 k153 (.node 148 k148 .leaf .leaf) .leaf) (.node 167 k167 .leaf .leaf))) (.node 201 k201 (.node 184 k184 (.node 183 k183 (.node 181 k181 .leaf .leaf) .leaf) (.node 200 k200 .leaf .leaf)) (.node 216 k216 (.node 213 k213 .leaf .leaf) (.node 225 k225 .leaf .leaf))))))
theorem Xe : X7o Tryz.prog Xpe.find := Xly ⟨k46_ok, ⟨k20_ok, ⟨k10_ok, ⟨k5_ok, ⟨k3_ok, ⟨k2_ok, ⟨k1_ok, trivial, trivial⟩, trivial⟩, ⟨k4_ok, trivial, trivial⟩⟩, ⟨k8_ok, ⟨k7_ok, ⟨k6_ok, trivial, trivial⟩, trivial⟩, ⟨k9_ok, trivial, trivial⟩⟩⟩, ⟨k15_ok, ⟨k13_ok, ⟨k12_ok, ⟨k11_ok, trivial, trivial⟩, trivial⟩, ⟨k14_ok, trivial, trivial⟩⟩, ⟨k18_ok, ⟨k17_ok, ⟨k16_ok, trivial, trivial⟩, trivial⟩, ⟨k19_ok, trivial, trivial⟩⟩⟩⟩, ⟨k30_ok, ⟨k25_ok, ⟨k23_ok, ⟨k22_ok, ⟨k21_ok, trivial, trivial⟩, trivial⟩, ⟨k24_ok, trivial, trivial⟩⟩, ⟨k28_ok, ⟨k27_ok, ⟨k26_ok, trivial, trivial⟩, trivial⟩, ⟨k29_ok, trivial, trivial⟩⟩⟩, ⟨k36_ok, ⟨k34_ok, ⟨k32_ok, ⟨k31_ok, trivial, trivial⟩, trivial⟩, ⟨k35_ok, trivial, trivial⟩⟩, ⟨k40_ok, ⟨k38_ok, trivial, trivial⟩, ⟨k44_ok, trivial, trivial⟩⟩⟩⟩⟩, ⟨k117_ok, ⟨k84_ok, ⟨k57_ok, ⟨k51_ok, ⟨k49_ok, ⟨k47_ok, trivial, trivial⟩, trivial⟩, ⟨k55_ok, trivial, trivial⟩⟩, ⟨k62_ok, ⟨k60_ok, ⟨k59_ok, trivial, trivial⟩, trivial⟩, ⟨k67_ok, trivial, trivial⟩⟩⟩, ⟨k104_ok, ⟨k90_ok, ⟨k86_ok, ⟨k85_ok, trivial, trivial⟩, trivial⟩, ⟨k99_ok, trivial, trivial⟩⟩, ⟨k115_ok, ⟨k114_ok, ⟨k112_ok, trivial, trivial⟩, trivial⟩, ⟨k116_ok, trivial, trivial⟩⟩⟩⟩, ⟨k170_ok, ⟨k145_ok, ⟨k131_ok, ⟨k124_ok, ⟨k122_ok, trivial, trivial⟩, trivial⟩, ⟨k132_ok, trivial, trivial⟩⟩, ⟨k155_ok, ⟨k153_ok, ⟨k148_ok, trivial, trivial⟩, trivial⟩, ⟨k167_ok, trivial, trivial⟩⟩⟩, ⟨k201_ok, ⟨k184_ok, ⟨k183_ok, ⟨k181_ok, trivial, trivial⟩, trivial⟩, ⟨k200_ok, trivial, trivial⟩⟩, ⟨k216_ok, ⟨k213_ok, trivial, trivial⟩, ⟨k225_ok, trivial, trivial⟩⟩⟩⟩⟩⟩
end Go.Av.Tryz
