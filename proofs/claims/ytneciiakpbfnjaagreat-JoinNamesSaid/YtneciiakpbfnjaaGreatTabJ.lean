/- Printed by gentab.py: the types and the functions of the seat. -/
import Derived.Test.YtneciiakpbfnjaaGreatAvc
import Derived.Test.YtneciiakpbfnjaaGreatProg
import Derived.KernelRfl
set_option linter.all false
namespace Go.Av.Tryz
open Go.Proofs
set_option maxRecDepth 100000

noncomputable def k1 : TI := ⟨kindOf (TypeDesc.func #[] #[] false), Tryz.t1.size, Tryz.t1.bytes, Value.nilFunc, false⟩
theorem k1_ok : TiOk Tryz.prog 1 k1 := tiOk Tryz.type1 Tryz.underlying1 rfl (by kernel_rfl)
noncomputable def k2 : TI := ⟨kindOf (TypeDesc.int IntKind.i64), Tryz.t2.size, Tryz.t2.bytes, (Value.int IntKind.i64 0), false⟩
theorem k2_ok : TiOk Tryz.prog 2 k2 := tiOk Tryz.type2 Tryz.underlying2 rfl (by kernel_rfl)
noncomputable def k3 : TI := ⟨kindOf (TypeDesc.int IntKind.i64), Tryz.t3.size, Tryz.t3.bytes, (Value.int IntKind.i64 0), false⟩
theorem k3_ok : TiOk Tryz.prog 3 k3 := tiOk Tryz.type3 Tryz.underlying3 rfl (by kernel_rfl)
noncomputable def k4 : TI := ⟨kindOf TypeDesc.bool, Tryz.t4.size, Tryz.t4.bytes, (Value.bool false), false⟩
theorem k4_ok : TiOk Tryz.prog 4 k4 := tiOk Tryz.type4 Tryz.underlying4 rfl (by kernel_rfl)
noncomputable def k5 : TI := ⟨kindOf (TypeDesc.int IntKind.u8), Tryz.t5.size, Tryz.t5.bytes, (Value.int IntKind.u8 0), false⟩
theorem k5_ok : TiOk Tryz.prog 5 k5 := tiOk Tryz.type5 Tryz.underlying5 rfl (by kernel_rfl)
noncomputable def k6 : TI := ⟨kindOf (TypeDesc.int IntKind.u8), Tryz.t6.size, Tryz.t6.bytes, (Value.int IntKind.u8 0), false⟩
theorem k6_ok : TiOk Tryz.prog 6 k6 := tiOk Tryz.type6 Tryz.underlying6 rfl (by kernel_rfl)
noncomputable def k7 : TI := ⟨kindOf (TypeDesc.struct #[{ name := "x", type := 2, offset := 0, embedded := false, tag := "", pkgPath := "runtime", byteOffset := 0 }, { name := "y", type := 3, offset := 1, embedded := false, tag := "", pkgPath := "runtime", byteOffset := 8 }, { name := "signed", type := 4, offset := 2, embedded := false, tag := "", pkgPath := "runtime", byteOffset := 16 }, { name := "code", type := 6, offset := 3, embedded := false, tag := "", pkgPath := "runtime", byteOffset := 17 }]), Tryz.t7.size, Tryz.t7.bytes, (Value.agg #[Value.int IntKind.i64 0, Value.int IntKind.i64 0, Value.bool false, Value.int IntKind.u8 0]), true⟩
theorem k7_ok : TiOk Tryz.prog 7 k7 := tiOkE Tryz.type7 Tryz.underlying7 rfl (by kernel_rfl) Tryz.stoodInHeld7 Tryz.eqGuardType7 (by kernel_rfl)
noncomputable def k8 : TI := ⟨kindOf (TypeDesc.struct #[{ name := "x", type := 2, offset := 0, embedded := false, tag := "", pkgPath := "runtime", byteOffset := 0 }, { name := "y", type := 3, offset := 1, embedded := false, tag := "", pkgPath := "runtime", byteOffset := 8 }, { name := "signed", type := 4, offset := 2, embedded := false, tag := "", pkgPath := "runtime", byteOffset := 16 }, { name := "code", type := 6, offset := 3, embedded := false, tag := "", pkgPath := "runtime", byteOffset := 17 }]), Tryz.t8.size, Tryz.t8.bytes, (Value.agg #[Value.int IntKind.i64 0, Value.int IntKind.i64 0, Value.bool false, Value.int IntKind.u8 0]), true⟩
theorem k8_ok : TiOk Tryz.prog 8 k8 := tiOkE Tryz.type8 Tryz.underlying8 rfl (by kernel_rfl) Tryz.stoodInHeld8 Tryz.eqGuardType8 (by kernel_rfl)
noncomputable def k9 : TI := ⟨kindOf TypeDesc.string, Tryz.t9.size, Tryz.t9.bytes, (Value.string { data := #[] }), false⟩
theorem k9_ok : TiOk Tryz.prog 9 k9 := tiOk Tryz.type9 Tryz.underlying9 rfl (by kernel_rfl)
noncomputable def k10 : TI := ⟨kindOf TypeDesc.string, Tryz.t10.size, Tryz.t10.bytes, (Value.string { data := #[] }), false⟩
theorem k10_ok : TiOk Tryz.prog 10 k10 := tiOk Tryz.type10 Tryz.underlying10 rfl (by kernel_rfl)
noncomputable def k11 : TI := ⟨kindOf TypeDesc.string, Tryz.t11.size, Tryz.t11.bytes, (Value.string { data := #[] }), false⟩
theorem k11_ok : TiOk Tryz.prog 11 k11 := tiOk Tryz.type11 Tryz.underlying11 rfl (by kernel_rfl)
noncomputable def k12 : TI := ⟨kindOf (TypeDesc.int IntKind.u64), Tryz.t12.size, Tryz.t12.bytes, (Value.int IntKind.u64 0), false⟩
theorem k12_ok : TiOk Tryz.prog 12 k12 := tiOk Tryz.type12 Tryz.underlying12 rfl (by kernel_rfl)
noncomputable def k13 : TI := ⟨kindOf (TypeDesc.struct #[{ name := "msg", type := 9, offset := 0, embedded := false, tag := "", pkgPath := "runtime", byteOffset := 0 }, { name := "addr", type := 12, offset := 1, embedded := false, tag := "", pkgPath := "runtime", byteOffset := 16 }]), Tryz.t13.size, Tryz.t13.bytes, (Value.agg #[Value.string { data := #[] }, Value.int IntKind.u64 0]), false⟩
theorem k13_ok : TiOk Tryz.prog 13 k13 := tiOk Tryz.type13 Tryz.underlying13 rfl (by kernel_rfl)
noncomputable def k14 : TI := ⟨kindOf (TypeDesc.struct #[{ name := "msg", type := 9, offset := 0, embedded := false, tag := "", pkgPath := "runtime", byteOffset := 0 }, { name := "addr", type := 12, offset := 1, embedded := false, tag := "", pkgPath := "runtime", byteOffset := 16 }]), Tryz.t14.size, Tryz.t14.bytes, (Value.agg #[Value.string { data := #[] }, Value.int IntKind.u64 0]), false⟩
theorem k14_ok : TiOk Tryz.prog 14 k14 := tiOk Tryz.type14 Tryz.underlying14 rfl (by kernel_rfl)
noncomputable def k15 : TI := ⟨kindOf (TypeDesc.pointer 277), Tryz.t15.size, Tryz.t15.bytes, (Value.pointer none), false⟩
theorem k15_ok : TiOk Tryz.prog 15 k15 := tiOk Tryz.type15 Tryz.underlying15 rfl (by kernel_rfl)
noncomputable def k16 : TI := ⟨kindOf (TypeDesc.pointer 280), Tryz.t16.size, Tryz.t16.bytes, (Value.pointer none), false⟩
theorem k16_ok : TiOk Tryz.prog 16 k16 := tiOk Tryz.type16 Tryz.underlying16 rfl (by kernel_rfl)
noncomputable def k17 : TI := ⟨kindOf (TypeDesc.pointer 289), Tryz.t17.size, Tryz.t17.bytes, (Value.pointer none), false⟩
theorem k17_ok : TiOk Tryz.prog 17 k17 := tiOk Tryz.type17 Tryz.underlying17 rfl (by kernel_rfl)
noncomputable def k18 : TI := ⟨kindOf (TypeDesc.struct #[{ name := "typ", type := 17, offset := 0, embedded := false, tag := "", pkgPath := "internal/runtime/maps", byteOffset := 0 }]), Tryz.t18.size, Tryz.t18.bytes, (Value.agg #[Value.pointer none]), false⟩
theorem k18_ok : TiOk Tryz.prog 18 k18 := tiOk Tryz.type18 Tryz.underlying18 rfl (by kernel_rfl)
noncomputable def k19 : TI := ⟨kindOf (TypeDesc.struct #[{ name := "typ", type := 17, offset := 0, embedded := false, tag := "", pkgPath := "internal/runtime/maps", byteOffset := 0 }]), Tryz.t19.size, Tryz.t19.bytes, (Value.agg #[Value.pointer none]), false⟩
theorem k19_ok : TiOk Tryz.prog 19 k19 := tiOk Tryz.type19 Tryz.underlying19 rfl (by kernel_rfl)
noncomputable def k20 : TI := ⟨kindOf (TypeDesc.interface #[]), Tryz.t20.size, Tryz.t20.bytes, Value.nilIface, false⟩
theorem k20_ok : TiOk Tryz.prog 20 k20 := tiOk Tryz.type20 Tryz.underlying20 rfl (by kernel_rfl)
noncomputable def k21 : TI := ⟨kindOf (TypeDesc.int IntKind.i32), Tryz.t21.size, Tryz.t21.bytes, (Value.int IntKind.i32 0), false⟩
theorem k21_ok : TiOk Tryz.prog 21 k21 := tiOk Tryz.type21 Tryz.underlying21 rfl (by kernel_rfl)
noncomputable def k22 : TI := ⟨kindOf (TypeDesc.slice 116), Tryz.t22.size, Tryz.t22.bytes, (Value.slice none 0 0), false⟩
theorem k22_ok : TiOk Tryz.prog 22 k22 := tiOk Tryz.type22 Tryz.underlying22 rfl (by kernel_rfl)
noncomputable def k23 : TI := ⟨kindOf (TypeDesc.slice 3), Tryz.t23.size, Tryz.t23.bytes, (Value.slice none 0 0), false⟩
theorem k23_ok : TiOk Tryz.prog 23 k23 := tiOk Tryz.type23 Tryz.underlying23 rfl (by kernel_rfl)
noncomputable def k24 : TI := ⟨kindOf (TypeDesc.struct #[{ name := "Kind", type := 5, offset := 0, embedded := false, tag := "", pkgPath := "", byteOffset := 0 }, { name := "Size", type := 2, offset := 1, embedded := false, tag := "", pkgPath := "", byteOffset := 8 }, { name := "Every", type := 2, offset := 2, embedded := false, tag := "", pkgPath := "", byteOffset := 16 }]), Tryz.t24.size, Tryz.t24.bytes, (Value.agg #[Value.int IntKind.u8 0, Value.int IntKind.i64 0, Value.int IntKind.i64 0]), true⟩
theorem k24_ok : TiOk Tryz.prog 24 k24 := tiOkE Tryz.type24 Tryz.underlying24 rfl (by kernel_rfl) Tryz.stoodInHeld24 Tryz.eqGuardType24 (by kernel_rfl)
noncomputable def k25 : TI := ⟨kindOf (TypeDesc.struct #[{ name := "Kind", type := 5, offset := 0, embedded := false, tag := "", pkgPath := "", byteOffset := 0 }, { name := "Size", type := 2, offset := 1, embedded := false, tag := "", pkgPath := "", byteOffset := 8 }, { name := "Every", type := 2, offset := 2, embedded := false, tag := "", pkgPath := "", byteOffset := 16 }]), Tryz.t25.size, Tryz.t25.bytes, (Value.agg #[Value.int IntKind.u8 0, Value.int IntKind.i64 0, Value.int IntKind.i64 0]), true⟩
theorem k25_ok : TiOk Tryz.prog 25 k25 := tiOkE Tryz.type25 Tryz.underlying25 rfl (by kernel_rfl) Tryz.stoodInHeld25 Tryz.eqGuardType25 (by kernel_rfl)
noncomputable def k26 : TI := ⟨kindOf (TypeDesc.struct #[{ name := "Agg", type := 5, offset := 0, embedded := false, tag := "", pkgPath := "", byteOffset := 0 }, { name := "Arg", type := 22, offset := 1, embedded := false, tag := "", pkgPath := "", byteOffset := 8 }, { name := "Sources", type := 23, offset := 2, embedded := false, tag := "", pkgPath := "", byteOffset := 32 }, { name := "Join", type := 4, offset := 3, embedded := false, tag := "", pkgPath := "", byteOffset := 56 }, { name := "Where", type := 22, offset := 4, embedded := false, tag := "", pkgPath := "", byteOffset := 64 }, { name := "Window", type := 25, offset := 5, embedded := false, tag := "", pkgPath := "", byteOffset := 88 }, { name := "ByKey", type := 4, offset := 8, embedded := false, tag := "", pkgPath := "", byteOffset := 112 }, { name := "Late", type := 5, offset := 9, embedded := false, tag := "", pkgPath := "", byteOffset := 113 }]), Tryz.t26.size, Tryz.t26.bytes, (Value.agg #[Value.int IntKind.u8 0, Value.slice none 0 0, Value.slice none 0 0, Value.bool false, Value.slice none 0 0, Value.int IntKind.u8 0, Value.int IntKind.i64 0, Value.int IntKind.i64 0, Value.bool false, Value.int IntKind.u8 0]), false⟩
theorem k26_ok : TiOk Tryz.prog 26 k26 := tiOk Tryz.type26 Tryz.underlying26 rfl (by kernel_rfl)
noncomputable def k27 : TI := ⟨kindOf (TypeDesc.struct #[{ name := "Agg", type := 5, offset := 0, embedded := false, tag := "", pkgPath := "", byteOffset := 0 }, { name := "Arg", type := 22, offset := 1, embedded := false, tag := "", pkgPath := "", byteOffset := 8 }, { name := "Sources", type := 23, offset := 2, embedded := false, tag := "", pkgPath := "", byteOffset := 32 }, { name := "Join", type := 4, offset := 3, embedded := false, tag := "", pkgPath := "", byteOffset := 56 }, { name := "Where", type := 22, offset := 4, embedded := false, tag := "", pkgPath := "", byteOffset := 64 }, { name := "Window", type := 25, offset := 5, embedded := false, tag := "", pkgPath := "", byteOffset := 88 }, { name := "ByKey", type := 4, offset := 8, embedded := false, tag := "", pkgPath := "", byteOffset := 112 }, { name := "Late", type := 5, offset := 9, embedded := false, tag := "", pkgPath := "", byteOffset := 113 }]), Tryz.t27.size, Tryz.t27.bytes, (Value.agg #[Value.int IntKind.u8 0, Value.slice none 0 0, Value.slice none 0 0, Value.bool false, Value.slice none 0 0, Value.int IntKind.u8 0, Value.int IntKind.i64 0, Value.int IntKind.i64 0, Value.bool false, Value.int IntKind.u8 0]), false⟩
theorem k27_ok : TiOk Tryz.prog 27 k27 := tiOk Tryz.type27 Tryz.underlying27 rfl (by kernel_rfl)
noncomputable def k28 : TI := ⟨kindOf (TypeDesc.slice 35), Tryz.t28.size, Tryz.t28.bytes, (Value.slice none 0 0), false⟩
theorem k28_ok : TiOk Tryz.prog 28 k28 := tiOk Tryz.type28 Tryz.underlying28 rfl (by kernel_rfl)
noncomputable def k29 : TI := ⟨kindOf (TypeDesc.func #[] #[4] false), Tryz.t29.size, Tryz.t29.bytes, Value.nilFunc, false⟩
theorem k29_ok : TiOk Tryz.prog 29 k29 := tiOk Tryz.type29 Tryz.underlying29 rfl (by kernel_rfl)
noncomputable def k30 : TI := ⟨kindOf (TypeDesc.func #[27] #[4] false), Tryz.t30.size, Tryz.t30.bytes, Value.nilFunc, false⟩
theorem k30_ok : TiOk Tryz.prog 30 k30 := tiOk Tryz.type30 Tryz.underlying30 rfl (by kernel_rfl)
noncomputable def k31 : TI := ⟨kindOf (TypeDesc.func #[2] #[4] false), Tryz.t31.size, Tryz.t31.bytes, Value.nilFunc, false⟩
theorem k31_ok : TiOk Tryz.prog 31 k31 := tiOk Tryz.type31 Tryz.underlying31 rfl (by kernel_rfl)
noncomputable def k32 : TI := ⟨kindOf (TypeDesc.slice 42), Tryz.t32.size, Tryz.t32.bytes, (Value.slice none 0 0), false⟩
theorem k32_ok : TiOk Tryz.prog 32 k32 := tiOk Tryz.type32 Tryz.underlying32 rfl (by kernel_rfl)
noncomputable def k33 : TI := ⟨kindOf (TypeDesc.func #[35] #[4] false), Tryz.t33.size, Tryz.t33.bytes, Value.nilFunc, false⟩
theorem k33_ok : TiOk Tryz.prog 33 k33 := tiOk Tryz.type33 Tryz.underlying33 rfl (by kernel_rfl)
noncomputable def k34 : TI := ⟨kindOf (TypeDesc.struct #[{ name := "Key", type := 2, offset := 0, embedded := false, tag := "", pkgPath := "", byteOffset := 0 }, { name := "Time", type := 2, offset := 1, embedded := false, tag := "", pkgPath := "", byteOffset := 8 }, { name := "Value", type := 2, offset := 2, embedded := false, tag := "", pkgPath := "", byteOffset := 16 }]), Tryz.t34.size, Tryz.t34.bytes, (Value.agg #[Value.int IntKind.i64 0, Value.int IntKind.i64 0, Value.int IntKind.i64 0]), true⟩
theorem k34_ok : TiOk Tryz.prog 34 k34 := tiOkE Tryz.type34 Tryz.underlying34 rfl (by kernel_rfl) Tryz.stoodInHeld34 Tryz.eqGuardType34 (by kernel_rfl)
noncomputable def k35 : TI := ⟨kindOf (TypeDesc.struct #[{ name := "Key", type := 2, offset := 0, embedded := false, tag := "", pkgPath := "", byteOffset := 0 }, { name := "Time", type := 2, offset := 1, embedded := false, tag := "", pkgPath := "", byteOffset := 8 }, { name := "Value", type := 2, offset := 2, embedded := false, tag := "", pkgPath := "", byteOffset := 16 }]), Tryz.t35.size, Tryz.t35.bytes, (Value.agg #[Value.int IntKind.i64 0, Value.int IntKind.i64 0, Value.int IntKind.i64 0]), true⟩
theorem k35_ok : TiOk Tryz.prog 35 k35 := tiOkE Tryz.type35 Tryz.underlying35 rfl (by kernel_rfl) Tryz.stoodInHeld35 Tryz.eqGuardType35 (by kernel_rfl)
noncomputable def k36 : TI := ⟨kindOf (TypeDesc.struct #[{ name := "Start", type := 2, offset := 0, embedded := false, tag := "", pkgPath := "", byteOffset := 0 }, { name := "End", type := 2, offset := 1, embedded := false, tag := "", pkgPath := "", byteOffset := 8 }]), Tryz.t36.size, Tryz.t36.bytes, (Value.agg #[Value.int IntKind.i64 0, Value.int IntKind.i64 0]), true⟩
theorem k36_ok : TiOk Tryz.prog 36 k36 := tiOkE Tryz.type36 Tryz.underlying36 rfl (by kernel_rfl) Tryz.stoodInHeld36 Tryz.eqGuardType36 (by kernel_rfl)
noncomputable def k37 : TI := ⟨kindOf (TypeDesc.struct #[{ name := "Start", type := 2, offset := 0, embedded := false, tag := "", pkgPath := "", byteOffset := 0 }, { name := "End", type := 2, offset := 1, embedded := false, tag := "", pkgPath := "", byteOffset := 8 }]), Tryz.t37.size, Tryz.t37.bytes, (Value.agg #[Value.int IntKind.i64 0, Value.int IntKind.i64 0]), true⟩
theorem k37_ok : TiOk Tryz.prog 37 k37 := tiOkE Tryz.type37 Tryz.underlying37 rfl (by kernel_rfl) Tryz.stoodInHeld37 Tryz.eqGuardType37 (by kernel_rfl)
noncomputable def k38 : TI := ⟨kindOf (TypeDesc.array 2 2), Tryz.t38.size, Tryz.t38.bytes, (Value.agg #[Value.int IntKind.i64 0, Value.int IntKind.i64 0]), false⟩
theorem k38_ok : TiOk Tryz.prog 38 k38 := tiOk Tryz.type38 Tryz.underlying38 rfl (by kernel_rfl)
noncomputable def k39 : TI := ⟨kindOf (TypeDesc.struct #[{ name := "Key", type := 2, offset := 0, embedded := false, tag := "", pkgPath := "", byteOffset := 0 }, { name := "Span", type := 37, offset := 1, embedded := false, tag := "", pkgPath := "", byteOffset := 8 }, { name := "Values", type := 38, offset := 3, embedded := false, tag := "", pkgPath := "", byteOffset := 24 }]), Tryz.t39.size, Tryz.t39.bytes, (Value.agg #[Value.int IntKind.i64 0, Value.int IntKind.i64 0, Value.int IntKind.i64 0, Value.int IntKind.i64 0, Value.int IntKind.i64 0]), true⟩
theorem k39_ok : TiOk Tryz.prog 39 k39 := tiOkE Tryz.type39 Tryz.underlying39 rfl (by kernel_rfl) Tryz.stoodInHeld39 Tryz.eqGuardType39 (by kernel_rfl)
noncomputable def k40 : TI := ⟨kindOf (TypeDesc.struct #[{ name := "Key", type := 2, offset := 0, embedded := false, tag := "", pkgPath := "", byteOffset := 0 }, { name := "Span", type := 37, offset := 1, embedded := false, tag := "", pkgPath := "", byteOffset := 8 }, { name := "Values", type := 38, offset := 3, embedded := false, tag := "", pkgPath := "", byteOffset := 24 }]), Tryz.t40.size, Tryz.t40.bytes, (Value.agg #[Value.int IntKind.i64 0, Value.int IntKind.i64 0, Value.int IntKind.i64 0, Value.int IntKind.i64 0, Value.int IntKind.i64 0]), true⟩
theorem k40_ok : TiOk Tryz.prog 40 k40 := tiOkE Tryz.type40 Tryz.underlying40 rfl (by kernel_rfl) Tryz.stoodInHeld40 Tryz.eqGuardType40 (by kernel_rfl)
noncomputable def k41 : TI := ⟨kindOf (TypeDesc.struct #[{ name := "Kind", type := 5, offset := 0, embedded := false, tag := "", pkgPath := "", byteOffset := 0 }, { name := "Record", type := 35, offset := 1, embedded := false, tag := "", pkgPath := "", byteOffset := 8 }, { name := "Time", type := 2, offset := 4, embedded := false, tag := "", pkgPath := "", byteOffset := 32 }, { name := "Row", type := 40, offset := 5, embedded := false, tag := "", pkgPath := "", byteOffset := 40 }]), Tryz.t41.size, Tryz.t41.bytes, (Value.agg #[Value.int IntKind.u8 0, Value.int IntKind.i64 0, Value.int IntKind.i64 0, Value.int IntKind.i64 0, Value.int IntKind.i64 0, Value.int IntKind.i64 0, Value.int IntKind.i64 0, Value.int IntKind.i64 0, Value.int IntKind.i64 0, Value.int IntKind.i64 0]), true⟩
theorem k41_ok : TiOk Tryz.prog 41 k41 := tiOkE Tryz.type41 Tryz.underlying41 rfl (by kernel_rfl) Tryz.stoodInHeld41 Tryz.eqGuardType41 (by kernel_rfl)
noncomputable def k42 : TI := ⟨kindOf (TypeDesc.struct #[{ name := "Kind", type := 5, offset := 0, embedded := false, tag := "", pkgPath := "", byteOffset := 0 }, { name := "Record", type := 35, offset := 1, embedded := false, tag := "", pkgPath := "", byteOffset := 8 }, { name := "Time", type := 2, offset := 4, embedded := false, tag := "", pkgPath := "", byteOffset := 32 }, { name := "Row", type := 40, offset := 5, embedded := false, tag := "", pkgPath := "", byteOffset := 40 }]), Tryz.t42.size, Tryz.t42.bytes, (Value.agg #[Value.int IntKind.u8 0, Value.int IntKind.i64 0, Value.int IntKind.i64 0, Value.int IntKind.i64 0, Value.int IntKind.i64 0, Value.int IntKind.i64 0, Value.int IntKind.i64 0, Value.int IntKind.i64 0, Value.int IntKind.i64 0, Value.int IntKind.i64 0]), true⟩
theorem k42_ok : TiOk Tryz.prog 42 k42 := tiOkE Tryz.type42 Tryz.underlying42 rfl (by kernel_rfl) Tryz.stoodInHeld42 Tryz.eqGuardType42 (by kernel_rfl)
noncomputable def k43 : TI := ⟨kindOf (TypeDesc.func #[2] #[42] false), Tryz.t43.size, Tryz.t43.bytes, Value.nilFunc, false⟩
theorem k43_ok : TiOk Tryz.prog 43 k43 := tiOk Tryz.type43 Tryz.underlying43 rfl (by kernel_rfl)
noncomputable def k44 : TI := ⟨kindOf (TypeDesc.struct #[{ name := "Kind", type := 5, offset := 0, embedded := false, tag := "", pkgPath := "", byteOffset := 0 }, { name := "N", type := 3, offset := 1, embedded := false, tag := "", pkgPath := "", byteOffset := 8 }]), Tryz.t44.size, Tryz.t44.bytes, (Value.agg #[Value.int IntKind.u8 0, Value.int IntKind.i64 0]), true⟩
theorem k44_ok : TiOk Tryz.prog 44 k44 := tiOkE Tryz.type44 Tryz.underlying44 rfl (by kernel_rfl) Tryz.stoodInHeld44 Tryz.eqGuardType44 (by kernel_rfl)
noncomputable def k45 : TI := ⟨kindOf (TypeDesc.struct #[{ name := "Kind", type := 5, offset := 0, embedded := false, tag := "", pkgPath := "", byteOffset := 0 }, { name := "N", type := 3, offset := 1, embedded := false, tag := "", pkgPath := "", byteOffset := 8 }]), Tryz.t45.size, Tryz.t45.bytes, (Value.agg #[Value.int IntKind.u8 0, Value.int IntKind.i64 0]), true⟩
theorem k45_ok : TiOk Tryz.prog 45 k45 := tiOkE Tryz.type45 Tryz.underlying45 rfl (by kernel_rfl) Tryz.stoodInHeld45 Tryz.eqGuardType45 (by kernel_rfl)
noncomputable def k46 : TI := ⟨kindOf (TypeDesc.slice 80), Tryz.t46.size, Tryz.t46.bytes, (Value.slice none 0 0), false⟩
theorem k46_ok : TiOk Tryz.prog 46 k46 := tiOk Tryz.type46 Tryz.underlying46 rfl (by kernel_rfl)
noncomputable def k47 : TI := ⟨kindOf (TypeDesc.slice 2), Tryz.t47.size, Tryz.t47.bytes, (Value.slice none 0 0), false⟩
theorem k47_ok : TiOk Tryz.prog 47 k47 := tiOk Tryz.type47 Tryz.underlying47 rfl (by kernel_rfl)
noncomputable def k48 : TI := ⟨kindOf (TypeDesc.slice 62), Tryz.t48.size, Tryz.t48.bytes, (Value.slice none 0 0), false⟩
theorem k48_ok : TiOk Tryz.prog 48 k48 := tiOk Tryz.type48 Tryz.underlying48 rfl (by kernel_rfl)
noncomputable def k49 : TI := ⟨kindOf (TypeDesc.slice 114), Tryz.t49.size, Tryz.t49.bytes, (Value.slice none 0 0), false⟩
theorem k49_ok : TiOk Tryz.prog 49 k49 := tiOk Tryz.type49 Tryz.underlying49 rfl (by kernel_rfl)
noncomputable def k50 : TI := ⟨kindOf (TypeDesc.slice 40), Tryz.t50.size, Tryz.t50.bytes, (Value.slice none 0 0), false⟩
theorem k50_ok : TiOk Tryz.prog 50 k50 := tiOk Tryz.type50 Tryz.underlying50 rfl (by kernel_rfl)
noncomputable def k51 : TI := ⟨kindOf (TypeDesc.struct #[{ name := "Op", type := 45, offset := 0, embedded := false, tag := "", pkgPath := "", byteOffset := 0 }, { name := "Turn", type := 3, offset := 2, embedded := false, tag := "", pkgPath := "", byteOffset := 16 }, { name := "Pending", type := 46, offset := 3, embedded := false, tag := "", pkgPath := "", byteOffset := 24 }, { name := "Marks", type := 47, offset := 4, embedded := false, tag := "", pkgPath := "", byteOffset := 48 }, { name := "Store", type := 48, offset := 5, embedded := false, tag := "", pkgPath := "", byteOffset := 72 }, { name := "Events", type := 49, offset := 6, embedded := false, tag := "", pkgPath := "", byteOffset := 96 }, { name := "Rows", type := 50, offset := 7, embedded := false, tag := "", pkgPath := "", byteOffset := 120 }, { name := "Late", type := 28, offset := 8, embedded := false, tag := "", pkgPath := "", byteOffset := 144 }]), Tryz.t51.size, Tryz.t51.bytes, (Value.agg #[Value.int IntKind.u8 0, Value.int IntKind.i64 0, Value.int IntKind.i64 0, Value.slice none 0 0, Value.slice none 0 0, Value.slice none 0 0, Value.slice none 0 0, Value.slice none 0 0, Value.slice none 0 0]), false⟩
theorem k51_ok : TiOk Tryz.prog 51 k51 := tiOk Tryz.type51 Tryz.underlying51 rfl (by kernel_rfl)
noncomputable def k52 : TI := ⟨kindOf (TypeDesc.struct #[{ name := "Op", type := 45, offset := 0, embedded := false, tag := "", pkgPath := "", byteOffset := 0 }, { name := "Turn", type := 3, offset := 2, embedded := false, tag := "", pkgPath := "", byteOffset := 16 }, { name := "Pending", type := 46, offset := 3, embedded := false, tag := "", pkgPath := "", byteOffset := 24 }, { name := "Marks", type := 47, offset := 4, embedded := false, tag := "", pkgPath := "", byteOffset := 48 }, { name := "Store", type := 48, offset := 5, embedded := false, tag := "", pkgPath := "", byteOffset := 72 }, { name := "Events", type := 49, offset := 6, embedded := false, tag := "", pkgPath := "", byteOffset := 96 }, { name := "Rows", type := 50, offset := 7, embedded := false, tag := "", pkgPath := "", byteOffset := 120 }, { name := "Late", type := 28, offset := 8, embedded := false, tag := "", pkgPath := "", byteOffset := 144 }]), Tryz.t52.size, Tryz.t52.bytes, (Value.agg #[Value.int IntKind.u8 0, Value.int IntKind.i64 0, Value.int IntKind.i64 0, Value.slice none 0 0, Value.slice none 0 0, Value.slice none 0 0, Value.slice none 0 0, Value.slice none 0 0, Value.slice none 0 0]), false⟩
theorem k52_ok : TiOk Tryz.prog 52 k52 := tiOk Tryz.type52 Tryz.underlying52 rfl (by kernel_rfl)
noncomputable def k54 : TI := ⟨kindOf (TypeDesc.func #[27, 23, 32] #[52, 50, 4] false), Tryz.t54.size, Tryz.t54.bytes, Value.nilFunc, false⟩
theorem k54_ok : TiOk Tryz.prog 54 k54 := tiOk Tryz.type54 Tryz.underlying54 rfl (by kernel_rfl)
noncomputable def k55 : TI := ⟨kindOf (TypeDesc.func #[27, 23, 28, 2] #[4] false), Tryz.t55.size, Tryz.t55.bytes, Value.nilFunc, false⟩
theorem k55_ok : TiOk Tryz.prog 55 k55 := tiOk Tryz.type55 Tryz.underlying55 rfl (by kernel_rfl)
noncomputable def k56 : TI := ⟨kindOf (TypeDesc.func #[50, 50] #[4] true), Tryz.t56.size, Tryz.t56.bytes, Value.nilFunc, false⟩
theorem k56_ok : TiOk Tryz.prog 56 k56 := tiOk Tryz.type56 Tryz.underlying56 rfl (by kernel_rfl)
noncomputable def k57 : TI := ⟨kindOf (TypeDesc.func #[27, 23, 28] #[4] false), Tryz.t57.size, Tryz.t57.bytes, Value.nilFunc, false⟩
theorem k57_ok : TiOk Tryz.prog 57 k57 := tiOk Tryz.type57 Tryz.underlying57 rfl (by kernel_rfl)
noncomputable def k58 : TI := ⟨kindOf (TypeDesc.struct #[{ name := "Count", type := 2, offset := 0, embedded := false, tag := "", pkgPath := "", byteOffset := 0 }, { name := "Sum", type := 2, offset := 1, embedded := false, tag := "", pkgPath := "", byteOffset := 8 }, { name := "Min", type := 2, offset := 2, embedded := false, tag := "", pkgPath := "", byteOffset := 16 }, { name := "Max", type := 2, offset := 3, embedded := false, tag := "", pkgPath := "", byteOffset := 24 }]), Tryz.t58.size, Tryz.t58.bytes, (Value.agg #[Value.int IntKind.i64 0, Value.int IntKind.i64 0, Value.int IntKind.i64 0, Value.int IntKind.i64 0]), true⟩
theorem k58_ok : TiOk Tryz.prog 58 k58 := tiOkE Tryz.type58 Tryz.underlying58 rfl (by kernel_rfl) Tryz.stoodInHeld58 Tryz.eqGuardType58 (by kernel_rfl)
noncomputable def k59 : TI := ⟨kindOf (TypeDesc.struct #[{ name := "Count", type := 2, offset := 0, embedded := false, tag := "", pkgPath := "", byteOffset := 0 }, { name := "Sum", type := 2, offset := 1, embedded := false, tag := "", pkgPath := "", byteOffset := 8 }, { name := "Min", type := 2, offset := 2, embedded := false, tag := "", pkgPath := "", byteOffset := 16 }, { name := "Max", type := 2, offset := 3, embedded := false, tag := "", pkgPath := "", byteOffset := 24 }]), Tryz.t59.size, Tryz.t59.bytes, (Value.agg #[Value.int IntKind.i64 0, Value.int IntKind.i64 0, Value.int IntKind.i64 0, Value.int IntKind.i64 0]), true⟩
theorem k59_ok : TiOk Tryz.prog 59 k59 := tiOkE Tryz.type59 Tryz.underlying59 rfl (by kernel_rfl) Tryz.stoodInHeld59 Tryz.eqGuardType59 (by kernel_rfl)
noncomputable def k60 : TI := ⟨kindOf (TypeDesc.array 2 59), Tryz.t60.size, Tryz.t60.bytes, (Value.agg #[Value.int IntKind.i64 0, Value.int IntKind.i64 0, Value.int IntKind.i64 0, Value.int IntKind.i64 0, Value.int IntKind.i64 0, Value.int IntKind.i64 0, Value.int IntKind.i64 0, Value.int IntKind.i64 0]), false⟩
theorem k60_ok : TiOk Tryz.prog 60 k60 := tiOk Tryz.type60 Tryz.underlying60 rfl (by kernel_rfl)
noncomputable def k61 : TI := ⟨kindOf (TypeDesc.struct #[{ name := "Key", type := 2, offset := 0, embedded := false, tag := "", pkgPath := "", byteOffset := 0 }, { name := "Span", type := 37, offset := 1, embedded := false, tag := "", pkgPath := "", byteOffset := 8 }, { name := "Values", type := 60, offset := 3, embedded := false, tag := "", pkgPath := "", byteOffset := 24 }]), Tryz.t61.size, Tryz.t61.bytes, (Value.agg #[Value.int IntKind.i64 0, Value.int IntKind.i64 0, Value.int IntKind.i64 0, Value.int IntKind.i64 0, Value.int IntKind.i64 0, Value.int IntKind.i64 0, Value.int IntKind.i64 0, Value.int IntKind.i64 0, Value.int IntKind.i64 0, Value.int IntKind.i64 0, Value.int IntKind.i64 0]), true⟩
theorem k61_ok : TiOk Tryz.prog 61 k61 := tiOkE Tryz.type61 Tryz.underlying61 rfl (by kernel_rfl) Tryz.stoodInHeld61 Tryz.eqGuardType61 (by kernel_rfl)
noncomputable def k62 : TI := ⟨kindOf (TypeDesc.struct #[{ name := "Key", type := 2, offset := 0, embedded := false, tag := "", pkgPath := "", byteOffset := 0 }, { name := "Span", type := 37, offset := 1, embedded := false, tag := "", pkgPath := "", byteOffset := 8 }, { name := "Values", type := 60, offset := 3, embedded := false, tag := "", pkgPath := "", byteOffset := 24 }]), Tryz.t62.size, Tryz.t62.bytes, (Value.agg #[Value.int IntKind.i64 0, Value.int IntKind.i64 0, Value.int IntKind.i64 0, Value.int IntKind.i64 0, Value.int IntKind.i64 0, Value.int IntKind.i64 0, Value.int IntKind.i64 0, Value.int IntKind.i64 0, Value.int IntKind.i64 0, Value.int IntKind.i64 0, Value.int IntKind.i64 0]), true⟩
theorem k62_ok : TiOk Tryz.prog 62 k62 := tiOkE Tryz.type62 Tryz.underlying62 rfl (by kernel_rfl) Tryz.stoodInHeld62 Tryz.eqGuardType62 (by kernel_rfl)
noncomputable def k63 : TI := ⟨kindOf (TypeDesc.func #[52] #[4] false), Tryz.t63.size, Tryz.t63.bytes, Value.nilFunc, false⟩
theorem k63_ok : TiOk Tryz.prog 63 k63 := tiOk Tryz.type63 Tryz.underlying63 rfl (by kernel_rfl)
noncomputable def k64 : TI := ⟨kindOf (TypeDesc.func #[52] #[52] false), Tryz.t64.size, Tryz.t64.bytes, Value.nilFunc, false⟩
theorem k64_ok : TiOk Tryz.prog 64 k64 := tiOk Tryz.type64 Tryz.underlying64 rfl (by kernel_rfl)
noncomputable def k65 : TI := ⟨kindOf (TypeDesc.int IntKind.i64), Tryz.t65.size, Tryz.t65.bytes, (Value.int IntKind.i64 0), false⟩
theorem k65_ok : TiOk Tryz.prog 65 k65 := tiOk Tryz.type65 Tryz.underlying65 rfl (by kernel_rfl)
noncomputable def k67 : TI := ⟨kindOf (TypeDesc.func #[27, 52, 3, 42] #[52, 65] false), Tryz.t67.size, Tryz.t67.bytes, Value.nilFunc, false⟩
theorem k67_ok : TiOk Tryz.prog 67 k67 := tiOk Tryz.type67 Tryz.underlying67 rfl (by kernel_rfl)
noncomputable def k69 : TI := ⟨kindOf (TypeDesc.func #[27, 52, 3, 42] #[52, 3] false), Tryz.t69.size, Tryz.t69.bytes, Value.nilFunc, false⟩
theorem k69_ok : TiOk Tryz.prog 69 k69 := tiOk Tryz.type69 Tryz.underlying69 rfl (by kernel_rfl)
noncomputable def k70 : TI := ⟨kindOf (TypeDesc.func #[3] #[52, 65] false), Tryz.t70.size, Tryz.t70.bytes, Value.nilFunc, false⟩
theorem k70_ok : TiOk Tryz.prog 70 k70 := tiOk Tryz.type70 Tryz.underlying70 rfl (by kernel_rfl)
noncomputable def k71 : TI := ⟨kindOf (TypeDesc.func #[3] #[52, 3] false), Tryz.t71.size, Tryz.t71.bytes, Value.nilFunc, false⟩
theorem k71_ok : TiOk Tryz.prog 71 k71 := tiOk Tryz.type71 Tryz.underlying71 rfl (by kernel_rfl)
noncomputable def k73 : TI := ⟨kindOf (TypeDesc.func #[27, 62] #[40, 4, 65] false), Tryz.t73.size, Tryz.t73.bytes, Value.nilFunc, false⟩
theorem k73_ok : TiOk Tryz.prog 73 k73 := tiOk Tryz.type73 Tryz.underlying73 rfl (by kernel_rfl)
noncomputable def k75 : TI := ⟨kindOf (TypeDesc.func #[27, 62] #[40, 4, 3] false), Tryz.t75.size, Tryz.t75.bytes, Value.nilFunc, false⟩
theorem k75_ok : TiOk Tryz.prog 75 k75 := tiOk Tryz.type75 Tryz.underlying75 rfl (by kernel_rfl)
noncomputable def k76 : TI := ⟨kindOf (TypeDesc.func #[52, 52] #[4] false), Tryz.t76.size, Tryz.t76.bytes, Value.nilFunc, false⟩
theorem k76_ok : TiOk Tryz.prog 76 k76 := tiOk Tryz.type76 Tryz.underlying76 rfl (by kernel_rfl)
noncomputable def k77 : TI := ⟨kindOf (TypeDesc.func #[27, 52, 3, 42, 3, 62] #[4] false), Tryz.t77.size, Tryz.t77.bytes, Value.nilFunc, false⟩
theorem k77_ok : TiOk Tryz.prog 77 k77 := tiOk Tryz.type77 Tryz.underlying77 rfl (by kernel_rfl)
noncomputable def k78 : TI := ⟨kindOf (TypeDesc.func #[] #[27] false), Tryz.t78.size, Tryz.t78.bytes, Value.nilFunc, false⟩
theorem k78_ok : TiOk Tryz.prog 78 k78 := tiOk Tryz.type78 Tryz.underlying78 rfl (by kernel_rfl)
noncomputable def k79 : TI := ⟨kindOf (TypeDesc.struct #[{ name := "Out", type := 3, offset := 0, embedded := false, tag := "", pkgPath := "", byteOffset := 0 }, { name := "Message", type := 42, offset := 1, embedded := false, tag := "", pkgPath := "", byteOffset := 8 }]), Tryz.t79.size, Tryz.t79.bytes, (Value.agg #[Value.int IntKind.i64 0, Value.int IntKind.u8 0, Value.int IntKind.i64 0, Value.int IntKind.i64 0, Value.int IntKind.i64 0, Value.int IntKind.i64 0, Value.int IntKind.i64 0, Value.int IntKind.i64 0, Value.int IntKind.i64 0, Value.int IntKind.i64 0, Value.int IntKind.i64 0]), true⟩
theorem k79_ok : TiOk Tryz.prog 79 k79 := tiOkE Tryz.type79 Tryz.underlying79 rfl (by kernel_rfl) Tryz.stoodInHeld79 Tryz.eqGuardType79 (by kernel_rfl)
noncomputable def k80 : TI := ⟨kindOf (TypeDesc.struct #[{ name := "Out", type := 3, offset := 0, embedded := false, tag := "", pkgPath := "", byteOffset := 0 }, { name := "Message", type := 42, offset := 1, embedded := false, tag := "", pkgPath := "", byteOffset := 8 }]), Tryz.t80.size, Tryz.t80.bytes, (Value.agg #[Value.int IntKind.i64 0, Value.int IntKind.u8 0, Value.int IntKind.i64 0, Value.int IntKind.i64 0, Value.int IntKind.i64 0, Value.int IntKind.i64 0, Value.int IntKind.i64 0, Value.int IntKind.i64 0, Value.int IntKind.i64 0, Value.int IntKind.i64 0, Value.int IntKind.i64 0]), true⟩
theorem k80_ok : TiOk Tryz.prog 80 k80 := tiOkE Tryz.type80 Tryz.underlying80 rfl (by kernel_rfl) Tryz.stoodInHeld80 Tryz.eqGuardType80 (by kernel_rfl)
noncomputable def k81 : TI := ⟨kindOf (TypeDesc.func #[2, 2, 2, 2] #[40] false), Tryz.t81.size, Tryz.t81.bytes, Value.nilFunc, false⟩
theorem k81_ok : TiOk Tryz.prog 81 k81 := tiOk Tryz.type81 Tryz.underlying81 rfl (by kernel_rfl)
noncomputable def k82 : TI := ⟨kindOf (TypeDesc.func #[2, 2, 2] #[42] false), Tryz.t82.size, Tryz.t82.bytes, Value.nilFunc, false⟩
theorem k82_ok : TiOk Tryz.prog 82 k82 := tiOk Tryz.type82 Tryz.underlying82 rfl (by kernel_rfl)
noncomputable def k84 : TI := ⟨kindOf (TypeDesc.func #[47] #[2, 65] false), Tryz.t84.size, Tryz.t84.bytes, Value.nilFunc, false⟩
theorem k84_ok : TiOk Tryz.prog 84 k84 := tiOk Tryz.type84 Tryz.underlying84 rfl (by kernel_rfl)
noncomputable def k86 : TI := ⟨kindOf (TypeDesc.func #[48, 25, 35, 3] #[48, 65] false), Tryz.t86.size, Tryz.t86.bytes, Value.nilFunc, false⟩
theorem k86_ok : TiOk Tryz.prog 86 k86 := tiOk Tryz.type86 Tryz.underlying86 rfl (by kernel_rfl)
noncomputable def k87 : TI := ⟨kindOf (TypeDesc.func #[48, 48] #[4] false), Tryz.t87.size, Tryz.t87.bytes, Value.nilFunc, false⟩
theorem k87_ok : TiOk Tryz.prog 87 k87 := tiOk Tryz.type87 Tryz.underlying87 rfl (by kernel_rfl)
noncomputable def k88 : TI := ⟨kindOf (TypeDesc.func #[27, 52, 52, 2, 2] #[4] false), Tryz.t88.size, Tryz.t88.bytes, Value.nilFunc, false⟩
theorem k88_ok : TiOk Tryz.prog 88 k88 := tiOk Tryz.type88 Tryz.underlying88 rfl (by kernel_rfl)
noncomputable def k89 : TI := ⟨kindOf (TypeDesc.func #[27, 23, 32] #[4] false), Tryz.t89.size, Tryz.t89.bytes, Value.nilFunc, false⟩
theorem k89_ok : TiOk Tryz.prog 89 k89 := tiOk Tryz.type89 Tryz.underlying89 rfl (by kernel_rfl)
noncomputable def k91 : TI := ⟨kindOf (TypeDesc.func #[27] #[3, 3] false), Tryz.t91.size, Tryz.t91.bytes, Value.nilFunc, false⟩
theorem k91_ok : TiOk Tryz.prog 91 k91 := tiOk Tryz.type91 Tryz.underlying91 rfl (by kernel_rfl)
noncomputable def k92 : TI := ⟨kindOf (TypeDesc.func #[52] #[65] false), Tryz.t92.size, Tryz.t92.bytes, Value.nilFunc, false⟩
theorem k92_ok : TiOk Tryz.prog 92 k92 := tiOk Tryz.type92 Tryz.underlying92 rfl (by kernel_rfl)
noncomputable def k93 : TI := ⟨kindOf (TypeDesc.func #[42] #[65] false), Tryz.t93.size, Tryz.t93.bytes, Value.nilFunc, false⟩
theorem k93_ok : TiOk Tryz.prog 93 k93 := tiOk Tryz.type93 Tryz.underlying93 rfl (by kernel_rfl)
noncomputable def k94 : TI := ⟨kindOf (TypeDesc.func #[52, 46] #[52, 65] false), Tryz.t94.size, Tryz.t94.bytes, Value.nilFunc, false⟩
theorem k94_ok : TiOk Tryz.prog 94 k94 := tiOk Tryz.type94 Tryz.underlying94 rfl (by kernel_rfl)
noncomputable def k96 : TI := ⟨kindOf (TypeDesc.func #[47, 3, 2] #[47, 4, 65] false), Tryz.t96.size, Tryz.t96.bytes, Value.nilFunc, false⟩
theorem k96_ok : TiOk Tryz.prog 96 k96 := tiOk Tryz.type96 Tryz.underlying96 rfl (by kernel_rfl)
noncomputable def k98 : TI := ⟨kindOf (TypeDesc.func #[48, 2] #[48, 48, 65] false), Tryz.t98.size, Tryz.t98.bytes, Value.nilFunc, false⟩
theorem k98_ok : TiOk Tryz.prog 98 k98 := tiOk Tryz.type98 Tryz.underlying98 rfl (by kernel_rfl)
noncomputable def k100 : TI := ⟨kindOf (TypeDesc.func #[27, 62] #[40, 4] false), Tryz.t100.size, Tryz.t100.bytes, Value.nilFunc, false⟩
theorem k100_ok : TiOk Tryz.prog 100 k100 := tiOk Tryz.type100 Tryz.underlying100 rfl (by kernel_rfl)
noncomputable def k101 : TI := ⟨kindOf (TypeDesc.func #[52, 5, 3, 42] #[3] false), Tryz.t101.size, Tryz.t101.bytes, Value.nilFunc, false⟩
theorem k101_ok : TiOk Tryz.prog 101 k101 := tiOk Tryz.type101 Tryz.underlying101 rfl (by kernel_rfl)
noncomputable def k103 : TI := ⟨kindOf (TypeDesc.func #[48, 25, 35, 3] #[48, 3] false), Tryz.t103.size, Tryz.t103.bytes, Value.nilFunc, false⟩
theorem k103_ok : TiOk Tryz.prog 103 k103 := tiOk Tryz.type103 Tryz.underlying103 rfl (by kernel_rfl)
noncomputable def k105 : TI := ⟨kindOf (TypeDesc.func #[52, 3, 2] #[52, 48, 4] false), Tryz.t105.size, Tryz.t105.bytes, Value.nilFunc, false⟩
theorem k105_ok : TiOk Tryz.prog 105 k105 := tiOk Tryz.type105 Tryz.underlying105 rfl (by kernel_rfl)
noncomputable def k107 : TI := ⟨kindOf (TypeDesc.func #[3] #[47, 65] false), Tryz.t107.size, Tryz.t107.bytes, Value.nilFunc, false⟩
theorem k107_ok : TiOk Tryz.prog 107 k107 := tiOk Tryz.type107 Tryz.underlying107 rfl (by kernel_rfl)
noncomputable def k109 : TI := ⟨kindOf (TypeDesc.func #[3] #[47, 3] false), Tryz.t109.size, Tryz.t109.bytes, Value.nilFunc, false⟩
theorem k109_ok : TiOk Tryz.prog 109 k109 := tiOk Tryz.type109 Tryz.underlying109 rfl (by kernel_rfl)
noncomputable def k110 : TI := ⟨kindOf (TypeDesc.func #[48] #[65] false), Tryz.t110.size, Tryz.t110.bytes, Value.nilFunc, false⟩
theorem k110_ok : TiOk Tryz.prog 110 k110 := tiOk Tryz.type110 Tryz.underlying110 rfl (by kernel_rfl)
noncomputable def k111 : TI := ⟨kindOf (TypeDesc.func #[48] #[3] false), Tryz.t111.size, Tryz.t111.bytes, Value.nilFunc, false⟩
theorem k111_ok : TiOk Tryz.prog 111 k111 := tiOk Tryz.type111 Tryz.underlying111 rfl (by kernel_rfl)
noncomputable def k112 : TI := ⟨kindOf (TypeDesc.func #[46, 46] #[4] false), Tryz.t112.size, Tryz.t112.bytes, Value.nilFunc, false⟩
theorem k112_ok : TiOk Tryz.prog 112 k112 := tiOk Tryz.type112 Tryz.underlying112 rfl (by kernel_rfl)
noncomputable def k113 : TI := ⟨kindOf (TypeDesc.struct #[{ name := "Mark", type := 4, offset := 0, embedded := false, tag := "", pkgPath := "", byteOffset := 0 }, { name := "Time", type := 2, offset := 1, embedded := false, tag := "", pkgPath := "", byteOffset := 8 }, { name := "Record", type := 35, offset := 2, embedded := false, tag := "", pkgPath := "", byteOffset := 16 }]), Tryz.t113.size, Tryz.t113.bytes, (Value.agg #[Value.bool false, Value.int IntKind.i64 0, Value.int IntKind.i64 0, Value.int IntKind.i64 0, Value.int IntKind.i64 0]), true⟩
theorem k113_ok : TiOk Tryz.prog 113 k113 := tiOkE Tryz.type113 Tryz.underlying113 rfl (by kernel_rfl) Tryz.stoodInHeld113 Tryz.eqGuardType113 (by kernel_rfl)
noncomputable def k114 : TI := ⟨kindOf (TypeDesc.struct #[{ name := "Mark", type := 4, offset := 0, embedded := false, tag := "", pkgPath := "", byteOffset := 0 }, { name := "Time", type := 2, offset := 1, embedded := false, tag := "", pkgPath := "", byteOffset := 8 }, { name := "Record", type := 35, offset := 2, embedded := false, tag := "", pkgPath := "", byteOffset := 16 }]), Tryz.t114.size, Tryz.t114.bytes, (Value.agg #[Value.bool false, Value.int IntKind.i64 0, Value.int IntKind.i64 0, Value.int IntKind.i64 0, Value.int IntKind.i64 0]), true⟩
theorem k114_ok : TiOk Tryz.prog 114 k114 := tiOkE Tryz.type114 Tryz.underlying114 rfl (by kernel_rfl) Tryz.stoodInHeld114 Tryz.eqGuardType114 (by kernel_rfl)
noncomputable def k115 : TI := ⟨kindOf (TypeDesc.struct #[{ name := "Kind", type := 5, offset := 0, embedded := false, tag := "", pkgPath := "", byteOffset := 0 }, { name := "N", type := 2, offset := 1, embedded := false, tag := "", pkgPath := "", byteOffset := 8 }, { name := "A", type := 3, offset := 2, embedded := false, tag := "", pkgPath := "", byteOffset := 16 }, { name := "B", type := 3, offset := 3, embedded := false, tag := "", pkgPath := "", byteOffset := 24 }, { name := "At", type := 3, offset := 4, embedded := false, tag := "", pkgPath := "", byteOffset := 32 }]), Tryz.t115.size, Tryz.t115.bytes, (Value.agg #[Value.int IntKind.u8 0, Value.int IntKind.i64 0, Value.int IntKind.i64 0, Value.int IntKind.i64 0, Value.int IntKind.i64 0]), true⟩
theorem k115_ok : TiOk Tryz.prog 115 k115 := tiOkE Tryz.type115 Tryz.underlying115 rfl (by kernel_rfl) Tryz.stoodInHeld115 Tryz.eqGuardType115 (by kernel_rfl)
noncomputable def k116 : TI := ⟨kindOf (TypeDesc.struct #[{ name := "Kind", type := 5, offset := 0, embedded := false, tag := "", pkgPath := "", byteOffset := 0 }, { name := "N", type := 2, offset := 1, embedded := false, tag := "", pkgPath := "", byteOffset := 8 }, { name := "A", type := 3, offset := 2, embedded := false, tag := "", pkgPath := "", byteOffset := 16 }, { name := "B", type := 3, offset := 3, embedded := false, tag := "", pkgPath := "", byteOffset := 24 }, { name := "At", type := 3, offset := 4, embedded := false, tag := "", pkgPath := "", byteOffset := 32 }]), Tryz.t116.size, Tryz.t116.bytes, (Value.agg #[Value.int IntKind.u8 0, Value.int IntKind.i64 0, Value.int IntKind.i64 0, Value.int IntKind.i64 0, Value.int IntKind.i64 0]), true⟩
theorem k116_ok : TiOk Tryz.prog 116 k116 := tiOkE Tryz.type116 Tryz.underlying116 rfl (by kernel_rfl) Tryz.stoodInHeld116 Tryz.eqGuardType116 (by kernel_rfl)
noncomputable def k117 : TI := ⟨kindOf (TypeDesc.func #[47] #[65] false), Tryz.t117.size, Tryz.t117.bytes, Value.nilFunc, false⟩
theorem k117_ok : TiOk Tryz.prog 117 k117 := tiOk Tryz.type117 Tryz.underlying117 rfl (by kernel_rfl)
noncomputable def k118 : TI := ⟨kindOf (TypeDesc.func #[47] #[2] false), Tryz.t118.size, Tryz.t118.bytes, Value.nilFunc, false⟩
theorem k118_ok : TiOk Tryz.prog 118 k118 := tiOk Tryz.type118 Tryz.underlying118 rfl (by kernel_rfl)
noncomputable def k119 : TI := ⟨kindOf (TypeDesc.func #[25] #[65] false), Tryz.t119.size, Tryz.t119.bytes, Value.nilFunc, false⟩
theorem k119_ok : TiOk Tryz.prog 119 k119 := tiOk Tryz.type119 Tryz.underlying119 rfl (by kernel_rfl)
noncomputable def k120 : TI := ⟨kindOf (TypeDesc.func #[2] #[59] false), Tryz.t120.size, Tryz.t120.bytes, Value.nilFunc, false⟩
theorem k120_ok : TiOk Tryz.prog 120 k120 := tiOk Tryz.type120 Tryz.underlying120 rfl (by kernel_rfl)
noncomputable def k121 : TI := ⟨kindOf (TypeDesc.func #[48] #[48] false), Tryz.t121.size, Tryz.t121.bytes, Value.nilFunc, false⟩
theorem k121_ok : TiOk Tryz.prog 121 k121 := tiOk Tryz.type121 Tryz.underlying121 rfl (by kernel_rfl)
noncomputable def k122 : TI := ⟨kindOf (TypeDesc.slice 37), Tryz.t122.size, Tryz.t122.bytes, (Value.slice none 0 0), false⟩
theorem k122_ok : TiOk Tryz.prog 122 k122 := tiOk Tryz.type122 Tryz.underlying122 rfl (by kernel_rfl)
noncomputable def k124 : TI := ⟨kindOf (TypeDesc.func #[47, 2] #[122, 65] false), Tryz.t124.size, Tryz.t124.bytes, Value.nilFunc, false⟩
theorem k124_ok : TiOk Tryz.prog 124 k124 := tiOk Tryz.type124 Tryz.underlying124 rfl (by kernel_rfl)
noncomputable def k125 : TI := ⟨kindOf (TypeDesc.func #[48, 62] #[48, 65] false), Tryz.t125.size, Tryz.t125.bytes, Value.nilFunc, false⟩
theorem k125_ok : TiOk Tryz.prog 125 k125 := tiOk Tryz.type125 Tryz.underlying125 rfl (by kernel_rfl)
noncomputable def k126 : TI := ⟨kindOf (TypeDesc.func #[25, 2] #[122, 65] false), Tryz.t126.size, Tryz.t126.bytes, Value.nilFunc, false⟩
theorem k126_ok : TiOk Tryz.prog 126 k126 := tiOk Tryz.type126 Tryz.underlying126 rfl (by kernel_rfl)
noncomputable def k127 : TI := ⟨kindOf (TypeDesc.func #[27] #[3] false), Tryz.t127.size, Tryz.t127.bytes, Value.nilFunc, false⟩
theorem k127_ok : TiOk Tryz.prog 127 k127 := tiOk Tryz.type127 Tryz.underlying127 rfl (by kernel_rfl)
noncomputable def k129 : TI := ⟨kindOf (TypeDesc.func #[27] #[3, 65] false), Tryz.t129.size, Tryz.t129.bytes, Value.nilFunc, false⟩
theorem k129_ok : TiOk Tryz.prog 129 k129 := tiOk Tryz.type129 Tryz.underlying129 rfl (by kernel_rfl)
noncomputable def k131 : TI := ⟨kindOf (TypeDesc.func #[5] #[3, 3, 4, 4, 4, 4] false), Tryz.t131.size, Tryz.t131.bytes, Value.nilFunc, false⟩
theorem k131_ok : TiOk Tryz.prog 131 k131 := tiOk Tryz.type131 Tryz.underlying131 rfl (by kernel_rfl)
noncomputable def k132 : TI := ⟨kindOf (TypeDesc.func #[4, 3] #[3] false), Tryz.t132.size, Tryz.t132.bytes, Value.nilFunc, false⟩
theorem k132_ok : TiOk Tryz.prog 132 k132 := tiOk Tryz.type132 Tryz.underlying132 rfl (by kernel_rfl)
noncomputable def k133 : TI := ⟨kindOf (TypeDesc.func #[46] #[4] false), Tryz.t133.size, Tryz.t133.bytes, Value.nilFunc, false⟩
theorem k133_ok : TiOk Tryz.prog 133 k133 := tiOk Tryz.type133 Tryz.underlying133 rfl (by kernel_rfl)
noncomputable def k134 : TI := ⟨kindOf (TypeDesc.func #[114] #[65] false), Tryz.t134.size, Tryz.t134.bytes, Value.nilFunc, false⟩
theorem k134_ok : TiOk Tryz.prog 134 k134 := tiOk Tryz.type134 Tryz.underlying134 rfl (by kernel_rfl)
noncomputable def k135 : TI := ⟨kindOf (TypeDesc.func #[47] #[47] false), Tryz.t135.size, Tryz.t135.bytes, Value.nilFunc, false⟩
theorem k135_ok : TiOk Tryz.prog 135 k135 := tiOk Tryz.type135 Tryz.underlying135 rfl (by kernel_rfl)
noncomputable def k136 : TI := ⟨kindOf (TypeDesc.func #[5, 59] #[2, 65] false), Tryz.t136.size, Tryz.t136.bytes, Value.nilFunc, false⟩
theorem k136_ok : TiOk Tryz.prog 136 k136 := tiOk Tryz.type136 Tryz.underlying136 rfl (by kernel_rfl)
noncomputable def k137 : TI := ⟨kindOf (TypeDesc.func #[52] #[3] false), Tryz.t137.size, Tryz.t137.bytes, Value.nilFunc, false⟩
theorem k137_ok : TiOk Tryz.prog 137 k137 := tiOk Tryz.type137 Tryz.underlying137 rfl (by kernel_rfl)
noncomputable def k138 : TI := ⟨kindOf (TypeDesc.func #[42] #[4] false), Tryz.t138.size, Tryz.t138.bytes, Value.nilFunc, false⟩
theorem k138_ok : TiOk Tryz.prog 138 k138 := tiOk Tryz.type138 Tryz.underlying138 rfl (by kernel_rfl)
noncomputable def k139 : TI := ⟨kindOf (TypeDesc.func #[25] #[3] false), Tryz.t139.size, Tryz.t139.bytes, Value.nilFunc, false⟩
theorem k139_ok : TiOk Tryz.prog 139 k139 := tiOk Tryz.type139 Tryz.underlying139 rfl (by kernel_rfl)
noncomputable def k140 : TI := ⟨kindOf (TypeDesc.func #[2, 2] #[3] false), Tryz.t140.size, Tryz.t140.bytes, Value.nilFunc, false⟩
theorem k140_ok : TiOk Tryz.prog 140 k140 := tiOk Tryz.type140 Tryz.underlying140 rfl (by kernel_rfl)
noncomputable def k142 : TI := ⟨kindOf (TypeDesc.func #[48, 25, 35, 3] #[48, 4] false), Tryz.t142.size, Tryz.t142.bytes, Value.nilFunc, false⟩
theorem k142_ok : TiOk Tryz.prog 142 k142 := tiOk Tryz.type142 Tryz.underlying142 rfl (by kernel_rfl)
noncomputable def k144 : TI := ⟨kindOf (TypeDesc.func #[47, 3, 2] #[47, 4] false), Tryz.t144.size, Tryz.t144.bytes, Value.nilFunc, false⟩
theorem k144_ok : TiOk Tryz.prog 144 k144 := tiOk Tryz.type144 Tryz.underlying144 rfl (by kernel_rfl)
noncomputable def k146 : TI := ⟨kindOf (TypeDesc.func #[48, 2] #[48, 48] false), Tryz.t146.size, Tryz.t146.bytes, Value.nilFunc, false⟩
theorem k146_ok : TiOk Tryz.prog 146 k146 := tiOk Tryz.type146 Tryz.underlying146 rfl (by kernel_rfl)
noncomputable def k147 : TI := ⟨kindOf (TypeDesc.func #[5, 59] #[2] false), Tryz.t147.size, Tryz.t147.bytes, Value.nilFunc, false⟩
theorem k147_ok : TiOk Tryz.prog 147 k147 := tiOk Tryz.type147 Tryz.underlying147 rfl (by kernel_rfl)
noncomputable def k148 : TI := ⟨kindOf (TypeDesc.func #[47, 3] #[47] false), Tryz.t148.size, Tryz.t148.bytes, Value.nilFunc, false⟩
theorem k148_ok : TiOk Tryz.prog 148 k148 := tiOk Tryz.type148 Tryz.underlying148 rfl (by kernel_rfl)
noncomputable def k149 : TI := ⟨kindOf (TypeDesc.func #[62] #[4] false), Tryz.t149.size, Tryz.t149.bytes, Value.nilFunc, false⟩
theorem k149_ok : TiOk Tryz.prog 149 k149 := tiOk Tryz.type149 Tryz.underlying149 rfl (by kernel_rfl)
noncomputable def k150 : TI := ⟨kindOf (TypeDesc.func #[62, 62] #[3] false), Tryz.t150.size, Tryz.t150.bytes, Value.nilFunc, false⟩
theorem k150_ok : TiOk Tryz.prog 150 k150 := tiOk Tryz.type150 Tryz.underlying150 rfl (by kernel_rfl)
noncomputable def k151 : TI := ⟨kindOf (TypeDesc.func #[59] #[3] false), Tryz.t151.size, Tryz.t151.bytes, Value.nilFunc, false⟩
theorem k151_ok : TiOk Tryz.prog 151 k151 := tiOk Tryz.type151 Tryz.underlying151 rfl (by kernel_rfl)
noncomputable def k152 : TI := ⟨kindOf (TypeDesc.func #[62, 62] #[4] false), Tryz.t152.size, Tryz.t152.bytes, Value.nilFunc, false⟩
theorem k152_ok : TiOk Tryz.prog 152 k152 := tiOk Tryz.type152 Tryz.underlying152 rfl (by kernel_rfl)
noncomputable def k153 : TI := ⟨kindOf (TypeDesc.func #[2, 2] #[65] false), Tryz.t153.size, Tryz.t153.bytes, Value.nilFunc, false⟩
theorem k153_ok : TiOk Tryz.prog 153 k153 := tiOk Tryz.type153 Tryz.underlying153 rfl (by kernel_rfl)
noncomputable def k154 : TI := ⟨kindOf (TypeDesc.func #[122] #[122] false), Tryz.t154.size, Tryz.t154.bytes, Value.nilFunc, false⟩
theorem k154_ok : TiOk Tryz.prog 154 k154 := tiOk Tryz.type154 Tryz.underlying154 rfl (by kernel_rfl)
noncomputable def k155 : TI := ⟨kindOf (TypeDesc.func #[48, 149] #[3] false), Tryz.t155.size, Tryz.t155.bytes, Value.nilFunc, false⟩
theorem k155_ok : TiOk Tryz.prog 155 k155 := tiOk Tryz.type155 Tryz.underlying155 rfl (by kernel_rfl)
noncomputable def k156 : TI := ⟨kindOf (TypeDesc.func #[157, 60] #[65] false), Tryz.t156.size, Tryz.t156.bytes, Value.nilFunc, false⟩
theorem k156_ok : TiOk Tryz.prog 156 k156 := tiOk Tryz.type156 Tryz.underlying156 rfl (by kernel_rfl)
noncomputable def k157 : TI := ⟨kindOf (TypeDesc.pointer 62), Tryz.t157.size, Tryz.t157.bytes, (Value.pointer none), false⟩
theorem k157_ok : TiOk Tryz.prog 157 k157 := tiOk Tryz.type157 Tryz.underlying157 rfl (by kernel_rfl)
noncomputable def k158 : TI := ⟨kindOf (TypeDesc.func #[48, 3, 3] #[48] false), Tryz.t158.size, Tryz.t158.bytes, Value.nilFunc, false⟩
theorem k158_ok : TiOk Tryz.prog 158 k158 := tiOk Tryz.type158 Tryz.underlying158 rfl (by kernel_rfl)
noncomputable def k160 : TI := ⟨kindOf (TypeDesc.func #[2, 2] #[37, 65] false), Tryz.t160.size, Tryz.t160.bytes, Value.nilFunc, false⟩
theorem k160_ok : TiOk Tryz.prog 160 k160 := tiOk Tryz.type160 Tryz.underlying160 rfl (by kernel_rfl)
noncomputable def k161 : TI := ⟨kindOf (TypeDesc.func #[2, 2, 2] #[122, 65] false), Tryz.t161.size, Tryz.t161.bytes, Value.nilFunc, false⟩
theorem k161_ok : TiOk Tryz.prog 161 k161 := tiOk Tryz.type161 Tryz.underlying161 rfl (by kernel_rfl)
noncomputable def k163 : TI := ⟨kindOf (TypeDesc.func #[48, 62, 150] #[3, 4] false), Tryz.t163.size, Tryz.t163.bytes, Value.nilFunc, false⟩
theorem k163_ok : TiOk Tryz.prog 163 k163 := tiOk Tryz.type163 Tryz.underlying163 rfl (by kernel_rfl)
noncomputable def k164 : TI := ⟨kindOf (TypeDesc.func #[48, 3, 48] #[48] true), Tryz.t164.size, Tryz.t164.bytes, Value.nilFunc, false⟩
theorem k164_ok : TiOk Tryz.prog 164 k164 := tiOk Tryz.type164 Tryz.underlying164 rfl (by kernel_rfl)
noncomputable def k165 : TI := ⟨kindOf (TypeDesc.func #[22] #[3] false), Tryz.t165.size, Tryz.t165.bytes, Value.nilFunc, false⟩
theorem k165_ok : TiOk Tryz.prog 165 k165 := tiOk Tryz.type165 Tryz.underlying165 rfl (by kernel_rfl)
noncomputable def k166 : TI := ⟨kindOf (TypeDesc.func #[23, 4] #[3] false), Tryz.t166.size, Tryz.t166.bytes, Value.nilFunc, false⟩
theorem k166_ok : TiOk Tryz.prog 166 k166 := tiOk Tryz.type166 Tryz.underlying166 rfl (by kernel_rfl)
noncomputable def k167 : TI := ⟨kindOf (TypeDesc.func #[25] #[4] false), Tryz.t167.size, Tryz.t167.bytes, Value.nilFunc, false⟩
theorem k167_ok : TiOk Tryz.prog 167 k167 := tiOk Tryz.type167 Tryz.underlying167 rfl (by kernel_rfl)
noncomputable def k168 : TI := ⟨kindOf (TypeDesc.func #[22, 4] #[3, 3] false), Tryz.t168.size, Tryz.t168.bytes, Value.nilFunc, false⟩
theorem k168_ok : TiOk Tryz.prog 168 k168 := tiOk Tryz.type168 Tryz.underlying168 rfl (by kernel_rfl)
noncomputable def k169 : TI := ⟨kindOf (TypeDesc.func #[27] #[65] false), Tryz.t169.size, Tryz.t169.bytes, Value.nilFunc, false⟩
theorem k169_ok : TiOk Tryz.prog 169 k169 := tiOk Tryz.type169 Tryz.underlying169 rfl (by kernel_rfl)
noncomputable def k170 : TI := ⟨kindOf (TypeDesc.func #[203] #[3, 65] true), Tryz.t170.size, Tryz.t170.bytes, Value.nilFunc, false⟩
theorem k170_ok : TiOk Tryz.prog 170 k170 := tiOk Tryz.type170 Tryz.underlying170 rfl (by kernel_rfl)
noncomputable def k171 : TI := ⟨kindOf (TypeDesc.func #[22] #[3, 65] false), Tryz.t171.size, Tryz.t171.bytes, Value.nilFunc, false⟩
theorem k171_ok : TiOk Tryz.prog 171 k171 := tiOk Tryz.type171 Tryz.underlying171 rfl (by kernel_rfl)
noncomputable def k172 : TI := ⟨kindOf (TypeDesc.struct #[{ name := "l", type := 22, offset := 0, embedded := false, tag := "", pkgPath := "tailwater/checks", byteOffset := 0 }, { name := "ask", type := 171, offset := 1, embedded := false, tag := "", pkgPath := "tailwater/checks", byteOffset := 24 }]), Tryz.t172.size, Tryz.t172.bytes, (Value.agg #[Value.slice none 0 0, Value.nilFunc]), false⟩
theorem k172_ok : TiOk Tryz.prog 172 k172 := tiOk Tryz.type172 Tryz.underlying172 rfl (by kernel_rfl)
noncomputable def k173 : TI := ⟨kindOf (TypeDesc.struct #[{ name := "l", type := 22, offset := 0, embedded := false, tag := "", pkgPath := "tailwater/checks", byteOffset := 0 }, { name := "ask", type := 171, offset := 1, embedded := false, tag := "", pkgPath := "tailwater/checks", byteOffset := 24 }]), Tryz.t173.size, Tryz.t173.bytes, (Value.agg #[Value.slice none 0 0, Value.nilFunc]), false⟩
theorem k173_ok : TiOk Tryz.prog 173 k173 := tiOk Tryz.type173 Tryz.underlying173 rfl (by kernel_rfl)
noncomputable def k175 : TI := ⟨kindOf (TypeDesc.func #[114] #[42, 65] false), Tryz.t175.size, Tryz.t175.bytes, Value.nilFunc, false⟩
theorem k175_ok : TiOk Tryz.prog 175 k175 := tiOk Tryz.type175 Tryz.underlying175 rfl (by kernel_rfl)
noncomputable def k176 : TI := ⟨kindOf (TypeDesc.func #[46] #[46] false), Tryz.t176.size, Tryz.t176.bytes, Value.nilFunc, false⟩
theorem k176_ok : TiOk Tryz.prog 176 k176 := tiOk Tryz.type176 Tryz.underlying176 rfl (by kernel_rfl)
noncomputable def k177 : TI := ⟨kindOf (TypeDesc.func #[49] #[49] false), Tryz.t177.size, Tryz.t177.bytes, Value.nilFunc, false⟩
theorem k177_ok : TiOk Tryz.prog 177 k177 := tiOk Tryz.type177 Tryz.underlying177 rfl (by kernel_rfl)
noncomputable def k178 : TI := ⟨kindOf (TypeDesc.func #[50] #[50] false), Tryz.t178.size, Tryz.t178.bytes, Value.nilFunc, false⟩
theorem k178_ok : TiOk Tryz.prog 178 k178 := tiOk Tryz.type178 Tryz.underlying178 rfl (by kernel_rfl)
noncomputable def k179 : TI := ⟨kindOf (TypeDesc.func #[28] #[28] false), Tryz.t179.size, Tryz.t179.bytes, Value.nilFunc, false⟩
theorem k179_ok : TiOk Tryz.prog 179 k179 := tiOk Tryz.type179 Tryz.underlying179 rfl (by kernel_rfl)
noncomputable def k180 : TI := ⟨kindOf (TypeDesc.func #[59] #[65] false), Tryz.t180.size, Tryz.t180.bytes, Value.nilFunc, false⟩
theorem k180_ok : TiOk Tryz.prog 180 k180 := tiOk Tryz.type180 Tryz.underlying180 rfl (by kernel_rfl)
noncomputable def k181 : TI := ⟨kindOf (TypeDesc.array 5 2), Tryz.t181.size, Tryz.t181.bytes, (Value.agg #[Value.int IntKind.i64 0, Value.int IntKind.i64 0, Value.int IntKind.i64 0, Value.int IntKind.i64 0, Value.int IntKind.i64 0]), false⟩
theorem k181_ok : TiOk Tryz.prog 181 k181 := tiOk Tryz.type181 Tryz.underlying181 rfl (by kernel_rfl)
noncomputable def k182 : TI := ⟨kindOf (TypeDesc.func #[48, 62, 4] #[48, 4] false), Tryz.t182.size, Tryz.t182.bytes, Value.nilFunc, false⟩
theorem k182_ok : TiOk Tryz.prog 182 k182 := tiOk Tryz.type182 Tryz.underlying182 rfl (by kernel_rfl)
noncomputable def k183 : TI := ⟨kindOf (TypeDesc.func #[25, 2] #[122] false), Tryz.t183.size, Tryz.t183.bytes, Value.nilFunc, false⟩
theorem k183_ok : TiOk Tryz.prog 183 k183 := tiOk Tryz.type183 Tryz.underlying183 rfl (by kernel_rfl)
noncomputable def k184 : TI := ⟨kindOf (TypeDesc.int IntKind.u64), Tryz.t184.size, Tryz.t184.bytes, (Value.int IntKind.u64 0), false⟩
theorem k184_ok : TiOk Tryz.prog 184 k184 := tiOk Tryz.type184 Tryz.underlying184 rfl (by kernel_rfl)
noncomputable def k186 : TI := ⟨kindOf (TypeDesc.func #[184, 184] #[184, 184] false), Tryz.t186.size, Tryz.t186.bytes, Value.nilFunc, false⟩
theorem k186_ok : TiOk Tryz.prog 186 k186 := tiOk Tryz.type186 Tryz.underlying186 rfl (by kernel_rfl)
noncomputable def k187 : TI := ⟨kindOf (TypeDesc.func #[23] #[3] true), Tryz.t187.size, Tryz.t187.bytes, Value.nilFunc, false⟩
theorem k187_ok : TiOk Tryz.prog 187 k187 := tiOk Tryz.type187 Tryz.underlying187 rfl (by kernel_rfl)
noncomputable def k188 : TI := ⟨kindOf (TypeDesc.func #[122, 189] #[] false), Tryz.t188.size, Tryz.t188.bytes, Value.nilFunc, false⟩
theorem k188_ok : TiOk Tryz.prog 188 k188 := tiOk Tryz.type188 Tryz.underlying188 rfl (by kernel_rfl)
noncomputable def k189 : TI := ⟨kindOf (TypeDesc.func #[37, 37] #[3] false), Tryz.t189.size, Tryz.t189.bytes, Value.nilFunc, false⟩
theorem k189_ok : TiOk Tryz.prog 189 k189 := tiOk Tryz.type189 Tryz.underlying189 rfl (by kernel_rfl)
noncomputable def k191 : TI := ⟨kindOf (TypeDesc.func #[59, 59] #[59, 65] false), Tryz.t191.size, Tryz.t191.bytes, Value.nilFunc, false⟩
theorem k191_ok : TiOk Tryz.prog 191 k191 := tiOk Tryz.type191 Tryz.underlying191 rfl (by kernel_rfl)
noncomputable def k192 : TI := ⟨kindOf (TypeDesc.func #[2, 2] #[2, 65] false), Tryz.t192.size, Tryz.t192.bytes, Value.nilFunc, false⟩
theorem k192_ok : TiOk Tryz.prog 192 k192 := tiOk Tryz.type192 Tryz.underlying192 rfl (by kernel_rfl)
noncomputable def k193 : TI := ⟨kindOf (TypeDesc.func #[222] #[] false), Tryz.t193.size, Tryz.t193.bytes, Value.nilFunc, false⟩
theorem k193_ok : TiOk Tryz.prog 193 k193 := tiOk Tryz.type193 Tryz.underlying193 rfl (by kernel_rfl)
noncomputable def k194 : TI := ⟨kindOf (TypeDesc.func #[222] #[] false), Tryz.t194.size, Tryz.t194.bytes, Value.nilFunc, false⟩
theorem k194_ok : TiOk Tryz.prog 194 k194 := tiOk Tryz.type194 Tryz.underlying194 rfl (by kernel_rfl)
noncomputable def k195 : TI := ⟨kindOf (TypeDesc.func #[122] #[194] false), Tryz.t195.size, Tryz.t195.bytes, Value.nilFunc, false⟩
theorem k195_ok : TiOk Tryz.prog 195 k195 := tiOk Tryz.type195 Tryz.underlying195 rfl (by kernel_rfl)
noncomputable def k196 : TI := ⟨kindOf (TypeDesc.func #[48, 3] #[] false), Tryz.t196.size, Tryz.t196.bytes, Value.nilFunc, false⟩
theorem k196_ok : TiOk Tryz.prog 196 k196 := tiOk Tryz.type196 Tryz.underlying196 rfl (by kernel_rfl)
noncomputable def k198 : TI := ⟨kindOf (TypeDesc.func #[22] #[23, 23, 4] false), Tryz.t198.size, Tryz.t198.bytes, Value.nilFunc, false⟩
theorem k198_ok : TiOk Tryz.prog 198 k198 := tiOk Tryz.type198 Tryz.underlying198 rfl (by kernel_rfl)
noncomputable def k200 : TI := ⟨kindOf (TypeDesc.func #[22] #[4, 3, 3] false), Tryz.t200.size, Tryz.t200.bytes, Value.nilFunc, false⟩
theorem k200_ok : TiOk Tryz.prog 200 k200 := tiOk Tryz.type200 Tryz.underlying200 rfl (by kernel_rfl)
noncomputable def k201 : TI := ⟨kindOf (TypeDesc.func #[22] #[65] false), Tryz.t201.size, Tryz.t201.bytes, Value.nilFunc, false⟩
theorem k201_ok : TiOk Tryz.prog 201 k201 := tiOk Tryz.type201 Tryz.underlying201 rfl (by kernel_rfl)
noncomputable def k202 : TI := ⟨kindOf (TypeDesc.func #[23, 4] #[65] false), Tryz.t202.size, Tryz.t202.bytes, Value.nilFunc, false⟩
theorem k202_ok : TiOk Tryz.prog 202 k202 := tiOk Tryz.type202 Tryz.underlying202 rfl (by kernel_rfl)
noncomputable def k203 : TI := ⟨kindOf (TypeDesc.slice 173), Tryz.t203.size, Tryz.t203.bytes, (Value.slice none 0 0), false⟩
theorem k203_ok : TiOk Tryz.prog 203 k203 := tiOk Tryz.type203 Tryz.underlying203 rfl (by kernel_rfl)
noncomputable def k204 : TI := ⟨kindOf (TypeDesc.func #[22, 4] #[3, 65] false), Tryz.t204.size, Tryz.t204.bytes, Value.nilFunc, false⟩
theorem k204_ok : TiOk Tryz.prog 204 k204 := tiOk Tryz.type204 Tryz.underlying204 rfl (by kernel_rfl)
noncomputable def k205 : TI := ⟨kindOf (TypeDesc.func #[114] #[3] false), Tryz.t205.size, Tryz.t205.bytes, Value.nilFunc, false⟩
theorem k205_ok : TiOk Tryz.prog 205 k205 := tiOk Tryz.type205 Tryz.underlying205 rfl (by kernel_rfl)
noncomputable def k206 : TI := ⟨kindOf (TypeDesc.func #[40] #[4] false), Tryz.t206.size, Tryz.t206.bytes, Value.nilFunc, false⟩
theorem k206_ok : TiOk Tryz.prog 206 k206 := tiOk Tryz.type206 Tryz.underlying206 rfl (by kernel_rfl)
noncomputable def k207 : TI := ⟨kindOf (TypeDesc.func #[59, 2] #[59] false), Tryz.t207.size, Tryz.t207.bytes, Value.nilFunc, false⟩
theorem k207_ok : TiOk Tryz.prog 207 k207 := tiOk Tryz.type207 Tryz.underlying207 rfl (by kernel_rfl)
noncomputable def k208 : TI := ⟨kindOf (TypeDesc.func #[37, 37] #[4] false), Tryz.t208.size, Tryz.t208.bytes, Value.nilFunc, false⟩
theorem k208_ok : TiOk Tryz.prog 208 k208 := tiOk Tryz.type208 Tryz.underlying208 rfl (by kernel_rfl)
noncomputable def k210 : TI := ⟨kindOf (TypeDesc.func #[62, 62] #[62, 4] false), Tryz.t210.size, Tryz.t210.bytes, Value.nilFunc, false⟩
theorem k210_ok : TiOk Tryz.prog 210 k210 := tiOk Tryz.type210 Tryz.underlying210 rfl (by kernel_rfl)
noncomputable def k212 : TI := ⟨kindOf (TypeDesc.func #[2, 2] #[37, 3] false), Tryz.t212.size, Tryz.t212.bytes, Value.nilFunc, false⟩
theorem k212_ok : TiOk Tryz.prog 212 k212 := tiOk Tryz.type212 Tryz.underlying212 rfl (by kernel_rfl)
noncomputable def k213 : TI := ⟨kindOf (TypeDesc.func #[2, 2, 2] #[122] false), Tryz.t213.size, Tryz.t213.bytes, Value.nilFunc, false⟩
theorem k213_ok : TiOk Tryz.prog 213 k213 := tiOk Tryz.type213 Tryz.underlying213 rfl (by kernel_rfl)
noncomputable def k214 : TI := ⟨kindOf (TypeDesc.int IntKind.u32), Tryz.t214.size, Tryz.t214.bytes, (Value.int IntKind.u32 0), false⟩
theorem k214_ok : TiOk Tryz.prog 214 k214 := tiOk Tryz.type214 Tryz.underlying214 rfl (by kernel_rfl)
noncomputable def k216 : TI := ⟨kindOf (TypeDesc.func #[214, 214] #[214, 214] false), Tryz.t216.size, Tryz.t216.bytes, Value.nilFunc, false⟩
theorem k216_ok : TiOk Tryz.prog 216 k216 := tiOk Tryz.type216 Tryz.underlying216 rfl (by kernel_rfl)
noncomputable def k217 : TI := ⟨kindOf (TypeDesc.int IntKind.u64), Tryz.t217.size, Tryz.t217.bytes, (Value.int IntKind.u64 0), false⟩
theorem k217_ok : TiOk Tryz.prog 217 k217 := tiOk Tryz.type217 Tryz.underlying217 rfl (by kernel_rfl)
noncomputable def k219 : TI := ⟨kindOf (TypeDesc.func #[217, 217] #[217, 217] false), Tryz.t219.size, Tryz.t219.bytes, Value.nilFunc, false⟩
theorem k219_ok : TiOk Tryz.prog 219 k219 := tiOk Tryz.type219 Tryz.underlying219 rfl (by kernel_rfl)
noncomputable def k220 : TI := ⟨kindOf (TypeDesc.func #[122, 3, 3, 3, 189] #[] false), Tryz.t220.size, Tryz.t220.bytes, Value.nilFunc, false⟩
theorem k220_ok : TiOk Tryz.prog 220 k220 := tiOk Tryz.type220 Tryz.underlying220 rfl (by kernel_rfl)
noncomputable def k221 : TI := ⟨kindOf (TypeDesc.func #[184] #[3] false), Tryz.t221.size, Tryz.t221.bytes, Value.nilFunc, false⟩
theorem k221_ok : TiOk Tryz.prog 221 k221 := tiOk Tryz.type221 Tryz.underlying221 rfl (by kernel_rfl)
noncomputable def k222 : TI := ⟨kindOf (TypeDesc.func #[3, 37] #[4] false), Tryz.t222.size, Tryz.t222.bytes, Value.nilFunc, false⟩
theorem k222_ok : TiOk Tryz.prog 222 k222 := tiOk Tryz.type222 Tryz.underlying222 rfl (by kernel_rfl)
noncomputable def k223 : TI := ⟨kindOf (TypeDesc.func #[5] #[3] false), Tryz.t223.size, Tryz.t223.bytes, Value.nilFunc, false⟩
theorem k223_ok : TiOk Tryz.prog 223 k223 := tiOk Tryz.type223 Tryz.underlying223 rfl (by kernel_rfl)
noncomputable def k224 : TI := ⟨kindOf (TypeDesc.func #[116, 3, 3] #[4] false), Tryz.t224.size, Tryz.t224.bytes, Value.nilFunc, false⟩
theorem k224_ok : TiOk Tryz.prog 224 k224 := tiOk Tryz.type224 Tryz.underlying224 rfl (by kernel_rfl)
noncomputable def k225 : TI := ⟨kindOf (TypeDesc.func #[5] #[4] false), Tryz.t225.size, Tryz.t225.bytes, Value.nilFunc, false⟩
theorem k225_ok : TiOk Tryz.prog 225 k225 := tiOk Tryz.type225 Tryz.underlying225 rfl (by kernel_rfl)
noncomputable def k226 : TI := ⟨kindOf (TypeDesc.slice 251), Tryz.t226.size, Tryz.t226.bytes, (Value.slice none 0 0), false⟩
theorem k226_ok : TiOk Tryz.prog 226 k226 := tiOk Tryz.type226 Tryz.underlying226 rfl (by kernel_rfl)
noncomputable def k228 : TI := ⟨kindOf (TypeDesc.func #[22] #[226, 65] false), Tryz.t228.size, Tryz.t228.bytes, Value.nilFunc, false⟩
theorem k228_ok : TiOk Tryz.prog 228 k228 := tiOk Tryz.type228 Tryz.underlying228 rfl (by kernel_rfl)
noncomputable def k229 : TI := ⟨kindOf (TypeDesc.func #[3] #[4] false), Tryz.t229.size, Tryz.t229.bytes, Value.nilFunc, false⟩
theorem k229_ok : TiOk Tryz.prog 229 k229 := tiOk Tryz.type229 Tryz.underlying229 rfl (by kernel_rfl)
noncomputable def k230 : TI := ⟨kindOf (TypeDesc.func #[23, 229] #[4] false), Tryz.t230.size, Tryz.t230.bytes, Value.nilFunc, false⟩
theorem k230_ok : TiOk Tryz.prog 230 k230 := tiOk Tryz.type230 Tryz.underlying230 rfl (by kernel_rfl)
noncomputable def k231 : TI := ⟨kindOf (TypeDesc.func #[23] #[3] false), Tryz.t231.size, Tryz.t231.bytes, Value.nilFunc, false⟩
theorem k231_ok : TiOk Tryz.prog 231 k231 := tiOk Tryz.type231 Tryz.underlying231 rfl (by kernel_rfl)
noncomputable def k233 : TI := ⟨kindOf (TypeDesc.func #[22] #[4, 3, 65] false), Tryz.t233.size, Tryz.t233.bytes, Value.nilFunc, false⟩
theorem k233_ok : TiOk Tryz.prog 233 k233 := tiOk Tryz.type233 Tryz.underlying233 rfl (by kernel_rfl)
noncomputable def k234 : TI := ⟨kindOf (TypeDesc.func #[5, 2, 2] #[2] false), Tryz.t234.size, Tryz.t234.bytes, Value.nilFunc, false⟩
theorem k234_ok : TiOk Tryz.prog 234 k234 := tiOk Tryz.type234 Tryz.underlying234 rfl (by kernel_rfl)
noncomputable def k235 : TI := ⟨kindOf (TypeDesc.func #[59, 59] #[59] false), Tryz.t235.size, Tryz.t235.bytes, Value.nilFunc, false⟩
theorem k235_ok : TiOk Tryz.prog 235 k235 := tiOk Tryz.type235 Tryz.underlying235 rfl (by kernel_rfl)
noncomputable def k236 : TI := ⟨kindOf (TypeDesc.func #[2, 2] #[2] false), Tryz.t236.size, Tryz.t236.bytes, Value.nilFunc, false⟩
theorem k236_ok : TiOk Tryz.prog 236 k236 := tiOk Tryz.type236 Tryz.underlying236 rfl (by kernel_rfl)
noncomputable def k237 : TI := ⟨kindOf (TypeDesc.func #[122, 3, 3, 189] #[] false), Tryz.t237.size, Tryz.t237.bytes, Value.nilFunc, false⟩
theorem k237_ok : TiOk Tryz.prog 237 k237 := tiOk Tryz.type237 Tryz.underlying237 rfl (by kernel_rfl)
noncomputable def k238 : TI := ⟨kindOf (TypeDesc.int IntKind.i64), Tryz.t238.size, Tryz.t238.bytes, (Value.int IntKind.i64 0), false⟩
theorem k238_ok : TiOk Tryz.prog 238 k238 := tiOk Tryz.type238 Tryz.underlying238 rfl (by kernel_rfl)
noncomputable def k240 : TI := ⟨kindOf (TypeDesc.func #[122, 3, 3, 189] #[3, 238] false), Tryz.t240.size, Tryz.t240.bytes, Value.nilFunc, false⟩
theorem k240_ok : TiOk Tryz.prog 240 k240 := tiOk Tryz.type240 Tryz.underlying240 rfl (by kernel_rfl)
noncomputable def k241 : TI := ⟨kindOf (TypeDesc.func #[122, 3, 3, 189] #[4] false), Tryz.t241.size, Tryz.t241.bytes, Value.nilFunc, false⟩
theorem k241_ok : TiOk Tryz.prog 241 k241 := tiOk Tryz.type241 Tryz.underlying241 rfl (by kernel_rfl)
noncomputable def k242 : TI := ⟨kindOf (TypeDesc.func #[122, 3, 3, 3, 189] #[3] false), Tryz.t242.size, Tryz.t242.bytes, Value.nilFunc, false⟩
theorem k242_ok : TiOk Tryz.prog 242 k242 := tiOk Tryz.type242 Tryz.underlying242 rfl (by kernel_rfl)
noncomputable def k243 : TI := ⟨kindOf (TypeDesc.func #[122, 3, 3, 3, 189] #[3, 4] false), Tryz.t243.size, Tryz.t243.bytes, Value.nilFunc, false⟩
theorem k243_ok : TiOk Tryz.prog 243 k243 := tiOk Tryz.type243 Tryz.underlying243 rfl (by kernel_rfl)
noncomputable def k244 : TI := ⟨kindOf (TypeDesc.func #[214] #[3] false), Tryz.t244.size, Tryz.t244.bytes, Value.nilFunc, false⟩
theorem k244_ok : TiOk Tryz.prog 244 k244 := tiOk Tryz.type244 Tryz.underlying244 rfl (by kernel_rfl)
noncomputable def k245 : TI := ⟨kindOf (TypeDesc.func #[217] #[3] false), Tryz.t245.size, Tryz.t245.bytes, Value.nilFunc, false⟩
theorem k245_ok : TiOk Tryz.prog 245 k245 := tiOk Tryz.type245 Tryz.underlying245 rfl (by kernel_rfl)
noncomputable def k246 : TI := ⟨kindOf (TypeDesc.func #[48] #[] false), Tryz.t246.size, Tryz.t246.bytes, Value.nilFunc, false⟩
theorem k246_ok : TiOk Tryz.prog 246 k246 := tiOk Tryz.type246 Tryz.underlying246 rfl (by kernel_rfl)
noncomputable def k247 : TI := ⟨kindOf (TypeDesc.func #[22, 3] #[4] false), Tryz.t247.size, Tryz.t247.bytes, Value.nilFunc, false⟩
theorem k247_ok : TiOk Tryz.prog 247 k247 := tiOk Tryz.type247 Tryz.underlying247 rfl (by kernel_rfl)
noncomputable def k249 : TI := ⟨kindOf (TypeDesc.func #[22] #[226, 4] false), Tryz.t249.size, Tryz.t249.bytes, Value.nilFunc, false⟩
theorem k249_ok : TiOk Tryz.prog 249 k249 := tiOk Tryz.type249 Tryz.underlying249 rfl (by kernel_rfl)
noncomputable def k250 : TI := ⟨kindOf (TypeDesc.struct #[{ name := "at", type := 3, offset := 0, embedded := false, tag := "", pkgPath := "tailwater/nodes", byteOffset := 0 }, { name := "size", type := 3, offset := 1, embedded := false, tag := "", pkgPath := "tailwater/nodes", byteOffset := 8 }, { name := "depth", type := 3, offset := 2, embedded := false, tag := "", pkgPath := "tailwater/nodes", byteOffset := 16 }]), Tryz.t250.size, Tryz.t250.bytes, (Value.agg #[Value.int IntKind.i64 0, Value.int IntKind.i64 0, Value.int IntKind.i64 0]), true⟩
theorem k250_ok : TiOk Tryz.prog 250 k250 := tiOkE Tryz.type250 Tryz.underlying250 rfl (by kernel_rfl) Tryz.stoodInHeld250 Tryz.eqGuardType250 (by kernel_rfl)
noncomputable def k251 : TI := ⟨kindOf (TypeDesc.struct #[{ name := "at", type := 3, offset := 0, embedded := false, tag := "", pkgPath := "tailwater/nodes", byteOffset := 0 }, { name := "size", type := 3, offset := 1, embedded := false, tag := "", pkgPath := "tailwater/nodes", byteOffset := 8 }, { name := "depth", type := 3, offset := 2, embedded := false, tag := "", pkgPath := "tailwater/nodes", byteOffset := 16 }]), Tryz.t251.size, Tryz.t251.bytes, (Value.agg #[Value.int IntKind.i64 0, Value.int IntKind.i64 0, Value.int IntKind.i64 0]), true⟩
theorem k251_ok : TiOk Tryz.prog 251 k251 := tiOkE Tryz.type251 Tryz.underlying251 rfl (by kernel_rfl) Tryz.stoodInHeld251 Tryz.eqGuardType251 (by kernel_rfl)
noncomputable def k252 : TI := ⟨kindOf (TypeDesc.func #[23, 229] #[3] false), Tryz.t252.size, Tryz.t252.bytes, Value.nilFunc, false⟩
theorem k252_ok : TiOk Tryz.prog 252 k252 := tiOk Tryz.type252 Tryz.underlying252 rfl (by kernel_rfl)
noncomputable def k253 : TI := ⟨kindOf (TypeDesc.map 3 4), Tryz.t253.size, Tryz.t253.bytes, (Value.map none), false⟩
theorem k253_ok : TiOk Tryz.prog 253 k253 := tiOk Tryz.type253 Tryz.underlying253 rfl (by kernel_rfl)
noncomputable def k254 : TI := ⟨kindOf (TypeDesc.slice 4), Tryz.t254.size, Tryz.t254.bytes, (Value.slice none 0 0), false⟩
theorem k254_ok : TiOk Tryz.prog 254 k254 := tiOk Tryz.type254 Tryz.underlying254 rfl (by kernel_rfl)
noncomputable def k256 : TI := ⟨kindOf (TypeDesc.func #[22] #[254, 3] false), Tryz.t256.size, Tryz.t256.bytes, Value.nilFunc, false⟩
theorem k256_ok : TiOk Tryz.prog 256 k256 := tiOk Tryz.type256 Tryz.underlying256 rfl (by kernel_rfl)
noncomputable def k257 : TI := ⟨kindOf (TypeDesc.func #[4] #[2] false), Tryz.t257.size, Tryz.t257.bytes, Value.nilFunc, false⟩
theorem k257_ok : TiOk Tryz.prog 257 k257 := tiOk Tryz.type257 Tryz.underlying257 rfl (by kernel_rfl)
noncomputable def k258 : TI := ⟨kindOf (TypeDesc.func #[3] #[2] false), Tryz.t258.size, Tryz.t258.bytes, Value.nilFunc, false⟩
theorem k258_ok : TiOk Tryz.prog 258 k258 := tiOk Tryz.type258 Tryz.underlying258 rfl (by kernel_rfl)
noncomputable def k259 : TI := ⟨kindOf (TypeDesc.func #[2] #[3] false), Tryz.t259.size, Tryz.t259.bytes, Value.nilFunc, false⟩
theorem k259_ok : TiOk Tryz.prog 259 k259 := tiOk Tryz.type259 Tryz.underlying259 rfl (by kernel_rfl)
noncomputable def k260 : TI := ⟨kindOf (TypeDesc.func #[2] #[2] false), Tryz.t260.size, Tryz.t260.bytes, Value.nilFunc, false⟩
theorem k260_ok : TiOk Tryz.prog 260 k260 := tiOk Tryz.type260 Tryz.underlying260 rfl (by kernel_rfl)
noncomputable def k261 : TI := ⟨kindOf (TypeDesc.func #[5, 2, 2] #[4] false), Tryz.t261.size, Tryz.t261.bytes, Value.nilFunc, false⟩
theorem k261_ok : TiOk Tryz.prog 261 k261 := tiOk Tryz.type261 Tryz.underlying261 rfl (by kernel_rfl)
noncomputable def k262 : TI := ⟨kindOf (TypeDesc.int IntKind.u64), Tryz.t262.size, Tryz.t262.bytes, (Value.int IntKind.u64 0), false⟩
theorem k262_ok : TiOk Tryz.prog 262 k262 := tiOk Tryz.type262 Tryz.underlying262 rfl (by kernel_rfl)
noncomputable def k263 : TI := ⟨kindOf (TypeDesc.func #[3] #[184] false), Tryz.t263.size, Tryz.t263.bytes, Value.nilFunc, false⟩
theorem k263_ok : TiOk Tryz.prog 263 k263 := tiOk Tryz.type263 Tryz.underlying263 rfl (by kernel_rfl)
noncomputable def k264 : TI := ⟨kindOf (TypeDesc.func #[] #[217] false), Tryz.t264.size, Tryz.t264.bytes, Value.nilFunc, false⟩
theorem k264_ok : TiOk Tryz.prog 264 k264 := tiOk Tryz.type264 Tryz.underlying264 rfl (by kernel_rfl)
noncomputable def k265 : TI := ⟨kindOf (TypeDesc.func #[122, 3, 266, 189] #[3] false), Tryz.t265.size, Tryz.t265.bytes, Value.nilFunc, false⟩
theorem k265_ok : TiOk Tryz.prog 265 k265 := tiOk Tryz.type265 Tryz.underlying265 rfl (by kernel_rfl)
noncomputable def k266 : TI := ⟨kindOf (TypeDesc.pointer 3), Tryz.t266.size, Tryz.t266.bytes, (Value.pointer none), false⟩
theorem k266_ok : TiOk Tryz.prog 266 k266 := tiOk Tryz.type266 Tryz.underlying266 rfl (by kernel_rfl)
noncomputable def k267 : TI := ⟨kindOf (TypeDesc.func #[122, 3, 3, 3, 266, 189] #[3] false), Tryz.t267.size, Tryz.t267.bytes, Value.nilFunc, false⟩
theorem k267_ok : TiOk Tryz.prog 267 k267 := tiOk Tryz.type267 Tryz.underlying267 rfl (by kernel_rfl)
noncomputable def k268 : TI := ⟨kindOf (TypeDesc.func #[5] #[3, 65] false), Tryz.t268.size, Tryz.t268.bytes, Value.nilFunc, false⟩
theorem k268_ok : TiOk Tryz.prog 268 k268 := tiOk Tryz.type268 Tryz.underlying268 rfl (by kernel_rfl)
noncomputable def k270 : TI := ⟨kindOf (TypeDesc.func #[226, 3] #[226, 226] false), Tryz.t270.size, Tryz.t270.bytes, Value.nilFunc, false⟩
theorem k270_ok : TiOk Tryz.prog 270 k270 := tiOk Tryz.type270 Tryz.underlying270 rfl (by kernel_rfl)
noncomputable def k271 : TI := ⟨kindOf (TypeDesc.func #[4, 23] #[4] true), Tryz.t271.size, Tryz.t271.bytes, Value.nilFunc, false⟩
theorem k271_ok : TiOk Tryz.prog 271 k271 := tiOk Tryz.type271 Tryz.underlying271 rfl (by kernel_rfl)
noncomputable def k272 : TI := ⟨kindOf (TypeDesc.array 2 4), Tryz.t272.size, Tryz.t272.bytes, (Value.agg #[Value.bool false, Value.bool false]), false⟩
theorem k272_ok : TiOk Tryz.prog 272 k272 := tiOk Tryz.type272 Tryz.underlying272 rfl (by kernel_rfl)
noncomputable def k273 : TI := ⟨kindOf (TypeDesc.pointer 262), Tryz.t273.size, Tryz.t273.bytes, (Value.pointer none), false⟩
theorem k273_ok : TiOk Tryz.prog 273 k273 := tiOk Tryz.type273 Tryz.underlying273 rfl (by kernel_rfl)
noncomputable def k274 : TI := ⟨kindOf (TypeDesc.func #[122, 3, 3, 266, 189] #[3, 3] false), Tryz.t274.size, Tryz.t274.bytes, Value.nilFunc, false⟩
theorem k274_ok : TiOk Tryz.prog 274 k274 := tiOk Tryz.type274 Tryz.underlying274 rfl (by kernel_rfl)
noncomputable def k275 : TI := ⟨kindOf (TypeDesc.func #[] #[9] false), Tryz.t275.size, Tryz.t275.bytes, Value.nilFunc, false⟩
theorem k275_ok : TiOk Tryz.prog 275 k275 := tiOk Tryz.type275 Tryz.underlying275 rfl (by kernel_rfl)
noncomputable def k276 : TI := ⟨kindOf (TypeDesc.struct #[{ name := "_interface", type := 17, offset := 0, embedded := false, tag := "", pkgPath := "runtime", byteOffset := 0 }, { name := "concrete", type := 17, offset := 1, embedded := false, tag := "", pkgPath := "runtime", byteOffset := 8 }, { name := "asserted", type := 17, offset := 2, embedded := false, tag := "", pkgPath := "runtime", byteOffset := 16 }, { name := "missingMethod", type := 9, offset := 3, embedded := false, tag := "", pkgPath := "runtime", byteOffset := 24 }]), Tryz.t276.size, Tryz.t276.bytes, (Value.agg #[Value.pointer none, Value.pointer none, Value.pointer none, Value.string { data := #[] }]), false⟩
theorem k276_ok : TiOk Tryz.prog 276 k276 := tiOk Tryz.type276 Tryz.underlying276 rfl (by kernel_rfl)
noncomputable def k277 : TI := ⟨kindOf (TypeDesc.struct #[{ name := "_interface", type := 17, offset := 0, embedded := false, tag := "", pkgPath := "runtime", byteOffset := 0 }, { name := "concrete", type := 17, offset := 1, embedded := false, tag := "", pkgPath := "runtime", byteOffset := 8 }, { name := "asserted", type := 17, offset := 2, embedded := false, tag := "", pkgPath := "runtime", byteOffset := 16 }, { name := "missingMethod", type := 9, offset := 3, embedded := false, tag := "", pkgPath := "runtime", byteOffset := 24 }]), Tryz.t277.size, Tryz.t277.bytes, (Value.agg #[Value.pointer none, Value.pointer none, Value.pointer none, Value.string { data := #[] }]), false⟩
theorem k277_ok : TiOk Tryz.prog 277 k277 := tiOk Tryz.type277 Tryz.underlying277 rfl (by kernel_rfl)
noncomputable def k278 : TI := ⟨kindOf (TypeDesc.array 0 16), Tryz.t278.size, Tryz.t278.bytes, (Value.agg #[]), false⟩
theorem k278_ok : TiOk Tryz.prog 278 k278 := tiOk Tryz.type278 Tryz.underlying278 rfl (by kernel_rfl)
noncomputable def k279 : TI := ⟨kindOf (TypeDesc.struct #[{ name := "_", type := 278, offset := 0, embedded := false, tag := "", pkgPath := "runtime", byteOffset := 0 }]), Tryz.t279.size, Tryz.t279.bytes, (Value.agg #[]), false⟩
theorem k279_ok : TiOk Tryz.prog 279 k279 := tiOk Tryz.type279 Tryz.underlying279 rfl (by kernel_rfl)
noncomputable def k280 : TI := ⟨kindOf (TypeDesc.struct #[{ name := "_", type := 278, offset := 0, embedded := false, tag := "", pkgPath := "runtime", byteOffset := 0 }]), Tryz.t280.size, Tryz.t280.bytes, (Value.agg #[]), false⟩
theorem k280_ok : TiOk Tryz.prog 280 k280 := tiOk Tryz.type280 Tryz.underlying280 rfl (by kernel_rfl)
noncomputable def k281 : TI := ⟨kindOf (TypeDesc.func #[] #[3] false), Tryz.t281.size, Tryz.t281.bytes, Value.nilFunc, false⟩
theorem k281_ok : TiOk Tryz.prog 281 k281 := tiOk Tryz.type281 Tryz.underlying281 rfl (by kernel_rfl)
noncomputable def k282 : TI := ⟨kindOf (TypeDesc.int IntKind.u8), Tryz.t282.size, Tryz.t282.bytes, (Value.int IntKind.u8 0), false⟩
theorem k282_ok : TiOk Tryz.prog 282 k282 := tiOk Tryz.type282 Tryz.underlying282 rfl (by kernel_rfl)
noncomputable def k283 : TI := ⟨kindOf (TypeDesc.int IntKind.u8), Tryz.t283.size, Tryz.t283.bytes, (Value.int IntKind.u8 0), false⟩
theorem k283_ok : TiOk Tryz.prog 283 k283 := tiOk Tryz.type283 Tryz.underlying283 rfl (by kernel_rfl)
noncomputable def k284 : TI := ⟨kindOf (TypeDesc.func #[290, 290] #[4] false), Tryz.t284.size, Tryz.t284.bytes, Value.nilFunc, false⟩
theorem k284_ok : TiOk Tryz.prog 284 k284 := tiOk Tryz.type284 Tryz.underlying284 rfl (by kernel_rfl)
noncomputable def k285 : TI := ⟨kindOf (TypeDesc.pointer 5), Tryz.t285.size, Tryz.t285.bytes, (Value.pointer none), false⟩
theorem k285_ok : TiOk Tryz.prog 285 k285 := tiOk Tryz.type285 Tryz.underlying285 rfl (by kernel_rfl)
noncomputable def k286 : TI := ⟨kindOf (TypeDesc.int IntKind.i32), Tryz.t286.size, Tryz.t286.bytes, (Value.int IntKind.i32 0), false⟩
theorem k286_ok : TiOk Tryz.prog 286 k286 := tiOk Tryz.type286 Tryz.underlying286 rfl (by kernel_rfl)
noncomputable def k287 : TI := ⟨kindOf (TypeDesc.int IntKind.i32), Tryz.t287.size, Tryz.t287.bytes, (Value.int IntKind.i32 0), false⟩
theorem k287_ok : TiOk Tryz.prog 287 k287 := tiOk Tryz.type287 Tryz.underlying287 rfl (by kernel_rfl)
noncomputable def k288 : TI := ⟨kindOf (TypeDesc.struct #[{ name := "Size_", type := 12, offset := 0, embedded := false, tag := "", pkgPath := "", byteOffset := 0 }, { name := "PtrBytes", type := 12, offset := 1, embedded := false, tag := "", pkgPath := "", byteOffset := 8 }, { name := "Hash", type := 214, offset := 2, embedded := false, tag := "", pkgPath := "", byteOffset := 16 }, { name := "TFlag", type := 282, offset := 3, embedded := false, tag := "", pkgPath := "", byteOffset := 20 }, { name := "Align_", type := 5, offset := 4, embedded := false, tag := "", pkgPath := "", byteOffset := 21 }, { name := "FieldAlign_", type := 5, offset := 5, embedded := false, tag := "", pkgPath := "", byteOffset := 22 }, { name := "Kind_", type := 283, offset := 6, embedded := false, tag := "", pkgPath := "", byteOffset := 23 }, { name := "Equal", type := 284, offset := 7, embedded := false, tag := "", pkgPath := "", byteOffset := 24 }, { name := "GCData", type := 285, offset := 8, embedded := false, tag := "", pkgPath := "", byteOffset := 32 }, { name := "Str", type := 286, offset := 9, embedded := false, tag := "", pkgPath := "", byteOffset := 40 }, { name := "PtrToThis", type := 287, offset := 10, embedded := false, tag := "", pkgPath := "", byteOffset := 44 }]), Tryz.t288.size, Tryz.t288.bytes, (Value.agg #[Value.int IntKind.u64 0, Value.int IntKind.u64 0, Value.int IntKind.u32 0, Value.int IntKind.u8 0, Value.int IntKind.u8 0, Value.int IntKind.u8 0, Value.int IntKind.u8 0, Value.nilFunc, Value.pointer none, Value.int IntKind.i32 0, Value.int IntKind.i32 0]), false⟩
theorem k288_ok : TiOk Tryz.prog 288 k288 := tiOk Tryz.type288 Tryz.underlying288 rfl (by kernel_rfl)
noncomputable def k289 : TI := ⟨kindOf (TypeDesc.struct #[{ name := "Size_", type := 12, offset := 0, embedded := false, tag := "", pkgPath := "", byteOffset := 0 }, { name := "PtrBytes", type := 12, offset := 1, embedded := false, tag := "", pkgPath := "", byteOffset := 8 }, { name := "Hash", type := 214, offset := 2, embedded := false, tag := "", pkgPath := "", byteOffset := 16 }, { name := "TFlag", type := 282, offset := 3, embedded := false, tag := "", pkgPath := "", byteOffset := 20 }, { name := "Align_", type := 5, offset := 4, embedded := false, tag := "", pkgPath := "", byteOffset := 21 }, { name := "FieldAlign_", type := 5, offset := 5, embedded := false, tag := "", pkgPath := "", byteOffset := 22 }, { name := "Kind_", type := 283, offset := 6, embedded := false, tag := "", pkgPath := "", byteOffset := 23 }, { name := "Equal", type := 284, offset := 7, embedded := false, tag := "", pkgPath := "", byteOffset := 24 }, { name := "GCData", type := 285, offset := 8, embedded := false, tag := "", pkgPath := "", byteOffset := 32 }, { name := "Str", type := 286, offset := 9, embedded := false, tag := "", pkgPath := "", byteOffset := 40 }, { name := "PtrToThis", type := 287, offset := 10, embedded := false, tag := "", pkgPath := "", byteOffset := 44 }]), Tryz.t289.size, Tryz.t289.bytes, (Value.agg #[Value.int IntKind.u64 0, Value.int IntKind.u64 0, Value.int IntKind.u32 0, Value.int IntKind.u8 0, Value.int IntKind.u8 0, Value.int IntKind.u8 0, Value.int IntKind.u8 0, Value.nilFunc, Value.pointer none, Value.int IntKind.i32 0, Value.int IntKind.i32 0]), false⟩
theorem k289_ok : TiOk Tryz.prog 289 k289 := tiOk Tryz.type289 Tryz.underlying289 rfl (by kernel_rfl)
noncomputable def k290 : TI := ⟨kindOf TypeDesc.unsafePointer, Tryz.t290.size, Tryz.t290.bytes, (Value.pointer none), false⟩
theorem k290_ok : TiOk Tryz.prog 290 k290 := tiOk Tryz.type290 Tryz.underlying290 rfl (by kernel_rfl)
noncomputable def tyTab : Tab TI := (.node 148 k148 (.node 65 k65 (.node 32 k32 (.node 16 k16 (.node 8 k8 (.node 4 k4 (.node 2 k2 (.node 1 k1 .leaf .leaf) (.node 3 k3 .leaf .leaf)) (.node 6 k6 (.node 5 k5 .leaf .leaf) (.node 7 k7 .leaf .leaf))) (.node 12 k12 (.node 10 k10 (.node 9 k9 .leaf .leaf) (.node 11 k11 .leaf .leaf)) (.node 14 k14 (.node 13 k13 .leaf .leaf) (.node 15 k15 .leaf .leaf)))) (.node 24 k24 (.node 20 k20 (.node 18 k18 (.node 17 k17 .leaf .leaf) (.node 19 k19 .leaf .leaf)) (.node 22 k22 (.node 21 k21 .leaf .leaf) (.node 23 k23 .leaf .leaf))) (.node 28 k28 (.node 26 k26 (.node 25 k25 .leaf .leaf) (.node 27 k27 .leaf .leaf)) (.node 30 k30 (.node 29 k29 .leaf .leaf) (.node 31 k31 .leaf .leaf))))) (.node 48 k48 (.node 40 k40 (.node 36 k36 (.node 34 k34 (.node 33 k33 .leaf .leaf) (.node 35 k35 .leaf .leaf)) (.node 38 k38 (.node 37 k37 .leaf .leaf) (.node 39 k39 .leaf .leaf))) (.node 44 k44 (.node 42 k42 (.node 41 k41 .leaf .leaf) (.node 43 k43 .leaf .leaf)) (.node 46 k46 (.node 45 k45 .leaf .leaf) (.node 47 k47 .leaf .leaf)))) (.node 57 k57 (.node 52 k52 (.node 50 k50 (.node 49 k49 .leaf .leaf) (.node 51 k51 .leaf .leaf)) (.node 55 k55 (.node 54 k54 .leaf .leaf) (.node 56 k56 .leaf .leaf))) (.node 61 k61 (.node 59 k59 (.node 58 k58 .leaf .leaf) (.node 60 k60 .leaf .leaf)) (.node 63 k63 (.node 62 k62 .leaf .leaf) (.node 64 k64 .leaf .leaf)))))) (.node 111 k111 (.node 87 k87 (.node 77 k77 (.node 71 k71 (.node 69 k69 (.node 67 k67 .leaf .leaf) (.node 70 k70 .leaf .leaf)) (.node 75 k75 (.node 73 k73 .leaf .leaf) (.node 76 k76 .leaf .leaf))) (.node 81 k81 (.node 79 k79 (.node 78 k78 .leaf .leaf) (.node 80 k80 .leaf .leaf)) (.node 84 k84 (.node 82 k82 .leaf .leaf) (.node 86 k86 .leaf .leaf)))) (.node 98 k98 (.node 92 k92 (.node 89 k89 (.node 88 k88 .leaf .leaf) (.node 91 k91 .leaf .leaf)) (.node 94 k94 (.node 93 k93 .leaf .leaf) (.node 96 k96 .leaf .leaf))) (.node 105 k105 (.node 101 k101 (.node 100 k100 .leaf .leaf) (.node 103 k103 .leaf .leaf)) (.node 109 k109 (.node 107 k107 .leaf .leaf) (.node 110 k110 .leaf .leaf))))) (.node 129 k129 (.node 119 k119 (.node 115 k115 (.node 113 k113 (.node 112 k112 .leaf .leaf) (.node 114 k114 .leaf .leaf)) (.node 117 k117 (.node 116 k116 .leaf .leaf) (.node 118 k118 .leaf .leaf))) (.node 124 k124 (.node 121 k121 (.node 120 k120 .leaf .leaf) (.node 122 k122 .leaf .leaf)) (.node 126 k126 (.node 125 k125 .leaf .leaf) (.node 127 k127 .leaf .leaf)))) (.node 138 k138 (.node 134 k134 (.node 132 k132 (.node 131 k131 .leaf .leaf) (.node 133 k133 .leaf .leaf)) (.node 136 k136 (.node 135 k135 .leaf .leaf) (.node 137 k137 .leaf .leaf))) (.node 144 k144 (.node 140 k140 (.node 139 k139 .leaf .leaf) (.node 142 k142 .leaf .leaf)) (.node 147 k147 (.node 146 k146 .leaf .leaf) .leaf)))))) (.node 222 k222 (.node 183 k183 (.node 166 k166 (.node 156 k156 (.node 152 k152 (.node 150 k150 (.node 149 k149 .leaf .leaf) (.node 151 k151 .leaf .leaf)) (.node 154 k154 (.node 153 k153 .leaf .leaf) (.node 155 k155 .leaf .leaf))) (.node 161 k161 (.node 158 k158 (.node 157 k157 .leaf .leaf) (.node 160 k160 .leaf .leaf)) (.node 164 k164 (.node 163 k163 .leaf .leaf) (.node 165 k165 .leaf .leaf)))) (.node 175 k175 (.node 170 k170 (.node 168 k168 (.node 167 k167 .leaf .leaf) (.node 169 k169 .leaf .leaf)) (.node 172 k172 (.node 171 k171 .leaf .leaf) (.node 173 k173 .leaf .leaf))) (.node 179 k179 (.node 177 k177 (.node 176 k176 .leaf .leaf) (.node 178 k178 .leaf .leaf)) (.node 181 k181 (.node 180 k180 .leaf .leaf) (.node 182 k182 .leaf .leaf))))) (.node 203 k203 (.node 193 k193 (.node 188 k188 (.node 186 k186 (.node 184 k184 .leaf .leaf) (.node 187 k187 .leaf .leaf)) (.node 191 k191 (.node 189 k189 .leaf .leaf) (.node 192 k192 .leaf .leaf))) (.node 198 k198 (.node 195 k195 (.node 194 k194 .leaf .leaf) (.node 196 k196 .leaf .leaf)) (.node 201 k201 (.node 200 k200 .leaf .leaf) (.node 202 k202 .leaf .leaf)))) (.node 213 k213 (.node 207 k207 (.node 205 k205 (.node 204 k204 .leaf .leaf) (.node 206 k206 .leaf .leaf)) (.node 210 k210 (.node 208 k208 .leaf .leaf) (.node 212 k212 .leaf .leaf))) (.node 219 k219 (.node 216 k216 (.node 214 k214 .leaf .leaf) (.node 217 k217 .leaf .leaf)) (.node 221 k221 (.node 220 k220 .leaf .leaf) .leaf))))) (.node 259 k259 (.node 241 k241 (.node 231 k231 (.node 226 k226 (.node 224 k224 (.node 223 k223 .leaf .leaf) (.node 225 k225 .leaf .leaf)) (.node 229 k229 (.node 228 k228 .leaf .leaf) (.node 230 k230 .leaf .leaf))) (.node 236 k236 (.node 234 k234 (.node 233 k233 .leaf .leaf) (.node 235 k235 .leaf .leaf)) (.node 238 k238 (.node 237 k237 .leaf .leaf) (.node 240 k240 .leaf .leaf)))) (.node 250 k250 (.node 245 k245 (.node 243 k243 (.node 242 k242 .leaf .leaf) (.node 244 k244 .leaf .leaf)) (.node 247 k247 (.node 246 k246 .leaf .leaf) (.node 249 k249 .leaf .leaf))) (.node 254 k254 (.node 252 k252 (.node 251 k251 .leaf .leaf) (.node 253 k253 .leaf .leaf)) (.node 257 k257 (.node 256 k256 .leaf .leaf) (.node 258 k258 .leaf .leaf))))) (.node 276 k276 (.node 267 k267 (.node 263 k263 (.node 261 k261 (.node 260 k260 .leaf .leaf) (.node 262 k262 .leaf .leaf)) (.node 265 k265 (.node 264 k264 .leaf .leaf) (.node 266 k266 .leaf .leaf))) (.node 272 k272 (.node 270 k270 (.node 268 k268 .leaf .leaf) (.node 271 k271 .leaf .leaf)) (.node 274 k274 (.node 273 k273 .leaf .leaf) (.node 275 k275 .leaf .leaf)))) (.node 284 k284 (.node 280 k280 (.node 278 k278 (.node 277 k277 .leaf .leaf) (.node 279 k279 .leaf .leaf)) (.node 282 k282 (.node 281 k281 .leaf .leaf) (.node 283 k283 .leaf .leaf))) (.node 288 k288 (.node 286 k286 (.node 285 k285 .leaf .leaf) (.node 287 k287 .leaf .leaf)) (.node 290 k290 (.node 289 k289 .leaf .leaf) .leaf)))))))
theorem tyTab_ok : TyOk Tryz.prog tyTab.find := tyOk_tab ⟨k148_ok, ⟨k65_ok, ⟨k32_ok, ⟨k16_ok, ⟨k8_ok, ⟨k4_ok, ⟨k2_ok, ⟨k1_ok, trivial, trivial⟩, ⟨k3_ok, trivial, trivial⟩⟩, ⟨k6_ok, ⟨k5_ok, trivial, trivial⟩, ⟨k7_ok, trivial, trivial⟩⟩⟩, ⟨k12_ok, ⟨k10_ok, ⟨k9_ok, trivial, trivial⟩, ⟨k11_ok, trivial, trivial⟩⟩, ⟨k14_ok, ⟨k13_ok, trivial, trivial⟩, ⟨k15_ok, trivial, trivial⟩⟩⟩⟩, ⟨k24_ok, ⟨k20_ok, ⟨k18_ok, ⟨k17_ok, trivial, trivial⟩, ⟨k19_ok, trivial, trivial⟩⟩, ⟨k22_ok, ⟨k21_ok, trivial, trivial⟩, ⟨k23_ok, trivial, trivial⟩⟩⟩, ⟨k28_ok, ⟨k26_ok, ⟨k25_ok, trivial, trivial⟩, ⟨k27_ok, trivial, trivial⟩⟩, ⟨k30_ok, ⟨k29_ok, trivial, trivial⟩, ⟨k31_ok, trivial, trivial⟩⟩⟩⟩⟩, ⟨k48_ok, ⟨k40_ok, ⟨k36_ok, ⟨k34_ok, ⟨k33_ok, trivial, trivial⟩, ⟨k35_ok, trivial, trivial⟩⟩, ⟨k38_ok, ⟨k37_ok, trivial, trivial⟩, ⟨k39_ok, trivial, trivial⟩⟩⟩, ⟨k44_ok, ⟨k42_ok, ⟨k41_ok, trivial, trivial⟩, ⟨k43_ok, trivial, trivial⟩⟩, ⟨k46_ok, ⟨k45_ok, trivial, trivial⟩, ⟨k47_ok, trivial, trivial⟩⟩⟩⟩, ⟨k57_ok, ⟨k52_ok, ⟨k50_ok, ⟨k49_ok, trivial, trivial⟩, ⟨k51_ok, trivial, trivial⟩⟩, ⟨k55_ok, ⟨k54_ok, trivial, trivial⟩, ⟨k56_ok, trivial, trivial⟩⟩⟩, ⟨k61_ok, ⟨k59_ok, ⟨k58_ok, trivial, trivial⟩, ⟨k60_ok, trivial, trivial⟩⟩, ⟨k63_ok, ⟨k62_ok, trivial, trivial⟩, ⟨k64_ok, trivial, trivial⟩⟩⟩⟩⟩⟩, ⟨k111_ok, ⟨k87_ok, ⟨k77_ok, ⟨k71_ok, ⟨k69_ok, ⟨k67_ok, trivial, trivial⟩, ⟨k70_ok, trivial, trivial⟩⟩, ⟨k75_ok, ⟨k73_ok, trivial, trivial⟩, ⟨k76_ok, trivial, trivial⟩⟩⟩, ⟨k81_ok, ⟨k79_ok, ⟨k78_ok, trivial, trivial⟩, ⟨k80_ok, trivial, trivial⟩⟩, ⟨k84_ok, ⟨k82_ok, trivial, trivial⟩, ⟨k86_ok, trivial, trivial⟩⟩⟩⟩, ⟨k98_ok, ⟨k92_ok, ⟨k89_ok, ⟨k88_ok, trivial, trivial⟩, ⟨k91_ok, trivial, trivial⟩⟩, ⟨k94_ok, ⟨k93_ok, trivial, trivial⟩, ⟨k96_ok, trivial, trivial⟩⟩⟩, ⟨k105_ok, ⟨k101_ok, ⟨k100_ok, trivial, trivial⟩, ⟨k103_ok, trivial, trivial⟩⟩, ⟨k109_ok, ⟨k107_ok, trivial, trivial⟩, ⟨k110_ok, trivial, trivial⟩⟩⟩⟩⟩, ⟨k129_ok, ⟨k119_ok, ⟨k115_ok, ⟨k113_ok, ⟨k112_ok, trivial, trivial⟩, ⟨k114_ok, trivial, trivial⟩⟩, ⟨k117_ok, ⟨k116_ok, trivial, trivial⟩, ⟨k118_ok, trivial, trivial⟩⟩⟩, ⟨k124_ok, ⟨k121_ok, ⟨k120_ok, trivial, trivial⟩, ⟨k122_ok, trivial, trivial⟩⟩, ⟨k126_ok, ⟨k125_ok, trivial, trivial⟩, ⟨k127_ok, trivial, trivial⟩⟩⟩⟩, ⟨k138_ok, ⟨k134_ok, ⟨k132_ok, ⟨k131_ok, trivial, trivial⟩, ⟨k133_ok, trivial, trivial⟩⟩, ⟨k136_ok, ⟨k135_ok, trivial, trivial⟩, ⟨k137_ok, trivial, trivial⟩⟩⟩, ⟨k144_ok, ⟨k140_ok, ⟨k139_ok, trivial, trivial⟩, ⟨k142_ok, trivial, trivial⟩⟩, ⟨k147_ok, ⟨k146_ok, trivial, trivial⟩, trivial⟩⟩⟩⟩⟩⟩, ⟨k222_ok, ⟨k183_ok, ⟨k166_ok, ⟨k156_ok, ⟨k152_ok, ⟨k150_ok, ⟨k149_ok, trivial, trivial⟩, ⟨k151_ok, trivial, trivial⟩⟩, ⟨k154_ok, ⟨k153_ok, trivial, trivial⟩, ⟨k155_ok, trivial, trivial⟩⟩⟩, ⟨k161_ok, ⟨k158_ok, ⟨k157_ok, trivial, trivial⟩, ⟨k160_ok, trivial, trivial⟩⟩, ⟨k164_ok, ⟨k163_ok, trivial, trivial⟩, ⟨k165_ok, trivial, trivial⟩⟩⟩⟩, ⟨k175_ok, ⟨k170_ok, ⟨k168_ok, ⟨k167_ok, trivial, trivial⟩, ⟨k169_ok, trivial, trivial⟩⟩, ⟨k172_ok, ⟨k171_ok, trivial, trivial⟩, ⟨k173_ok, trivial, trivial⟩⟩⟩, ⟨k179_ok, ⟨k177_ok, ⟨k176_ok, trivial, trivial⟩, ⟨k178_ok, trivial, trivial⟩⟩, ⟨k181_ok, ⟨k180_ok, trivial, trivial⟩, ⟨k182_ok, trivial, trivial⟩⟩⟩⟩⟩, ⟨k203_ok, ⟨k193_ok, ⟨k188_ok, ⟨k186_ok, ⟨k184_ok, trivial, trivial⟩, ⟨k187_ok, trivial, trivial⟩⟩, ⟨k191_ok, ⟨k189_ok, trivial, trivial⟩, ⟨k192_ok, trivial, trivial⟩⟩⟩, ⟨k198_ok, ⟨k195_ok, ⟨k194_ok, trivial, trivial⟩, ⟨k196_ok, trivial, trivial⟩⟩, ⟨k201_ok, ⟨k200_ok, trivial, trivial⟩, ⟨k202_ok, trivial, trivial⟩⟩⟩⟩, ⟨k213_ok, ⟨k207_ok, ⟨k205_ok, ⟨k204_ok, trivial, trivial⟩, ⟨k206_ok, trivial, trivial⟩⟩, ⟨k210_ok, ⟨k208_ok, trivial, trivial⟩, ⟨k212_ok, trivial, trivial⟩⟩⟩, ⟨k219_ok, ⟨k216_ok, ⟨k214_ok, trivial, trivial⟩, ⟨k217_ok, trivial, trivial⟩⟩, ⟨k221_ok, ⟨k220_ok, trivial, trivial⟩, trivial⟩⟩⟩⟩⟩, ⟨k259_ok, ⟨k241_ok, ⟨k231_ok, ⟨k226_ok, ⟨k224_ok, ⟨k223_ok, trivial, trivial⟩, ⟨k225_ok, trivial, trivial⟩⟩, ⟨k229_ok, ⟨k228_ok, trivial, trivial⟩, ⟨k230_ok, trivial, trivial⟩⟩⟩, ⟨k236_ok, ⟨k234_ok, ⟨k233_ok, trivial, trivial⟩, ⟨k235_ok, trivial, trivial⟩⟩, ⟨k238_ok, ⟨k237_ok, trivial, trivial⟩, ⟨k240_ok, trivial, trivial⟩⟩⟩⟩, ⟨k250_ok, ⟨k245_ok, ⟨k243_ok, ⟨k242_ok, trivial, trivial⟩, ⟨k244_ok, trivial, trivial⟩⟩, ⟨k247_ok, ⟨k246_ok, trivial, trivial⟩, ⟨k249_ok, trivial, trivial⟩⟩⟩, ⟨k254_ok, ⟨k252_ok, ⟨k251_ok, trivial, trivial⟩, ⟨k253_ok, trivial, trivial⟩⟩, ⟨k257_ok, ⟨k256_ok, trivial, trivial⟩, ⟨k258_ok, trivial, trivial⟩⟩⟩⟩⟩, ⟨k276_ok, ⟨k267_ok, ⟨k263_ok, ⟨k261_ok, ⟨k260_ok, trivial, trivial⟩, ⟨k262_ok, trivial, trivial⟩⟩, ⟨k265_ok, ⟨k264_ok, trivial, trivial⟩, ⟨k266_ok, trivial, trivial⟩⟩⟩, ⟨k272_ok, ⟨k270_ok, ⟨k268_ok, trivial, trivial⟩, ⟨k271_ok, trivial, trivial⟩⟩, ⟨k274_ok, ⟨k273_ok, trivial, trivial⟩, ⟨k275_ok, trivial, trivial⟩⟩⟩⟩, ⟨k284_ok, ⟨k280_ok, ⟨k278_ok, ⟨k277_ok, trivial, trivial⟩, ⟨k279_ok, trivial, trivial⟩⟩, ⟨k282_ok, ⟨k281_ok, trivial, trivial⟩, ⟨k283_ok, trivial, trivial⟩⟩⟩, ⟨k288_ok, ⟨k286_ok, ⟨k285_ok, trivial, trivial⟩, ⟨k287_ok, trivial, trivial⟩⟩, ⟨k290_ok, ⟨k289_ok, trivial, trivial⟩, trivial⟩⟩⟩⟩⟩⟩⟩
end Go.Av.Tryz
