/- Printed by gentab.py: the types and the functions of the seat. -/
import Derived.Test.YtioookhnoobpgaaAvc
import Derived.Test.YtioookhnoobpgaaProg
import Derived.KernelRfl
set_option linter.all false
namespace Go.Av.Try
open Go.Proofs

noncomputable def k1 : TI := ⟨kindOf (Go.TypeDesc.func #[] #[] false), Try.t1.size, Try.t1.bytes, Go.Value.nilFunc, false⟩
theorem k1_ok : TiOk Try.prog 1 k1 := tiOk Try.type1 Try.underlying1 rfl (by kernel_rfl)
noncomputable def k2 : TI := ⟨kindOf (Go.TypeDesc.int Go.IntKind.i64), Try.t2.size, Try.t2.bytes, (Go.Value.int Go.IntKind.i64 0), false⟩
theorem k2_ok : TiOk Try.prog 2 k2 := tiOk Try.type2 Try.underlying2 rfl (by kernel_rfl)
noncomputable def k3 : TI := ⟨kindOf (Go.TypeDesc.int Go.IntKind.i64), Try.t3.size, Try.t3.bytes, (Go.Value.int Go.IntKind.i64 0), false⟩
theorem k3_ok : TiOk Try.prog 3 k3 := tiOk Try.type3 Try.underlying3 rfl (by kernel_rfl)
noncomputable def k4 : TI := ⟨kindOf Go.TypeDesc.bool, Try.t4.size, Try.t4.bytes, (Go.Value.bool false), false⟩
theorem k4_ok : TiOk Try.prog 4 k4 := tiOk Try.type4 Try.underlying4 rfl (by kernel_rfl)
noncomputable def k5 : TI := ⟨kindOf (Go.TypeDesc.int Go.IntKind.u8), Try.t5.size, Try.t5.bytes, (Go.Value.int Go.IntKind.u8 0), false⟩
theorem k5_ok : TiOk Try.prog 5 k5 := tiOk Try.type5 Try.underlying5 rfl (by kernel_rfl)
noncomputable def k6 : TI := ⟨kindOf (Go.TypeDesc.int Go.IntKind.u8), Try.t6.size, Try.t6.bytes, (Go.Value.int Go.IntKind.u8 0), false⟩
theorem k6_ok : TiOk Try.prog 6 k6 := tiOk Try.type6 Try.underlying6 rfl (by kernel_rfl)
noncomputable def k7 : TI := ⟨kindOf (Go.TypeDesc.struct #[{ name := "x", type := 2, offset := 0, embedded := false, tag := "", pkgPath := "runtime", byteOffset := 0 }, { name := "y", type := 3, offset := 1, embedded := false, tag := "", pkgPath := "runtime", byteOffset := 8 }, { name := "signed", type := 4, offset := 2, embedded := false, tag := "", pkgPath := "runtime", byteOffset := 16 }, { name := "code", type := 6, offset := 3, embedded := false, tag := "", pkgPath := "runtime", byteOffset := 17 }]), Try.t7.size, Try.t7.bytes, (Go.Value.agg #[Go.Value.int Go.IntKind.i64 0, Go.Value.int Go.IntKind.i64 0, Go.Value.bool false, Go.Value.int Go.IntKind.u8 0]), true⟩
theorem k7_ok : TiOk Try.prog 7 k7 := tiOkE Try.type7 Try.underlying7 rfl (by kernel_rfl) Try.stoodInHeld7 Try.eqGuardType7 (by kernel_rfl)
noncomputable def k8 : TI := ⟨kindOf (Go.TypeDesc.struct #[{ name := "x", type := 2, offset := 0, embedded := false, tag := "", pkgPath := "runtime", byteOffset := 0 }, { name := "y", type := 3, offset := 1, embedded := false, tag := "", pkgPath := "runtime", byteOffset := 8 }, { name := "signed", type := 4, offset := 2, embedded := false, tag := "", pkgPath := "runtime", byteOffset := 16 }, { name := "code", type := 6, offset := 3, embedded := false, tag := "", pkgPath := "runtime", byteOffset := 17 }]), Try.t8.size, Try.t8.bytes, (Go.Value.agg #[Go.Value.int Go.IntKind.i64 0, Go.Value.int Go.IntKind.i64 0, Go.Value.bool false, Go.Value.int Go.IntKind.u8 0]), true⟩
theorem k8_ok : TiOk Try.prog 8 k8 := tiOkE Try.type8 Try.underlying8 rfl (by kernel_rfl) Try.stoodInHeld8 Try.eqGuardType8 (by kernel_rfl)
noncomputable def k9 : TI := ⟨kindOf Go.TypeDesc.string, Try.t9.size, Try.t9.bytes, (Go.Value.string { data := #[] }), false⟩
theorem k9_ok : TiOk Try.prog 9 k9 := tiOk Try.type9 Try.underlying9 rfl (by kernel_rfl)
noncomputable def k10 : TI := ⟨kindOf Go.TypeDesc.string, Try.t10.size, Try.t10.bytes, (Go.Value.string { data := #[] }), false⟩
theorem k10_ok : TiOk Try.prog 10 k10 := tiOk Try.type10 Try.underlying10 rfl (by kernel_rfl)
noncomputable def k11 : TI := ⟨kindOf Go.TypeDesc.string, Try.t11.size, Try.t11.bytes, (Go.Value.string { data := #[] }), false⟩
theorem k11_ok : TiOk Try.prog 11 k11 := tiOk Try.type11 Try.underlying11 rfl (by kernel_rfl)
noncomputable def k12 : TI := ⟨kindOf (Go.TypeDesc.int Go.IntKind.u64), Try.t12.size, Try.t12.bytes, (Go.Value.int Go.IntKind.u64 0), false⟩
theorem k12_ok : TiOk Try.prog 12 k12 := tiOk Try.type12 Try.underlying12 rfl (by kernel_rfl)
noncomputable def k13 : TI := ⟨kindOf (Go.TypeDesc.struct #[{ name := "msg", type := 9, offset := 0, embedded := false, tag := "", pkgPath := "runtime", byteOffset := 0 }, { name := "addr", type := 12, offset := 1, embedded := false, tag := "", pkgPath := "runtime", byteOffset := 16 }]), Try.t13.size, Try.t13.bytes, (Go.Value.agg #[Go.Value.string { data := #[] }, Go.Value.int Go.IntKind.u64 0]), false⟩
theorem k13_ok : TiOk Try.prog 13 k13 := tiOk Try.type13 Try.underlying13 rfl (by kernel_rfl)
noncomputable def k14 : TI := ⟨kindOf (Go.TypeDesc.struct #[{ name := "msg", type := 9, offset := 0, embedded := false, tag := "", pkgPath := "runtime", byteOffset := 0 }, { name := "addr", type := 12, offset := 1, embedded := false, tag := "", pkgPath := "runtime", byteOffset := 16 }]), Try.t14.size, Try.t14.bytes, (Go.Value.agg #[Go.Value.string { data := #[] }, Go.Value.int Go.IntKind.u64 0]), false⟩
theorem k14_ok : TiOk Try.prog 14 k14 := tiOk Try.type14 Try.underlying14 rfl (by kernel_rfl)
noncomputable def k15 : TI := ⟨kindOf (Go.TypeDesc.pointer 75), Try.t15.size, Try.t15.bytes, (Go.Value.pointer none), false⟩
theorem k15_ok : TiOk Try.prog 15 k15 := tiOk Try.type15 Try.underlying15 rfl (by kernel_rfl)
noncomputable def k16 : TI := ⟨kindOf (Go.TypeDesc.pointer 78), Try.t16.size, Try.t16.bytes, (Go.Value.pointer none), false⟩
theorem k16_ok : TiOk Try.prog 16 k16 := tiOk Try.type16 Try.underlying16 rfl (by kernel_rfl)
noncomputable def k17 : TI := ⟨kindOf (Go.TypeDesc.pointer 88), Try.t17.size, Try.t17.bytes, (Go.Value.pointer none), false⟩
theorem k17_ok : TiOk Try.prog 17 k17 := tiOk Try.type17 Try.underlying17 rfl (by kernel_rfl)
noncomputable def k18 : TI := ⟨kindOf (Go.TypeDesc.struct #[{ name := "typ", type := 17, offset := 0, embedded := false, tag := "", pkgPath := "internal/runtime/maps", byteOffset := 0 }]), Try.t18.size, Try.t18.bytes, (Go.Value.agg #[Go.Value.pointer none]), false⟩
theorem k18_ok : TiOk Try.prog 18 k18 := tiOk Try.type18 Try.underlying18 rfl (by kernel_rfl)
noncomputable def k19 : TI := ⟨kindOf (Go.TypeDesc.struct #[{ name := "typ", type := 17, offset := 0, embedded := false, tag := "", pkgPath := "internal/runtime/maps", byteOffset := 0 }]), Try.t19.size, Try.t19.bytes, (Go.Value.agg #[Go.Value.pointer none]), false⟩
theorem k19_ok : TiOk Try.prog 19 k19 := tiOk Try.type19 Try.underlying19 rfl (by kernel_rfl)
noncomputable def k20 : TI := ⟨kindOf (Go.TypeDesc.interface #[]), Try.t20.size, Try.t20.bytes, Go.Value.nilIface, false⟩
theorem k20_ok : TiOk Try.prog 20 k20 := tiOk Try.type20 Try.underlying20 rfl (by kernel_rfl)
noncomputable def k21 : TI := ⟨kindOf (Go.TypeDesc.int Go.IntKind.i32), Try.t21.size, Try.t21.bytes, (Go.Value.int Go.IntKind.i32 0), false⟩
theorem k21_ok : TiOk Try.prog 21 k21 := tiOk Try.type21 Try.underlying21 rfl (by kernel_rfl)
noncomputable def k22 : TI := ⟨kindOf (Go.TypeDesc.slice 62), Try.t22.size, Try.t22.bytes, (Go.Value.slice none 0 0), false⟩
theorem k22_ok : TiOk Try.prog 22 k22 := tiOk Try.type22 Try.underlying22 rfl (by kernel_rfl)
noncomputable def k23 : TI := ⟨kindOf (Go.TypeDesc.slice 47), Try.t23.size, Try.t23.bytes, (Go.Value.slice none 0 0), false⟩
theorem k23_ok : TiOk Try.prog 23 k23 := tiOk Try.type23 Try.underlying23 rfl (by kernel_rfl)
noncomputable def k24 : TI := ⟨kindOf (Go.TypeDesc.struct #[{ name := "Rows", type := 22, offset := 0, embedded := false, tag := "", pkgPath := "", byteOffset := 0 }, { name := "Late", type := 23, offset := 1, embedded := false, tag := "", pkgPath := "", byteOffset := 24 }]), Try.t24.size, Try.t24.bytes, (Go.Value.agg #[Go.Value.slice none 0 0, Go.Value.slice none 0 0]), true⟩
theorem k24_ok : TiOk Try.prog 24 k24 := tiOkE Try.type24 Try.underlying24 rfl (by kernel_rfl) Try.stoodInHeld24 Try.eqGuardType24 (by kernel_rfl)
noncomputable def k25 : TI := ⟨kindOf (Go.TypeDesc.struct #[{ name := "Rows", type := 22, offset := 0, embedded := false, tag := "", pkgPath := "", byteOffset := 0 }, { name := "Late", type := 23, offset := 1, embedded := false, tag := "", pkgPath := "", byteOffset := 24 }]), Try.t25.size, Try.t25.bytes, (Go.Value.agg #[Go.Value.slice none 0 0, Go.Value.slice none 0 0]), true⟩
theorem k25_ok : TiOk Try.prog 25 k25 := tiOkE Try.type25 Try.underlying25 rfl (by kernel_rfl) Try.stoodInHeld25 Try.eqGuardType25 (by kernel_rfl)
noncomputable def k26 : TI := ⟨kindOf (Go.TypeDesc.func #[25] #[4] false), Try.t26.size, Try.t26.bytes, Go.Value.nilFunc, false⟩
theorem k26_ok : TiOk Try.prog 26 k26 := tiOk Try.type26 Try.underlying26 rfl (by kernel_rfl)
noncomputable def k27 : TI := ⟨kindOf (Go.TypeDesc.int Go.IntKind.i64), Try.t27.size, Try.t27.bytes, (Go.Value.int Go.IntKind.i64 0), false⟩
theorem k27_ok : TiOk Try.prog 27 k27 := tiOk Try.type27 Try.underlying27 rfl (by kernel_rfl)
noncomputable def k29 : TI := ⟨kindOf (Go.TypeDesc.func #[25, 25] #[4, 27] false), Try.t29.size, Try.t29.bytes, Go.Value.nilFunc, false⟩
theorem k29_ok : TiOk Try.prog 29 k29 := tiOk Try.type29 Try.underlying29 rfl (by kernel_rfl)
noncomputable def k31 : TI := ⟨kindOf (Go.TypeDesc.func #[25, 25] #[4, 3] false), Try.t31.size, Try.t31.bytes, Go.Value.nilFunc, false⟩
theorem k31_ok : TiOk Try.prog 31 k31 := tiOk Try.type31 Try.underlying31 rfl (by kernel_rfl)
noncomputable def k32 : TI := ⟨kindOf (Go.TypeDesc.func #[25, 25] #[4] false), Try.t32.size, Try.t32.bytes, Go.Value.nilFunc, false⟩
theorem k32_ok : TiOk Try.prog 32 k32 := tiOk Try.type32 Try.underlying32 rfl (by kernel_rfl)
noncomputable def k33 : TI := ⟨kindOf (Go.TypeDesc.slice 49), Try.t33.size, Try.t33.bytes, (Go.Value.slice none 0 0), false⟩
theorem k33_ok : TiOk Try.prog 33 k33 := tiOk Try.type33 Try.underlying33 rfl (by kernel_rfl)
noncomputable def k35 : TI := ⟨kindOf (Go.TypeDesc.func #[33] #[2, 27] false), Try.t35.size, Try.t35.bytes, Go.Value.nilFunc, false⟩
theorem k35_ok : TiOk Try.prog 35 k35 := tiOk Try.type35 Try.underlying35 rfl (by kernel_rfl)
noncomputable def k37 : TI := ⟨kindOf (Go.TypeDesc.func #[33] #[2, 3] false), Try.t37.size, Try.t37.bytes, Go.Value.nilFunc, false⟩
theorem k37_ok : TiOk Try.prog 37 k37 := tiOk Try.type37 Try.underlying37 rfl (by kernel_rfl)
noncomputable def k39 : TI := ⟨kindOf (Go.TypeDesc.func #[33] #[23, 23, 27] false), Try.t39.size, Try.t39.bytes, Go.Value.nilFunc, false⟩
theorem k39_ok : TiOk Try.prog 39 k39 := tiOk Try.type39 Try.underlying39 rfl (by kernel_rfl)
noncomputable def k41 : TI := ⟨kindOf (Go.TypeDesc.func #[33] #[23, 23, 3] false), Try.t41.size, Try.t41.bytes, Go.Value.nilFunc, false⟩
theorem k41_ok : TiOk Try.prog 41 k41 := tiOk Try.type41 Try.underlying41 rfl (by kernel_rfl)
noncomputable def k42 : TI := ⟨kindOf (Go.TypeDesc.func #[23, 23] #[4] false), Try.t42.size, Try.t42.bytes, Go.Value.nilFunc, false⟩
theorem k42_ok : TiOk Try.prog 42 k42 := tiOk Try.type42 Try.underlying42 rfl (by kernel_rfl)
noncomputable def k43 : TI := ⟨kindOf (Go.TypeDesc.func #[33] #[27] false), Try.t43.size, Try.t43.bytes, Go.Value.nilFunc, false⟩
theorem k43_ok : TiOk Try.prog 43 k43 := tiOk Try.type43 Try.underlying43 rfl (by kernel_rfl)
noncomputable def k44 : TI := ⟨kindOf (Go.TypeDesc.func #[33] #[3] false), Try.t44.size, Try.t44.bytes, Go.Value.nilFunc, false⟩
theorem k44_ok : TiOk Try.prog 44 k44 := tiOk Try.type44 Try.underlying44 rfl (by kernel_rfl)
noncomputable def k45 : TI := ⟨kindOf (Go.TypeDesc.func #[33] #[4] false), Try.t45.size, Try.t45.bytes, Go.Value.nilFunc, false⟩
theorem k45_ok : TiOk Try.prog 45 k45 := tiOk Try.type45 Try.underlying45 rfl (by kernel_rfl)
noncomputable def k46 : TI := ⟨kindOf (Go.TypeDesc.struct #[{ name := "Key", type := 2, offset := 0, embedded := false, tag := "", pkgPath := "", byteOffset := 0 }, { name := "Time", type := 2, offset := 1, embedded := false, tag := "", pkgPath := "", byteOffset := 8 }, { name := "Value", type := 2, offset := 2, embedded := false, tag := "", pkgPath := "", byteOffset := 16 }]), Try.t46.size, Try.t46.bytes, (Go.Value.agg #[Go.Value.int Go.IntKind.i64 0, Go.Value.int Go.IntKind.i64 0, Go.Value.int Go.IntKind.i64 0]), true⟩
theorem k46_ok : TiOk Try.prog 46 k46 := tiOkE Try.type46 Try.underlying46 rfl (by kernel_rfl) Try.stoodInHeld46 Try.eqGuardType46 (by kernel_rfl)
noncomputable def k47 : TI := ⟨kindOf (Go.TypeDesc.struct #[{ name := "Key", type := 2, offset := 0, embedded := false, tag := "", pkgPath := "", byteOffset := 0 }, { name := "Time", type := 2, offset := 1, embedded := false, tag := "", pkgPath := "", byteOffset := 8 }, { name := "Value", type := 2, offset := 2, embedded := false, tag := "", pkgPath := "", byteOffset := 16 }]), Try.t47.size, Try.t47.bytes, (Go.Value.agg #[Go.Value.int Go.IntKind.i64 0, Go.Value.int Go.IntKind.i64 0, Go.Value.int Go.IntKind.i64 0]), true⟩
theorem k47_ok : TiOk Try.prog 47 k47 := tiOkE Try.type47 Try.underlying47 rfl (by kernel_rfl) Try.stoodInHeld47 Try.eqGuardType47 (by kernel_rfl)
noncomputable def k48 : TI := ⟨kindOf (Go.TypeDesc.struct #[{ name := "Mark", type := 4, offset := 0, embedded := false, tag := "", pkgPath := "", byteOffset := 0 }, { name := "Time", type := 2, offset := 1, embedded := false, tag := "", pkgPath := "", byteOffset := 8 }, { name := "Record", type := 47, offset := 2, embedded := false, tag := "", pkgPath := "", byteOffset := 16 }]), Try.t48.size, Try.t48.bytes, (Go.Value.agg #[Go.Value.bool false, Go.Value.int Go.IntKind.i64 0, Go.Value.int Go.IntKind.i64 0, Go.Value.int Go.IntKind.i64 0, Go.Value.int Go.IntKind.i64 0]), true⟩
theorem k48_ok : TiOk Try.prog 48 k48 := tiOkE Try.type48 Try.underlying48 rfl (by kernel_rfl) Try.stoodInHeld48 Try.eqGuardType48 (by kernel_rfl)
noncomputable def k49 : TI := ⟨kindOf (Go.TypeDesc.struct #[{ name := "Mark", type := 4, offset := 0, embedded := false, tag := "", pkgPath := "", byteOffset := 0 }, { name := "Time", type := 2, offset := 1, embedded := false, tag := "", pkgPath := "", byteOffset := 8 }, { name := "Record", type := 47, offset := 2, embedded := false, tag := "", pkgPath := "", byteOffset := 16 }]), Try.t49.size, Try.t49.bytes, (Go.Value.agg #[Go.Value.bool false, Go.Value.int Go.IntKind.i64 0, Go.Value.int Go.IntKind.i64 0, Go.Value.int Go.IntKind.i64 0, Go.Value.int Go.IntKind.i64 0]), true⟩
theorem k49_ok : TiOk Try.prog 49 k49 := tiOkE Try.type49 Try.underlying49 rfl (by kernel_rfl) Try.stoodInHeld49 Try.eqGuardType49 (by kernel_rfl)
noncomputable def k50 : TI := ⟨kindOf (Go.TypeDesc.func #[2] #[49] false), Try.t50.size, Try.t50.bytes, Go.Value.nilFunc, false⟩
theorem k50_ok : TiOk Try.prog 50 k50 := tiOk Try.type50 Try.underlying50 rfl (by kernel_rfl)
noncomputable def k51 : TI := ⟨kindOf (Go.TypeDesc.func #[] #[4] false), Try.t51.size, Try.t51.bytes, Go.Value.nilFunc, false⟩
theorem k51_ok : TiOk Try.prog 51 k51 := tiOk Try.type51 Try.underlying51 rfl (by kernel_rfl)
noncomputable def k52 : TI := ⟨kindOf (Go.TypeDesc.func #[23, 68] #[4] true), Try.t52.size, Try.t52.bytes, Go.Value.nilFunc, false⟩
theorem k52_ok : TiOk Try.prog 52 k52 := tiOk Try.type52 Try.underlying52 rfl (by kernel_rfl)
noncomputable def k53 : TI := ⟨kindOf (Go.TypeDesc.func #[49] #[4] false), Try.t53.size, Try.t53.bytes, Go.Value.nilFunc, false⟩
theorem k53_ok : TiOk Try.prog 53 k53 := tiOk Try.type53 Try.underlying53 rfl (by kernel_rfl)
noncomputable def k54 : TI := ⟨kindOf (Go.TypeDesc.func #[33, 3, 2] #[4] false), Try.t54.size, Try.t54.bytes, Go.Value.nilFunc, false⟩
theorem k54_ok : TiOk Try.prog 54 k54 := tiOk Try.type54 Try.underlying54 rfl (by kernel_rfl)
noncomputable def k55 : TI := ⟨kindOf (Go.TypeDesc.func #[33, 3] #[4] false), Try.t55.size, Try.t55.bytes, Go.Value.nilFunc, false⟩
theorem k55_ok : TiOk Try.prog 55 k55 := tiOk Try.type55 Try.underlying55 rfl (by kernel_rfl)
noncomputable def k56 : TI := ⟨kindOf (Go.TypeDesc.func #[70] #[27] true), Try.t56.size, Try.t56.bytes, Go.Value.nilFunc, false⟩
theorem k56_ok : TiOk Try.prog 56 k56 := tiOk Try.type56 Try.underlying56 rfl (by kernel_rfl)
noncomputable def k57 : TI := ⟨kindOf (Go.TypeDesc.func #[22, 22] #[4] false), Try.t57.size, Try.t57.bytes, Go.Value.nilFunc, false⟩
theorem k57_ok : TiOk Try.prog 57 k57 := tiOk Try.type57 Try.underlying57 rfl (by kernel_rfl)
noncomputable def k58 : TI := ⟨kindOf (Go.TypeDesc.struct #[{ name := "Start", type := 2, offset := 0, embedded := false, tag := "", pkgPath := "", byteOffset := 0 }, { name := "End", type := 2, offset := 1, embedded := false, tag := "", pkgPath := "", byteOffset := 8 }]), Try.t58.size, Try.t58.bytes, (Go.Value.agg #[Go.Value.int Go.IntKind.i64 0, Go.Value.int Go.IntKind.i64 0]), true⟩
theorem k58_ok : TiOk Try.prog 58 k58 := tiOkE Try.type58 Try.underlying58 rfl (by kernel_rfl) Try.stoodInHeld58 Try.eqGuardType58 (by kernel_rfl)
noncomputable def k59 : TI := ⟨kindOf (Go.TypeDesc.struct #[{ name := "Start", type := 2, offset := 0, embedded := false, tag := "", pkgPath := "", byteOffset := 0 }, { name := "End", type := 2, offset := 1, embedded := false, tag := "", pkgPath := "", byteOffset := 8 }]), Try.t59.size, Try.t59.bytes, (Go.Value.agg #[Go.Value.int Go.IntKind.i64 0, Go.Value.int Go.IntKind.i64 0]), true⟩
theorem k59_ok : TiOk Try.prog 59 k59 := tiOkE Try.type59 Try.underlying59 rfl (by kernel_rfl) Try.stoodInHeld59 Try.eqGuardType59 (by kernel_rfl)
noncomputable def k60 : TI := ⟨kindOf (Go.TypeDesc.array 2 2), Try.t60.size, Try.t60.bytes, (Go.Value.agg #[Go.Value.int Go.IntKind.i64 0, Go.Value.int Go.IntKind.i64 0]), false⟩
theorem k60_ok : TiOk Try.prog 60 k60 := tiOk Try.type60 Try.underlying60 rfl (by kernel_rfl)
noncomputable def k61 : TI := ⟨kindOf (Go.TypeDesc.struct #[{ name := "Key", type := 2, offset := 0, embedded := false, tag := "", pkgPath := "", byteOffset := 0 }, { name := "Span", type := 59, offset := 1, embedded := false, tag := "", pkgPath := "", byteOffset := 8 }, { name := "Values", type := 60, offset := 3, embedded := false, tag := "", pkgPath := "", byteOffset := 24 }]), Try.t61.size, Try.t61.bytes, (Go.Value.agg #[Go.Value.int Go.IntKind.i64 0, Go.Value.int Go.IntKind.i64 0, Go.Value.int Go.IntKind.i64 0, Go.Value.int Go.IntKind.i64 0, Go.Value.int Go.IntKind.i64 0]), true⟩
theorem k61_ok : TiOk Try.prog 61 k61 := tiOkE Try.type61 Try.underlying61 rfl (by kernel_rfl) Try.stoodInHeld61 Try.eqGuardType61 (by kernel_rfl)
noncomputable def k62 : TI := ⟨kindOf (Go.TypeDesc.struct #[{ name := "Key", type := 2, offset := 0, embedded := false, tag := "", pkgPath := "", byteOffset := 0 }, { name := "Span", type := 59, offset := 1, embedded := false, tag := "", pkgPath := "", byteOffset := 8 }, { name := "Values", type := 60, offset := 3, embedded := false, tag := "", pkgPath := "", byteOffset := 24 }]), Try.t62.size, Try.t62.bytes, (Go.Value.agg #[Go.Value.int Go.IntKind.i64 0, Go.Value.int Go.IntKind.i64 0, Go.Value.int Go.IntKind.i64 0, Go.Value.int Go.IntKind.i64 0, Go.Value.int Go.IntKind.i64 0]), true⟩
theorem k62_ok : TiOk Try.prog 62 k62 := tiOkE Try.type62 Try.underlying62 rfl (by kernel_rfl) Try.stoodInHeld62 Try.eqGuardType62 (by kernel_rfl)
noncomputable def k63 : TI := ⟨kindOf (Go.TypeDesc.func #[49] #[2] false), Try.t63.size, Try.t63.bytes, Go.Value.nilFunc, false⟩
theorem k63_ok : TiOk Try.prog 63 k63 := tiOk Try.type63 Try.underlying63 rfl (by kernel_rfl)
noncomputable def k64 : TI := ⟨kindOf (Go.TypeDesc.func #[] #[63] false), Try.t64.size, Try.t64.bytes, Go.Value.nilFunc, false⟩
theorem k64_ok : TiOk Try.prog 64 k64 := tiOk Try.type64 Try.underlying64 rfl (by kernel_rfl)
noncomputable def k65 : TI := ⟨kindOf (Go.TypeDesc.func #[33] #[2] false), Try.t65.size, Try.t65.bytes, Go.Value.nilFunc, false⟩
theorem k65_ok : TiOk Try.prog 65 k65 := tiOk Try.type65 Try.underlying65 rfl (by kernel_rfl)
noncomputable def k66 : TI := ⟨kindOf (Go.TypeDesc.func #[33, 4] #[23] false), Try.t66.size, Try.t66.bytes, Go.Value.nilFunc, false⟩
theorem k66_ok : TiOk Try.prog 66 k66 := tiOk Try.type66 Try.underlying66 rfl (by kernel_rfl)
noncomputable def k67 : TI := ⟨kindOf (Go.TypeDesc.func #[2] #[4] false), Try.t67.size, Try.t67.bytes, Go.Value.nilFunc, false⟩
theorem k67_ok : TiOk Try.prog 67 k67 := tiOk Try.type67 Try.underlying67 rfl (by kernel_rfl)
noncomputable def k68 : TI := ⟨kindOf (Go.TypeDesc.slice 2), Try.t68.size, Try.t68.bytes, (Go.Value.slice none 0 0), false⟩
theorem k68_ok : TiOk Try.prog 68 k68 := tiOk Try.type68 Try.underlying68 rfl (by kernel_rfl)
noncomputable def k69 : TI := ⟨kindOf (Go.TypeDesc.func #[2, 2] #[3] false), Try.t69.size, Try.t69.bytes, Go.Value.nilFunc, false⟩
theorem k69_ok : TiOk Try.prog 69 k69 := tiOk Try.type69 Try.underlying69 rfl (by kernel_rfl)
noncomputable def k70 : TI := ⟨kindOf (Go.TypeDesc.slice 25), Try.t70.size, Try.t70.bytes, (Go.Value.slice none 0 0), false⟩
theorem k70_ok : TiOk Try.prog 70 k70 := tiOk Try.type70 Try.underlying70 rfl (by kernel_rfl)
noncomputable def k71 : TI := ⟨kindOf (Go.TypeDesc.map 62 3), Try.t71.size, Try.t71.bytes, (Go.Value.map none), false⟩
theorem k71_ok : TiOk Try.prog 71 k71 := tiOk Try.type71 Try.underlying71 rfl (by kernel_rfl)
noncomputable def k72 : TI := ⟨kindOf (Go.TypeDesc.map 47 3), Try.t72.size, Try.t72.bytes, (Go.Value.map none), false⟩
theorem k72_ok : TiOk Try.prog 72 k72 := tiOk Try.type72 Try.underlying72 rfl (by kernel_rfl)
noncomputable def k73 : TI := ⟨kindOf (Go.TypeDesc.func #[] #[9] false), Try.t73.size, Try.t73.bytes, Go.Value.nilFunc, false⟩
theorem k73_ok : TiOk Try.prog 73 k73 := tiOk Try.type73 Try.underlying73 rfl (by kernel_rfl)
noncomputable def k74 : TI := ⟨kindOf (Go.TypeDesc.struct #[{ name := "_interface", type := 17, offset := 0, embedded := false, tag := "", pkgPath := "runtime", byteOffset := 0 }, { name := "concrete", type := 17, offset := 1, embedded := false, tag := "", pkgPath := "runtime", byteOffset := 8 }, { name := "asserted", type := 17, offset := 2, embedded := false, tag := "", pkgPath := "runtime", byteOffset := 16 }, { name := "missingMethod", type := 9, offset := 3, embedded := false, tag := "", pkgPath := "runtime", byteOffset := 24 }]), Try.t74.size, Try.t74.bytes, (Go.Value.agg #[Go.Value.pointer none, Go.Value.pointer none, Go.Value.pointer none, Go.Value.string { data := #[] }]), false⟩
theorem k74_ok : TiOk Try.prog 74 k74 := tiOk Try.type74 Try.underlying74 rfl (by kernel_rfl)
noncomputable def k75 : TI := ⟨kindOf (Go.TypeDesc.struct #[{ name := "_interface", type := 17, offset := 0, embedded := false, tag := "", pkgPath := "runtime", byteOffset := 0 }, { name := "concrete", type := 17, offset := 1, embedded := false, tag := "", pkgPath := "runtime", byteOffset := 8 }, { name := "asserted", type := 17, offset := 2, embedded := false, tag := "", pkgPath := "runtime", byteOffset := 16 }, { name := "missingMethod", type := 9, offset := 3, embedded := false, tag := "", pkgPath := "runtime", byteOffset := 24 }]), Try.t75.size, Try.t75.bytes, (Go.Value.agg #[Go.Value.pointer none, Go.Value.pointer none, Go.Value.pointer none, Go.Value.string { data := #[] }]), false⟩
theorem k75_ok : TiOk Try.prog 75 k75 := tiOk Try.type75 Try.underlying75 rfl (by kernel_rfl)
noncomputable def k76 : TI := ⟨kindOf (Go.TypeDesc.array 0 16), Try.t76.size, Try.t76.bytes, (Go.Value.agg #[]), false⟩
theorem k76_ok : TiOk Try.prog 76 k76 := tiOk Try.type76 Try.underlying76 rfl (by kernel_rfl)
noncomputable def k77 : TI := ⟨kindOf (Go.TypeDesc.struct #[{ name := "_", type := 76, offset := 0, embedded := false, tag := "", pkgPath := "runtime", byteOffset := 0 }]), Try.t77.size, Try.t77.bytes, (Go.Value.agg #[]), false⟩
theorem k77_ok : TiOk Try.prog 77 k77 := tiOk Try.type77 Try.underlying77 rfl (by kernel_rfl)
noncomputable def k78 : TI := ⟨kindOf (Go.TypeDesc.struct #[{ name := "_", type := 76, offset := 0, embedded := false, tag := "", pkgPath := "runtime", byteOffset := 0 }]), Try.t78.size, Try.t78.bytes, (Go.Value.agg #[]), false⟩
theorem k78_ok : TiOk Try.prog 78 k78 := tiOk Try.type78 Try.underlying78 rfl (by kernel_rfl)
noncomputable def k79 : TI := ⟨kindOf (Go.TypeDesc.func #[] #[3] false), Try.t79.size, Try.t79.bytes, Go.Value.nilFunc, false⟩
theorem k79_ok : TiOk Try.prog 79 k79 := tiOk Try.type79 Try.underlying79 rfl (by kernel_rfl)
noncomputable def k80 : TI := ⟨kindOf (Go.TypeDesc.int Go.IntKind.u32), Try.t80.size, Try.t80.bytes, (Go.Value.int Go.IntKind.u32 0), false⟩
theorem k80_ok : TiOk Try.prog 80 k80 := tiOk Try.type80 Try.underlying80 rfl (by kernel_rfl)
noncomputable def k81 : TI := ⟨kindOf (Go.TypeDesc.int Go.IntKind.u8), Try.t81.size, Try.t81.bytes, (Go.Value.int Go.IntKind.u8 0), false⟩
theorem k81_ok : TiOk Try.prog 81 k81 := tiOk Try.type81 Try.underlying81 rfl (by kernel_rfl)
noncomputable def k82 : TI := ⟨kindOf (Go.TypeDesc.int Go.IntKind.u8), Try.t82.size, Try.t82.bytes, (Go.Value.int Go.IntKind.u8 0), false⟩
theorem k82_ok : TiOk Try.prog 82 k82 := tiOk Try.type82 Try.underlying82 rfl (by kernel_rfl)
noncomputable def k83 : TI := ⟨kindOf (Go.TypeDesc.func #[89, 89] #[4] false), Try.t83.size, Try.t83.bytes, Go.Value.nilFunc, false⟩
theorem k83_ok : TiOk Try.prog 83 k83 := tiOk Try.type83 Try.underlying83 rfl (by kernel_rfl)
noncomputable def k84 : TI := ⟨kindOf (Go.TypeDesc.pointer 5), Try.t84.size, Try.t84.bytes, (Go.Value.pointer none), false⟩
theorem k84_ok : TiOk Try.prog 84 k84 := tiOk Try.type84 Try.underlying84 rfl (by kernel_rfl)
noncomputable def k85 : TI := ⟨kindOf (Go.TypeDesc.int Go.IntKind.i32), Try.t85.size, Try.t85.bytes, (Go.Value.int Go.IntKind.i32 0), false⟩
theorem k85_ok : TiOk Try.prog 85 k85 := tiOk Try.type85 Try.underlying85 rfl (by kernel_rfl)
noncomputable def k86 : TI := ⟨kindOf (Go.TypeDesc.int Go.IntKind.i32), Try.t86.size, Try.t86.bytes, (Go.Value.int Go.IntKind.i32 0), false⟩
theorem k86_ok : TiOk Try.prog 86 k86 := tiOk Try.type86 Try.underlying86 rfl (by kernel_rfl)
noncomputable def k87 : TI := ⟨kindOf (Go.TypeDesc.struct #[{ name := "Size_", type := 12, offset := 0, embedded := false, tag := "", pkgPath := "", byteOffset := 0 }, { name := "PtrBytes", type := 12, offset := 1, embedded := false, tag := "", pkgPath := "", byteOffset := 8 }, { name := "Hash", type := 80, offset := 2, embedded := false, tag := "", pkgPath := "", byteOffset := 16 }, { name := "TFlag", type := 81, offset := 3, embedded := false, tag := "", pkgPath := "", byteOffset := 20 }, { name := "Align_", type := 5, offset := 4, embedded := false, tag := "", pkgPath := "", byteOffset := 21 }, { name := "FieldAlign_", type := 5, offset := 5, embedded := false, tag := "", pkgPath := "", byteOffset := 22 }, { name := "Kind_", type := 82, offset := 6, embedded := false, tag := "", pkgPath := "", byteOffset := 23 }, { name := "Equal", type := 83, offset := 7, embedded := false, tag := "", pkgPath := "", byteOffset := 24 }, { name := "GCData", type := 84, offset := 8, embedded := false, tag := "", pkgPath := "", byteOffset := 32 }, { name := "Str", type := 85, offset := 9, embedded := false, tag := "", pkgPath := "", byteOffset := 40 }, { name := "PtrToThis", type := 86, offset := 10, embedded := false, tag := "", pkgPath := "", byteOffset := 44 }]), Try.t87.size, Try.t87.bytes, (Go.Value.agg #[Go.Value.int Go.IntKind.u64 0, Go.Value.int Go.IntKind.u64 0, Go.Value.int Go.IntKind.u32 0, Go.Value.int Go.IntKind.u8 0, Go.Value.int Go.IntKind.u8 0, Go.Value.int Go.IntKind.u8 0, Go.Value.int Go.IntKind.u8 0, Go.Value.nilFunc, Go.Value.pointer none, Go.Value.int Go.IntKind.i32 0, Go.Value.int Go.IntKind.i32 0]), false⟩
theorem k87_ok : TiOk Try.prog 87 k87 := tiOk Try.type87 Try.underlying87 rfl (by kernel_rfl)
noncomputable def k88 : TI := ⟨kindOf (Go.TypeDesc.struct #[{ name := "Size_", type := 12, offset := 0, embedded := false, tag := "", pkgPath := "", byteOffset := 0 }, { name := "PtrBytes", type := 12, offset := 1, embedded := false, tag := "", pkgPath := "", byteOffset := 8 }, { name := "Hash", type := 80, offset := 2, embedded := false, tag := "", pkgPath := "", byteOffset := 16 }, { name := "TFlag", type := 81, offset := 3, embedded := false, tag := "", pkgPath := "", byteOffset := 20 }, { name := "Align_", type := 5, offset := 4, embedded := false, tag := "", pkgPath := "", byteOffset := 21 }, { name := "FieldAlign_", type := 5, offset := 5, embedded := false, tag := "", pkgPath := "", byteOffset := 22 }, { name := "Kind_", type := 82, offset := 6, embedded := false, tag := "", pkgPath := "", byteOffset := 23 }, { name := "Equal", type := 83, offset := 7, embedded := false, tag := "", pkgPath := "", byteOffset := 24 }, { name := "GCData", type := 84, offset := 8, embedded := false, tag := "", pkgPath := "", byteOffset := 32 }, { name := "Str", type := 85, offset := 9, embedded := false, tag := "", pkgPath := "", byteOffset := 40 }, { name := "PtrToThis", type := 86, offset := 10, embedded := false, tag := "", pkgPath := "", byteOffset := 44 }]), Try.t88.size, Try.t88.bytes, (Go.Value.agg #[Go.Value.int Go.IntKind.u64 0, Go.Value.int Go.IntKind.u64 0, Go.Value.int Go.IntKind.u32 0, Go.Value.int Go.IntKind.u8 0, Go.Value.int Go.IntKind.u8 0, Go.Value.int Go.IntKind.u8 0, Go.Value.int Go.IntKind.u8 0, Go.Value.nilFunc, Go.Value.pointer none, Go.Value.int Go.IntKind.i32 0, Go.Value.int Go.IntKind.i32 0]), false⟩
theorem k88_ok : TiOk Try.prog 88 k88 := tiOk Try.type88 Try.underlying88 rfl (by kernel_rfl)
noncomputable def k89 : TI := ⟨kindOf Go.TypeDesc.unsafePointer, Try.t89.size, Try.t89.bytes, (Go.Value.pointer none), false⟩
theorem k89_ok : TiOk Try.prog 89 k89 := tiOk Try.type89 Try.underlying89 rfl (by kernel_rfl)
noncomputable def tyTab : Tab TI := (.node 48 k48 (.node 21 k21 (.node 11 k11 (.node 6 k6 (.node 3 k3 (.node 2 k2 (.node 1 k1 .leaf .leaf) .leaf) (.node 5 k5 (.node 4 k4 .leaf .leaf) .leaf)) (.node 9 k9 (.node 8 k8 (.node 7 k7 .leaf .leaf) .leaf) (.node 10 k10 .leaf .leaf))) (.node 16 k16 (.node 14 k14 (.node 13 k13 (.node 12 k12 .leaf .leaf) .leaf) (.node 15 k15 .leaf .leaf)) (.node 19 k19 (.node 18 k18 (.node 17 k17 .leaf .leaf) .leaf) (.node 20 k20 .leaf .leaf)))) (.node 35 k35 (.node 27 k27 (.node 24 k24 (.node 23 k23 (.node 22 k22 .leaf .leaf) .leaf) (.node 26 k26 (.node 25 k25 .leaf .leaf) .leaf)) (.node 32 k32 (.node 31 k31 (.node 29 k29 .leaf .leaf) .leaf) (.node 33 k33 .leaf .leaf))) (.node 43 k43 (.node 41 k41 (.node 39 k39 (.node 37 k37 .leaf .leaf) .leaf) (.node 42 k42 .leaf .leaf)) (.node 46 k46 (.node 45 k45 (.node 44 k44 .leaf .leaf) .leaf) (.node 47 k47 .leaf .leaf))))) (.node 69 k69 (.node 59 k59 (.node 54 k54 (.node 51 k51 (.node 50 k50 (.node 49 k49 .leaf .leaf) .leaf) (.node 53 k53 (.node 52 k52 .leaf .leaf) .leaf)) (.node 57 k57 (.node 56 k56 (.node 55 k55 .leaf .leaf) .leaf) (.node 58 k58 .leaf .leaf))) (.node 64 k64 (.node 62 k62 (.node 61 k61 (.node 60 k60 .leaf .leaf) .leaf) (.node 63 k63 .leaf .leaf)) (.node 67 k67 (.node 66 k66 (.node 65 k65 .leaf .leaf) .leaf) (.node 68 k68 .leaf .leaf)))) (.node 80 k80 (.node 75 k75 (.node 72 k72 (.node 71 k71 (.node 70 k70 .leaf .leaf) .leaf) (.node 74 k74 (.node 73 k73 .leaf .leaf) .leaf)) (.node 78 k78 (.node 77 k77 (.node 76 k76 .leaf .leaf) .leaf) (.node 79 k79 .leaf .leaf))) (.node 85 k85 (.node 83 k83 (.node 82 k82 (.node 81 k81 .leaf .leaf) .leaf) (.node 84 k84 .leaf .leaf)) (.node 88 k88 (.node 87 k87 (.node 86 k86 .leaf .leaf) .leaf) (.node 89 k89 .leaf .leaf))))))
theorem tyTab_ok : TyOk Try.prog tyTab.find := tyOk_tab ⟨k48_ok, ⟨k21_ok, ⟨k11_ok, ⟨k6_ok, ⟨k3_ok, ⟨k2_ok, ⟨k1_ok, trivial, trivial⟩, trivial⟩, ⟨k5_ok, ⟨k4_ok, trivial, trivial⟩, trivial⟩⟩, ⟨k9_ok, ⟨k8_ok, ⟨k7_ok, trivial, trivial⟩, trivial⟩, ⟨k10_ok, trivial, trivial⟩⟩⟩, ⟨k16_ok, ⟨k14_ok, ⟨k13_ok, ⟨k12_ok, trivial, trivial⟩, trivial⟩, ⟨k15_ok, trivial, trivial⟩⟩, ⟨k19_ok, ⟨k18_ok, ⟨k17_ok, trivial, trivial⟩, trivial⟩, ⟨k20_ok, trivial, trivial⟩⟩⟩⟩, ⟨k35_ok, ⟨k27_ok, ⟨k24_ok, ⟨k23_ok, ⟨k22_ok, trivial, trivial⟩, trivial⟩, ⟨k26_ok, ⟨k25_ok, trivial, trivial⟩, trivial⟩⟩, ⟨k32_ok, ⟨k31_ok, ⟨k29_ok, trivial, trivial⟩, trivial⟩, ⟨k33_ok, trivial, trivial⟩⟩⟩, ⟨k43_ok, ⟨k41_ok, ⟨k39_ok, ⟨k37_ok, trivial, trivial⟩, trivial⟩, ⟨k42_ok, trivial, trivial⟩⟩, ⟨k46_ok, ⟨k45_ok, ⟨k44_ok, trivial, trivial⟩, trivial⟩, ⟨k47_ok, trivial, trivial⟩⟩⟩⟩⟩, ⟨k69_ok, ⟨k59_ok, ⟨k54_ok, ⟨k51_ok, ⟨k50_ok, ⟨k49_ok, trivial, trivial⟩, trivial⟩, ⟨k53_ok, ⟨k52_ok, trivial, trivial⟩, trivial⟩⟩, ⟨k57_ok, ⟨k56_ok, ⟨k55_ok, trivial, trivial⟩, trivial⟩, ⟨k58_ok, trivial, trivial⟩⟩⟩, ⟨k64_ok, ⟨k62_ok, ⟨k61_ok, ⟨k60_ok, trivial, trivial⟩, trivial⟩, ⟨k63_ok, trivial, trivial⟩⟩, ⟨k67_ok, ⟨k66_ok, ⟨k65_ok, trivial, trivial⟩, trivial⟩, ⟨k68_ok, trivial, trivial⟩⟩⟩⟩, ⟨k80_ok, ⟨k75_ok, ⟨k72_ok, ⟨k71_ok, ⟨k70_ok, trivial, trivial⟩, trivial⟩, ⟨k74_ok, ⟨k73_ok, trivial, trivial⟩, trivial⟩⟩, ⟨k78_ok, ⟨k77_ok, ⟨k76_ok, trivial, trivial⟩, trivial⟩, ⟨k79_ok, trivial, trivial⟩⟩⟩, ⟨k85_ok, ⟨k83_ok, ⟨k82_ok, ⟨k81_ok, trivial, trivial⟩, trivial⟩, ⟨k84_ok, trivial, trivial⟩⟩, ⟨k88_ok, ⟨k87_ok, ⟨k86_ok, trivial, trivial⟩, trivial⟩, ⟨k89_ok, trivial, trivial⟩⟩⟩⟩⟩⟩
noncomputable def fnTab : Tab (Func × Code) := (.node 23 (Try.f23, bodyOf Try.f23) (.node 17 (Try.f17, bodyOf Try.f17) (.node 15 (Try.f15, bodyOf Try.f15) (.node 5 (Try.f5, bodyOf Try.f5) .leaf .leaf) .leaf) (.node 22 (Try.f22, bodyOf Try.f22) (.node 20 (Try.f20, bodyOf Try.f20) .leaf .leaf) .leaf)) (.node 32 (Try.f32, bodyOf Try.f32) (.node 25 (Try.f25, bodyOf Try.f25) (.node 24 (Try.f24, bodyOf Try.f24) .leaf .leaf) .leaf) (.node 37 (Try.f37, bodyOf Try.f37) (.node 35 (Try.f35, bodyOf Try.f35) .leaf .leaf) .leaf)))
theorem fnTab_ok : EnvOk Try.prog fnTab.find := envOk_tab ⟨⟨Try.func23, by kernel_rfl, rfl⟩, ⟨⟨Try.func17, by kernel_rfl, rfl⟩, ⟨⟨Try.func15, by kernel_rfl, rfl⟩, ⟨⟨Try.func5, by kernel_rfl, rfl⟩, trivial, trivial⟩, trivial⟩, ⟨⟨Try.func22, by kernel_rfl, rfl⟩, ⟨⟨Try.func20, by kernel_rfl, rfl⟩, trivial, trivial⟩, trivial⟩⟩, ⟨⟨Try.func32, by kernel_rfl, rfl⟩, ⟨⟨Try.func25, by kernel_rfl, rfl⟩, ⟨⟨Try.func24, by kernel_rfl, rfl⟩, trivial, trivial⟩, trivial⟩, ⟨⟨Try.func37, by kernel_rfl, rfl⟩, ⟨⟨Try.func35, by kernel_rfl, rfl⟩, trivial, trivial⟩, trivial⟩⟩⟩
end Go.Av.Try
