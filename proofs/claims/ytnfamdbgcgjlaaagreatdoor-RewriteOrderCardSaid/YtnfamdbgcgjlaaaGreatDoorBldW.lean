/- printer.Expr: what it writes. -/
import Derived.Test.YtnfamdbgcgjlaaaGreatDoorLowK
import Derived.Test.YtnfamdbgcgjlaaaGreatDoorBldL
import Derived.Shelf.Strings.BuilderK
import Derived.Deep.RegionWith
set_option linter.all false

namespace Go.Proofs.Tryz
open Go.RowKit Go.Lib Go.Av
abbrev Nd := Int × Int × Int × Int × Int
def Xn7 (w : World) (b0 off : Nat) (l : List Nd) : Prop := ∀ i k n x y z, l[i]? = some (k, n, x, y, z) ->
  w.cell? ⟨b0, off + i * 5, none⟩ = some (.int .u8 k) /\ w.cell? ⟨b0, off + i * 5 + 1, none⟩ = some (.int .i64 n) /\ w.cell? ⟨b0, off + i * 5 + 2, none⟩ = some (.int .i64 x) /\ w.cell? ⟨b0, off + i * 5 + 3, none⟩ = some (.int .i64 y) /\ w.cell? ⟨b0, off + i * 5 + 4, none⟩ = some (.int .i64 z)
theorem Xn7.below {w w' : World} {b0 off B : Nat} {l : List Nd} (h : Xn7 w b0 off l) (hB : Below B w w') (hb : b0 < B) : Xn7 w' b0 off l := by
  intro i k n x y z hi
  have hc : ∀ j, w'.cell? ⟨b0, j, none⟩ = w.cell? ⟨b0, j, none⟩ := fun j => World.cell?_of_block (a := ⟨b0, j, none⟩) (hB.block b0 hb)
  obtain ⟨h1, h2, h3, h4, h5⟩ := h i k n x y z hi
  exact ⟨(hc _).trans h1, (hc _).trans h2, (hc _).trans h3, (hc _).trans h4, (hc _).trans h5⟩
theorem Xgx {T e B b : Nat} {p : Value} {bs : List Value} {w w' : World} (h : BuilderAtF T e B b p bs w) (hlt : b < w.heap.size) (hb : Below w.heap.size w w') : BuilderAtF T e B b p bs w' := by
  obtain ⟨hB, v, h1, h2, h3⟩ := h
  refine ⟨hB, v, (hb.block b hlt).trans h1, h2.kept (row := none) ⟨hb.os, hb.tape, hb.output, hb.size, fun k hk _ => hb.block k hk⟩ ?_, h3⟩
  cases v.ownBlock with
  | none => exact .inl rfl
  | some q => exact .inr (by simp)
theorem Xvo {T e B b : Nat} {bs : List Value} {w : World} (h : IsBuilderF T e B b bs w) : b < w.heap.size := by
  rcases h with ⟨_, v, h, _⟩ | ⟨_, v, h, _⟩ <;> exact (Array.getElem?_eq_some_iff.1 h).1
theorem Xi5 {T e B b : Nat} {bs : List Value} {w w' : World} (h : IsBuilderF T e B b bs w) (hb : Below w.heap.size w w') : IsBuilderF T e B b bs w' := by
  have hl := Xvo h
  exact h.imp (fun h => Xgx h hl hb) (fun h => Xgx h hl hb)
theorem Xdy {e : Nat} {b : Option Nat} {w w' : World} (hb : Below w.heap.size w w') : OthersKept e b w w' := fun k o hk _ _ => (hb.block k (Array.getElem?_eq_some_iff.1 hk).1).trans hk
theorem X3f (w : World) (o : Go.Obj) : Below w.heap.size w (w.alloc o) := (Below.refl _ w).alloc (Nat.le_refl _) o
def WrOk (l : List Nd) (i : Int) (X8e : Int) (txt : List UInt8) : Prop :=
  ∀ (b0 off cap B b : Nat) (bs : List Value) (w : World), b0 < B -> Xn7 w b0 off l -> IsBuilderF 90 5 B b bs w -> bs.length + txt.length <= 1000000 -> B <= w.heap.size ->
    Calls Tryz.prog 47 #[.pointer (some ⟨b, 0, none⟩), .slice (some ⟨b0, off, none⟩) l.length cap, .int .i64 i, .int .i64 X8e] w fun e w' =>
      e = .returned (.tuple #[]) /\ BuilderAtF 90 5 B b (.pointer (some ⟨b, 0, none⟩)) (bs ++ Lib.byteCells txt) w' /\ Below B w w' /\ OthersKept 5 (some b) w w'
theorem ws {B b : Nat} {bs : List Value} {s : ByteArray} {w : World} (h : IsBuilderF 90 5 B b bs w) (hlen : bs.length + s.size <= 1000000) (hB : B <= w.heap.size) : Calls Tryz.prog 51 #[.pointer (some ⟨b, 0, none⟩), .string s] w fun e w' => e = .returned (.tuple #[.int .i64 s.size, .nilIface]) /\ BuilderAtF 90 5 B b (.pointer (some ⟨b, 0, none⟩)) (bs ++ Lib.byteCells s.data.toList) w' /\ Below B w w' /\ OthersKept 5 (some b) w w' :=
  (Any.Builder_WriteString_k Tryz.lays166 Tryz.bextra B b bs s w h (by omega) hB).mono fun e w' ⟨h1, h2, h3, h4⟩ => ⟨h1, h2, h3, h4⟩
theorem wb {B b : Nat} {bs : List Value} {c : UInt8} {w : World} (h : IsBuilderF 90 5 B b bs w) (hlen : bs.length + 1 <= 1000000) (hB : B <= w.heap.size) : Calls Tryz.prog 74 #[.pointer (some ⟨b, 0, none⟩), .int .u8 c.toNat] w fun e w' => e = .returned .nilIface /\ BuilderAtF 90 5 B b (.pointer (some ⟨b, 0, none⟩)) (bs ++ Lib.byteCells [c]) w' /\ Below B w w' /\ OthersKept 5 (some b) w w' :=
  (Any.Builder_WriteByte_k Tryz.lays167 Tryz.bextra B b bs c.toNat w h (by omega) hB).mono fun e w' ⟨h1, h2, h3, h4⟩ => ⟨h1, h2, h3, h4⟩
theorem bcl (l : List UInt8) : (Lib.byteCells l).length = l.length := by simp [Lib.byteCells]
theorem bca (l m : List UInt8) : Lib.byteCells (l ++ m) = Lib.byteCells l ++ Lib.byteCells m := by simp [Lib.byteCells]
theorem szL (s : ByteArray) : s.size = s.data.toList.length := by rw [Array.length_toList]; rfl
set_option maxHeartbeats 4000000 in
set_option maxRecDepth 100000 in
theorem wr_num {l : List Nd} {i : Nat} {X8e : Int} {n x y z : Int} {s : ByteArray} (hl : l.length < 1000) (hi : l[i]? = some (1, n, x, y, z)) (hT : ∀ w, Calls Tryz.prog 28 #[.int .i64 n] w fun e w' => e = .returned (.string s) /\ Below w.heap.size w w') : WrOk l i X8e s.data.toList := by
  intro b0 off cap B b bs w hb0 hN hB hlen hBw
  have t23 := Tryz.underlying23; have a23 := Tryz.isAgg23; have z23 := Tryz.sizeOf23; have v23 := Tryz.zeroValue23
  have t78 := Tryz.underlying78; have a78 := Tryz.isAgg78; have z78 := Tryz.sizeOf78; have v78 := Tryz.zeroValue78
  have t5 := Tryz.underlying5; have a5 := Tryz.isAgg5; have z5 := Tryz.sizeOf5; have v5 := Tryz.zeroValue5
  have t2 := Tryz.underlying2; have a2 := Tryz.isAgg2; have z2 := Tryz.sizeOf2; have v2 := Tryz.zeroValue2
  have t3 := Tryz.underlying3; have a3 := Tryz.isAgg3; have z3 := Tryz.sizeOf3; have v3 := Tryz.zeroValue3
  have t9 := Tryz.underlying9; have a9 := Tryz.isAgg9; have z9 := Tryz.sizeOf9; have v9 := Tryz.zeroValue9
  have t4 := Tryz.underlying4; have a4 := Tryz.isAgg4; have z4 := Tryz.sizeOf4; have v4 := Tryz.zeroValue4
  have t136 := Tryz.underlying136; have a136 := Tryz.isAgg136; have z136 := Tryz.sizeOf136; have v136 := Tryz.zeroValue136
  have t137 := Tryz.underlying137; have a137 := Tryz.isAgg137; have z137 := Tryz.sizeOf137; have v137 := Tryz.zeroValue137
  have u23 := run_underlying Tryz.underlying23; have u78 := run_underlying Tryz.underlying78; have u5 := run_underlying Tryz.underlying5; have u2 := run_underlying Tryz.underlying2; have u3 := run_underlying Tryz.underlying3
  have u9 := run_underlying Tryz.underlying9; have u4 := run_underlying Tryz.underlying4; have u136 := run_underlying Tryz.underlying136; have u137 := run_underlying Tryz.underlying137
  have mixed : Tryz.prog.follows .mixedOrders = true := by kernel_rfl
  have e28 : ∀ args w, (callFunc 28 args).run Tryz.prog w = .ok (.enter 28 args) w := enters_of Tryz.func28 (by kernel_rfl) rfl
  have e51 : ∀ args w, (callFunc 51 args).run Tryz.prog w = .ok (.enter 51 args) w := enters_of Tryz.func51 (by kernel_rfl) rfl
  have e74 : ∀ args w, (callFunc 74 args).run Tryz.prog w = .ok (.enter 74 args) w := enters_of Tryz.func74 (by kernel_rfl) rfl
  have e75 : ∀ args w, (callFunc 75 args).run Tryz.prog w = .ok (.enter 75 args) w := enters_of Tryz.func75 (by kernel_rfl) rfl
  have e47 : ∀ args w, (callFunc 47 args).run Tryz.prog w = .ok (.enter 47 args) w := enters_of Tryz.func47 (by kernel_rfl) rfl
  obtain ⟨c0, c1, c2, c3, c4⟩ := hN i _ _ _ _ _ hi
  have hil : i < l.length := (List.getElem?_eq_some_iff.1 hi).1
  have hr1 : (i : Int) < (l.length : Int) := by omega
  rw [<- szL] at hlen
  go_enter Tryz.func47, Tryz.ntmps47
  go_wp2_with (first | (go_at_fn 28; refine (hT _).mono ?_; rintro e w' ⟨rfl, hw⟩) | (go_at_fn 51; refine (ws (B := B) (bs := bs) (Xi5 hB ((X3f w _).trans (hw.mono (X3f w _).size))) hlen (Nat.le_trans hBw (Nat.le_trans (X3f w _).size hw.size))).mono ?_; rintro e w2 ⟨rfl, h2, h3, h4⟩))
  refine bodyPost_ret (results_none rfl _ _ _) rfl ?_
  exact ⟨rfl, h2, (((X3f w _).mono hBw).trans (hw.mono (Nat.le_trans hBw (X3f w _).size))).trans h3, ((Xdy (X3f w _)).trans (Xdy hw)).trans h4⟩
set_option maxHeartbeats 4000000 in
set_option maxRecDepth 100000 in
theorem wr_val {l : List Nd} {i k : Nat} {X8e : Int} {n x y z : Int} {c : UInt8} (hl : l.length < 1000) (hi : l[i]? = some ((k : Int), n, x, y, z)) (hk : 2 <= k /\ k <= 4) (hc : [107, 116, 118][k - 2]? = some c) : WrOk l i X8e [c] := by
  intro b0 off cap B b bs w hb0 hN hB hlen hBw
  have t23 := Tryz.underlying23; have a23 := Tryz.isAgg23; have z23 := Tryz.sizeOf23; have v23 := Tryz.zeroValue23
  have t78 := Tryz.underlying78; have a78 := Tryz.isAgg78; have z78 := Tryz.sizeOf78; have v78 := Tryz.zeroValue78
  have t5 := Tryz.underlying5; have a5 := Tryz.isAgg5; have z5 := Tryz.sizeOf5; have v5 := Tryz.zeroValue5
  have t2 := Tryz.underlying2; have a2 := Tryz.isAgg2; have z2 := Tryz.sizeOf2; have v2 := Tryz.zeroValue2
  have t3 := Tryz.underlying3; have a3 := Tryz.isAgg3; have z3 := Tryz.sizeOf3; have v3 := Tryz.zeroValue3
  have t9 := Tryz.underlying9; have a9 := Tryz.isAgg9; have z9 := Tryz.sizeOf9; have v9 := Tryz.zeroValue9
  have t4 := Tryz.underlying4; have a4 := Tryz.isAgg4; have z4 := Tryz.sizeOf4; have v4 := Tryz.zeroValue4
  have t136 := Tryz.underlying136; have a136 := Tryz.isAgg136; have z136 := Tryz.sizeOf136; have v136 := Tryz.zeroValue136
  have t137 := Tryz.underlying137; have a137 := Tryz.isAgg137; have z137 := Tryz.sizeOf137; have v137 := Tryz.zeroValue137
  have u23 := run_underlying Tryz.underlying23; have u78 := run_underlying Tryz.underlying78; have u5 := run_underlying Tryz.underlying5; have u2 := run_underlying Tryz.underlying2; have u3 := run_underlying Tryz.underlying3
  have u9 := run_underlying Tryz.underlying9; have u4 := run_underlying Tryz.underlying4; have u136 := run_underlying Tryz.underlying136; have u137 := run_underlying Tryz.underlying137
  have mixed : Tryz.prog.follows .mixedOrders = true := by kernel_rfl
  have e28 : ∀ args w, (callFunc 28 args).run Tryz.prog w = .ok (.enter 28 args) w := enters_of Tryz.func28 (by kernel_rfl) rfl
  have e51 : ∀ args w, (callFunc 51 args).run Tryz.prog w = .ok (.enter 51 args) w := enters_of Tryz.func51 (by kernel_rfl) rfl
  have e74 : ∀ args w, (callFunc 74 args).run Tryz.prog w = .ok (.enter 74 args) w := enters_of Tryz.func74 (by kernel_rfl) rfl
  have e75 : ∀ args w, (callFunc 75 args).run Tryz.prog w = .ok (.enter 75 args) w := enters_of Tryz.func75 (by kernel_rfl) rfl
  have e47 : ∀ args w, (callFunc 47 args).run Tryz.prog w = .ok (.enter 47 args) w := enters_of Tryz.func47 (by kernel_rfl) rfl
  obtain ⟨c0, c1, c2, c3, c4⟩ := hN i _ _ _ _ _ hi
  have hil : i < l.length := (List.getElem?_eq_some_iff.1 hi).1
  have hr1 : (i : Int) < (l.length : Int) := by omega
  have hw : Below w.heap.size w (w.alloc (.cells #[.int .u8 k, .int .i64 n, .int .i64 x, .int .i64 y, .int .i64 z] 78)) := X3f w _
  have hch : k = 2 /\ c = 107 \/ k = 3 /\ c = 116 \/ k = 4 /\ c = 118 := by
    obtain ⟨h1, h2⟩ := hk
    have : k = 2 \/ k = 3 \/ k = 4 := by omega
    rcases this with rfl | rfl | rfl
    · exact .inl ⟨rfl, (Option.some.inj hc).symm⟩
    · exact .inr (.inl ⟨rfl, (Option.some.inj hc).symm⟩)
    · exact .inr (.inr ⟨rfl, (Option.some.inj hc).symm⟩)
  go_enter Tryz.func47, Tryz.ntmps47
  rcases hch with ⟨rfl, rfl⟩ | ⟨rfl, rfl⟩ | ⟨rfl, rfl⟩
  all_goals go_wp2_with (go_at_fn 74; refine (wb (B := B) (bs := bs) (Xi5 hB hw) hlen (Nat.le_trans hBw hw.size)).mono ?_; rintro e w2 ⟨rfl, h2, h3, h4⟩)
  all_goals refine bodyPost_ret (results_none rfl _ _ _) rfl ?_
  all_goals exact ⟨rfl, h2, (hw.mono hBw).trans h3, (Xdy hw).trans h4⟩
abbrev X00u : Array Value := #[.string ⟨#[45]⟩, .int .i64 8, .string ⟨#[110, 111, 116, 32]⟩, .int .i64 3, .string ⟨#[32, 42, 32]⟩, .int .i64 7, .string ⟨#[32, 43, 32]⟩, .int .i64 6, .string ⟨#[32, 45, 32]⟩, .int .i64 6, .string ⟨#[32, 60, 60, 32]⟩, .int .i64 5, .string ⟨#[32, 62, 62, 32]⟩, .int .i64 5, .string ⟨#[32, 60, 32]⟩, .int .i64 4, .string ⟨#[32, 60, 61, 32]⟩, .int .i64 4, .string ⟨#[32, 62, 32]⟩, .int .i64 4, .string ⟨#[32, 62, 61, 32]⟩, .int .i64 4, .string ⟨#[32, 61, 32]⟩, .int .i64 4, .string ⟨#[32, 33, 61, 32]⟩, .int .i64 4, .string ⟨#[32, 97, 110, 100, 32]⟩, .int .i64 2, .string ⟨#[32, 111, 114, 32]⟩, .int .i64 1]
set_option maxHeartbeats 4000000 in
set_option maxRecDepth 100000 in
theorem X00t (w : World) : Calls Tryz.prog 75 #[] w fun e w' => e = .returned (.slice (some ⟨w.heap.size, 0, none⟩) 15 15) /\ w' = w.alloc (.cells X00u 136) := by
  have t23 := Tryz.underlying23; have a23 := Tryz.isAgg23; have z23 := Tryz.sizeOf23; have v23 := Tryz.zeroValue23
  have t78 := Tryz.underlying78; have a78 := Tryz.isAgg78; have z78 := Tryz.sizeOf78; have v78 := Tryz.zeroValue78
  have t5 := Tryz.underlying5; have a5 := Tryz.isAgg5; have z5 := Tryz.sizeOf5; have v5 := Tryz.zeroValue5
  have t2 := Tryz.underlying2; have a2 := Tryz.isAgg2; have z2 := Tryz.sizeOf2; have v2 := Tryz.zeroValue2
  have t3 := Tryz.underlying3; have a3 := Tryz.isAgg3; have z3 := Tryz.sizeOf3; have v3 := Tryz.zeroValue3
  have t9 := Tryz.underlying9; have a9 := Tryz.isAgg9; have z9 := Tryz.sizeOf9; have v9 := Tryz.zeroValue9
  have t4 := Tryz.underlying4; have a4 := Tryz.isAgg4; have z4 := Tryz.sizeOf4; have v4 := Tryz.zeroValue4
  have t136 := Tryz.underlying136; have a136 := Tryz.isAgg136; have z136 := Tryz.sizeOf136; have v136 := Tryz.zeroValue136
  have t137 := Tryz.underlying137; have a137 := Tryz.isAgg137; have z137 := Tryz.sizeOf137; have v137 := Tryz.zeroValue137
  have u23 := run_underlying Tryz.underlying23; have u78 := run_underlying Tryz.underlying78; have u5 := run_underlying Tryz.underlying5; have u2 := run_underlying Tryz.underlying2; have u3 := run_underlying Tryz.underlying3
  have u9 := run_underlying Tryz.underlying9; have u4 := run_underlying Tryz.underlying4; have u136 := run_underlying Tryz.underlying136; have u137 := run_underlying Tryz.underlying137
  have mixed : Tryz.prog.follows .mixedOrders = true := by kernel_rfl
  have e28 : ∀ args w, (callFunc 28 args).run Tryz.prog w = .ok (.enter 28 args) w := enters_of Tryz.func28 (by kernel_rfl) rfl
  have e51 : ∀ args w, (callFunc 51 args).run Tryz.prog w = .ok (.enter 51 args) w := enters_of Tryz.func51 (by kernel_rfl) rfl
  have e74 : ∀ args w, (callFunc 74 args).run Tryz.prog w = .ok (.enter 74 args) w := enters_of Tryz.func74 (by kernel_rfl) rfl
  have e75 : ∀ args w, (callFunc 75 args).run Tryz.prog w = .ok (.enter 75 args) w := enters_of Tryz.func75 (by kernel_rfl) rfl
  have e47 : ∀ args w, (callFunc 47 args).run Tryz.prog w = .ok (.enter 47 args) w := enters_of Tryz.func47 (by kernel_rfl) rfl
  go_enter Tryz.func75, Tryz.ntmps75
  go_wp2
  go_ret
  exact ⟨rfl, rfl⟩
theorem a3o (w : World) (a o c : Array Value) (t1 t2 t3 : Nat) : (((w.alloc (.cells a t1)).alloc (.cells o t2)).alloc (.cells c t3)).drew.heap[w.heap.size]? = some (.cells a t1) :=
  (Below.heap_alloc _ _ _ (by simp; omega)).trans ((Below.heap_alloc _ _ _ (by simp)).trans (World.alloc_heap_new w _))
theorem a3x (w : World) (a o c : Array Value) (t1 t2 t3 : Nat) : (((w.alloc (.cells a t1)).alloc (.cells o t2)).alloc (.cells c t3)).drew.heap[w.heap.size + 1 + 1]? = some (.cells c t3) := by
  have := World.alloc_heap_new ((w.alloc (.cells a t1)).alloc (.cells o t2)) (.cells c t3)
  simp only [World.size_alloc] at this; exact this
theorem a3y (w : World) (a o c : Array Value) (t1 t2 t3 : Nat) : (((w.alloc (.cells a t1)).alloc (.cells o t2)).alloc (.cells c t3)).drew.heap[w.heap.size + 1]? = some (.cells o t2) := by
  have := World.alloc_heap_new (w.alloc (.cells a t1)) (.cells o t2)
  simp only [World.size_alloc] at this
  exact (Below.heap_alloc _ _ _ (by simp)).trans this
set_option maxHeartbeats 8000000 in
set_option maxRecDepth 100000 in
theorem wr_8 {l : List Nd} {i : Nat} {X8e : Int} {n x y z : Int} {tx ty : List UInt8} (hl : l.length < 1000) (hi : l[i]? = some (8, n, x, y, z)) (hle : ¬ (6 : Int) < X8e)
    (hx : WrOk l x 6 tx) (hy : WrOk l y 7 ty) : WrOk l i X8e (tx ++ [32, 43, 32] ++ ty) := by
  intro b0 off cap B b bs w hb0 hN hB hlen hBw
  have t23 := Tryz.underlying23; have a23 := Tryz.isAgg23; have z23 := Tryz.sizeOf23; have v23 := Tryz.zeroValue23
  have t78 := Tryz.underlying78; have a78 := Tryz.isAgg78; have z78 := Tryz.sizeOf78; have v78 := Tryz.zeroValue78
  have t5 := Tryz.underlying5; have a5 := Tryz.isAgg5; have z5 := Tryz.sizeOf5; have v5 := Tryz.zeroValue5
  have t2 := Tryz.underlying2; have a2 := Tryz.isAgg2; have z2 := Tryz.sizeOf2; have v2 := Tryz.zeroValue2
  have t3 := Tryz.underlying3; have a3 := Tryz.isAgg3; have z3 := Tryz.sizeOf3; have v3 := Tryz.zeroValue3
  have t9 := Tryz.underlying9; have a9 := Tryz.isAgg9; have z9 := Tryz.sizeOf9; have v9 := Tryz.zeroValue9
  have t4 := Tryz.underlying4; have a4 := Tryz.isAgg4; have z4 := Tryz.sizeOf4; have v4 := Tryz.zeroValue4
  have t136 := Tryz.underlying136; have a136 := Tryz.isAgg136; have z136 := Tryz.sizeOf136; have v136 := Tryz.zeroValue136
  have t137 := Tryz.underlying137; have a137 := Tryz.isAgg137; have z137 := Tryz.sizeOf137; have v137 := Tryz.zeroValue137
  have u23 := run_underlying Tryz.underlying23; have u78 := run_underlying Tryz.underlying78; have u5 := run_underlying Tryz.underlying5; have u2 := run_underlying Tryz.underlying2; have u3 := run_underlying Tryz.underlying3
  have u9 := run_underlying Tryz.underlying9; have u4 := run_underlying Tryz.underlying4; have u136 := run_underlying Tryz.underlying136; have u137 := run_underlying Tryz.underlying137
  have mixed : Tryz.prog.follows .mixedOrders = true := by kernel_rfl
  have e28 : ∀ args w, (callFunc 28 args).run Tryz.prog w = .ok (.enter 28 args) w := enters_of Tryz.func28 (by kernel_rfl) rfl
  have e51 : ∀ args w, (callFunc 51 args).run Tryz.prog w = .ok (.enter 51 args) w := enters_of Tryz.func51 (by kernel_rfl) rfl
  have e74 : ∀ args w, (callFunc 74 args).run Tryz.prog w = .ok (.enter 74 args) w := enters_of Tryz.func74 (by kernel_rfl) rfl
  have e75 : ∀ args w, (callFunc 75 args).run Tryz.prog w = .ok (.enter 75 args) w := enters_of Tryz.func75 (by kernel_rfl) rfl
  have e47 : ∀ args w, (callFunc 47 args).run Tryz.prog w = .ok (.enter 47 args) w := enters_of Tryz.func47 (by kernel_rfl) rfl
  obtain ⟨c0, c1, c2, c3, c4⟩ := hN i _ _ _ _ _ hi
  have hil : i < l.length := (List.getElem?_eq_some_iff.1 hi).1
  have hr1 : (i : Int) < (l.length : Int) := by omega
  go_enter Tryz.func47, Tryz.ntmps47
  go_wp2
  obtain ⟨KM, hKM⟩ : ∃ K : Act -> World -> Prop, K = (fun a w5 => ∃ (b9 : Nat) (v34 v35 v36 v37 v38 v39 : Value), a = { tmps := #[Value.pointer (some ⟨b, 0, none⟩), Value.slice (some ⟨b0, off, none⟩) l.length cap, Value.int .i64 i, Value.int .i64 X8e, undef, undef, undef, undef, Value.pointer (some ⟨w.heap.size, 0, none⟩), Value.pointer (some ⟨b9, 0, none⟩), undef, Value.slice (some ⟨b0, off, none⟩) l.length cap, Value.int .i64 i, Value.pointer (some ⟨b0, off + i * 5, none⟩), Value.agg #[Value.int .u8 8, Value.int .i64 n, Value.int .i64 x, Value.int .i64 y, Value.int .i64 z], Value.bool false, Value.pointer (some ⟨w.heap.size, 0, none⟩), Value.int .u8 8, Value.bool false, undef, undef, undef, undef, undef, Value.bool false, Value.pointer (some ⟨w.heap.size, 0, none⟩), Value.int .u8 8, Value.bool false, undef, undef, undef, undef, undef, undef, v34, v35, v36, v37, v38, v39, undef, undef, undef, undef, undef, undef, undef, undef, undef, undef, undef, undef, undef, undef, undef, undef, undef, undef, undef, undef, undef, undef, undef, undef, undef, undef, undef, undef, undef, undef, undef, undef, undef, undef, undef, undef, undef, undef, undef, undef, undef, undef, undef, undef, undef, undef, undef, undef, undef, undef], defers := [] } /\ w5.heap[b9]? = some (.cells #[.string ⟨#[32, 43, 32]⟩, .int .i64 6] 136) /\ w5.heap[w.heap.size]? = some (.cells #[.int .u8 8, .int .i64 n, .int .i64 x, .int .i64 y, .int .i64 z] 78) /\ w.heap.size < b9 /\ Below (w.heap.size + 1) (w.alloc (.cells #[.int .u8 8, .int .i64 n, .int .i64 x, .int .i64 y, .int .i64 z] 78)) w5) := ⟨_, rfl⟩
  refine Code.wp_mono (Q := Exit.then KM (fun _ _ _ => False)) ?_ ?_
  rotate_left
  · go_region_with (go_at_fn 75; refine (X00t _).mono ?_; rintro e w' ⟨rfl, rfl⟩)
    all_goals (simp only [Exit.then]; rw [hKM])
    all_goals refine ⟨_, _, _, _, _, _, _, rfl, ?_, ?_, ?_, ?_⟩
    all_goals first | exact (((Below.refl _ _).alloc (by simp) _).alloc (by simp) _).drew | exact a3x _ _ _ _ _ _ _ | exact a3o _ _ _ _ _ _ _ | exact a3y _ _ _ _ _ _ _ | omega | (simp; omega) | (simp; done)
  · intro e a w5 hq
    cases e with
    | normal =>
      have hq : KM a w5 := hq
      rw [hKM] at hq
      obtain ⟨b9, v34, v35, v36, v37, v38, v39, rfl, o9, o8, hb9, hBl⟩ := hq
      clear hKM
      have hw : Below w.heap.size w w5 := (X3f w _).trans (hBl.mono (by simp))
      have hlt := Xvo hB
      have n8 : some w.heap.size ≠ some b := by simp; omega
      have n9 : some b9 ≠ some b := by simp; omega
      have ks : ∀ w1 w2 : World, OthersKept 5 (some b) w1 w2 -> w1.heap[b9]? = some (.cells #[.string ⟨#[32, 43, 32]⟩, .int .i64 6] 136) -> w2.heap[b9]? = some (.cells #[.string ⟨#[32, 43, 32]⟩, .int .i64 6] 136) := fun w1 w2 h h1 => h _ _ h1 n9 (fun c fz e => by cases e)
      have kn : ∀ w1 w2 : World, OthersKept 5 (some b) w1 w2 -> w1.heap[w.heap.size]? = some (.cells #[.int .u8 8, .int .i64 n, .int .i64 x, .int .i64 y, .int .i64 z] 78) -> w2.heap[w.heap.size]? = some (.cells #[.int .u8 8, .int .i64 n, .int .i64 x, .int .i64 y, .int .i64 z] 78) := fun w1 w2 h h1 => h _ _ h1 n8 (fun c fz e => by cases e)
      have cs : ∀ w1 : World, w1.heap[b9]? = some (.cells #[.string ⟨#[32, 43, 32]⟩, .int .i64 6] 136) -> w1.cell? ⟨b9, 0, none⟩ = some (.string ⟨#[32, 43, 32]⟩) /\ w1.cell? ⟨b9, 1, none⟩ = some (.int .i64 6) := fun w1 h => ⟨cell_of_heap h 0, cell_of_heap h 1⟩
      have cn : ∀ w1 : World, w1.heap[w.heap.size]? = some (.cells #[.int .u8 8, .int .i64 n, .int .i64 x, .int .i64 y, .int .i64 z] 78) -> w1.cell? ⟨w.heap.size, 0, none⟩ = some (.int .u8 8) /\ w1.cell? ⟨w.heap.size, 2, none⟩ = some (.int .i64 x) /\ w1.cell? ⟨w.heap.size, 3, none⟩ = some (.int .i64 y) := fun w1 h => ⟨cell_of_heap h 0, cell_of_heap h 2, cell_of_heap h 3⟩
      obtain ⟨p50, p51⟩ := cs w5 o9
      obtain ⟨q50, q52, q53⟩ := cn w5 o8
      have hB0 : B <= w.heap.size := hBw
      have hN5 := hN.below (hw.mono hBw) hb0
      have hB5 := Xi5 hB hw
      have hBw5 : B <= w5.heap.size := Nat.le_trans hBw hw.size
      have hbl5 : Below B w w5 := hw.mono hBw
      have hok5 : OthersKept 5 (some b) w w5 := Xdy hw
      clear hBl hw
      have hl1 : bs.length + tx.length <= 1000000 := by simp only [List.length_append, List.length_cons, List.length_nil] at hlen; omega
      have hl2 : (bs ++ Lib.byteCells tx).length + ByteArray.size ⟨#[32, 43, 32]⟩ <= 1000000 := by rw [szL, List.length_append, bcl]; simp only [List.length_append, List.length_cons, List.length_nil] at hlen ⊢; omega
      have hl3 : (bs ++ Lib.byteCells tx ++ Lib.byteCells [32, 43, 32]).length + ty.length <= 1000000 := by simp only [List.length_append, bcl, List.length_cons, List.length_nil] at hlen ⊢; omega
      have H1 := hx b0 off cap B b bs w5 hb0 hN5 hB5 hl1 hBw5
      have H2 := fun (w6 : World) (h : BuilderAtF 90 5 B b (.pointer (some ⟨b, 0, none⟩)) (bs ++ Lib.byteCells tx) w6) (hb : B <= w6.heap.size) => ws (B := B) (s := ⟨#[32, 43, 32]⟩) (.inr h) hl2 hb
      have H3 := fun (w7 : World) (hn : Xn7 w7 b0 off l) (h : BuilderAtF 90 5 B b (.pointer (some ⟨b, 0, none⟩)) (bs ++ Lib.byteCells tx ++ Lib.byteCells [32, 43, 32]) w7) (hb : B <= w7.heap.size) => hy b0 off cap B b _ w7 hb0 hn (.inr h) hl3 hb
      go_wp2_with (go_at_fn 47; refine H1.mono ?_; rintro e w6 ⟨rfl, h6, be6, ok6⟩; have hb6 := Nat.le_trans hBw5 be6.size; have n6 := hN5.below be6 hb0; obtain ⟨p60, p61⟩ := cs _ (ks _ _ ok6 o9); obtain ⟨q60, q62, q63⟩ := cn _ (kn _ _ ok6 o8))
      clear H1 p50 p51 q50 q52 q53
      go_wp2_with (go_at_fn 51; refine (H2 _ h6 hb6).mono ?_; rintro e w7 ⟨rfl, h7, be7, ok7⟩; have hb7 := Nat.le_trans hb6 be7.size; have n7 := n6.below be7 hb0; obtain ⟨p70, p71⟩ := cs _ (ks _ _ ok7 (ks _ _ ok6 o9)); obtain ⟨q70, q72, q73⟩ := cn _ (kn _ _ ok7 (kn _ _ ok6 o8)))
      clear H2 p60 p61 q60 q62 q63
      go_wp2_with (go_at_fn 47; refine (H3 _ n7 h7 hb7).mono ?_; rintro e w8 ⟨rfl, hE, be8, ok8⟩)
      first | refine bodyPost_ret (results_none rfl _ _ _) rfl ?_ | refine bodyPost_end (results_none rfl _ _ _) rfl ?_
      exact ⟨rfl, (by rw [bca, bca]; simpa only [List.append_assoc] using hE), ((hbl5.trans be6).trans be7).trans be8, ((hok5.trans ok6).trans ok7).trans ok8⟩
    | _ => exact hq.elim
end Go.Proofs.Tryz
