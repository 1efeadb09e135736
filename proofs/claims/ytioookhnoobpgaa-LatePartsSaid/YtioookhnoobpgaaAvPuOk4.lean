/- The pure operations: soundness. -/
import Derived.Test.YtioookhnoobpgaaAvPuOk3
namespace Go.Av

section
variable {P : Program} {T : Ty} {c : Ctx} {H : Heap} {M : Nat → Prop} {ev : Operand → AV} {σ : Operand → Value}

theorem run_fieldPlace {w : World} {f : Field} {tf : TI} (ht : TiOk P f.type tf) (hz : tf.size ≠ 0) (a : Addr) : (fieldPlace a f).run P w = .ok (a.add f.offset) w := by
  simp [fieldPlace, run_sizeOf_ty w ht, hz]

theorem run_fieldAt {w : World} {s f off ft b o : Nat} {fs : List (Nat × Nat)} {ti tf : TI} (hs : TiOk P s ti) (hk : ti.kind = .struct fs) (hf : fs[f]? = some (off, ft)) (ht : TiOk P ft tf) (hz : tf.size ≠ 0) :
    (Instr.fieldAt s (.pointer (some ⟨b, o, none⟩)) f).run P w = .ok (.pointer (some ⟨b, o + off, none⟩)) w := by
  obtain ⟨gs, hu, hfs⟩ := under_struct hs hk
  rw [hfs, List.getElem?_map] at hf
  cases hg : gs.toList[f]? with
  | none => simp [hg] at hf
  | some g =>
    simp only [hg, Option.map_some, Option.some.injEq, Prod.mk.injEq] at hf
    obtain ⟨rfl, rfl⟩ := hf
    have hg' : gs[f]? = some g := by simpa using hg
    simp [Instr.fieldAt, run_underlying hu, hg', Instr.sureAddr, run_fieldPlace ht hz, Addr.add_lit]

theorem run_field {w : World} {s f off ft : Nat} {fs : List (Nat × Nat)} {ti : TI} {vs : Array Value} (hs : TiOk P s ti) (hk : ti.kind = .struct fs) (hf : fs[f]? = some (off, ft)) {v : Value}
    (hp : (part ft vs off).run P w = .ok v w) : (Instr.field s (.agg vs) f).run P w = .ok v w := by
  obtain ⟨gs, hu, hfs⟩ := under_struct hs hk
  rw [hfs, List.getElem?_map] at hf
  cases hg : gs.toList[f]? with
  | none => simp [hg] at hf
  | some g =>
    simp only [hg, Option.map_some, Option.some.injEq, Prod.mk.injEq] at hf
    obtain ⟨rfl, rfl⟩ := hf
    have hg' : gs[f]? = some g := by simpa using hg
    simp [Instr.field, run_underlying hu, hg', asAgg, hp]

theorem run_indexAt_sl {w : World} {t et : Nat} {ti te : TI} {a : Addr} {len cap : Nat} {k : IntKind} {i : Int} (ht : TiOk P t ti) (hk : ti.kind = .slice et) (hte : TiOk P et te) (h0 : 0 ≤ i) (hlt : i < len) :
    (Instr.indexAt t (.slice (some a) len cap) (.int k i)).run P w = .ok (.pointer (some (a.add (i.toNat * te.size)))) w := by
  have hu := under_slice ht hk
  simp [Instr.indexAt, run_underlying hu, asIntOf, h0, hlt, run_sizeOf_ty w hte]

theorem run_indexAt_ar {w : World} {t n et : Nat} {ti te : TI} {a : Addr} {k : IntKind} {i : Int} (ht : TiOk P t ti) (hk : ti.kind = .array n et) (hte : TiOk P et te) (h0 : 0 ≤ i) (hlt : i < n) :
    (Instr.indexAt t (.pointer (some a)) (.int k i)).run P w = .ok (.pointer (some (a.add (i.toNat * te.size)))) w := by
  have hu := under_array ht hk
  simp [Instr.indexAt, run_underlying hu, asIntOf, Instr.sureAddr, h0, hlt, run_sizeOf_ty w hte]

theorem run_sliceAt_sl {w : World} {t et : Nat} {ti te : TI} {a : Option Addr} {len cap l h m : Nat} {lo hi mx : Option Value} (ht : TiOk P t ti) (hk : ti.kind = .slice et) (hte : TiOk P et te)
    (hb : (Instr.sliceBounds true len cap lo hi mx).run P w = .ok (l, h, m) w) :
    (Instr.sliceAt t (.slice a len cap) lo hi mx).run P w = .ok (.slice (if m = l then a else a.map (·.add (l * te.size))) (h - l) (m - l)) w := by
  have hu := under_slice ht hk
  simp [Instr.sliceAt, run_underlying hu, Instr.slice, hb, run_sizeOf_ty w hte]

theorem run_sliceAt_str {w : World} {t : Nat} {ti : TI} {s : ByteArray} {l h m : Nat} {lo hi : Option Value} (ht : TiOk P t ti) (hk : ti.kind = .string)
    (hb : (Instr.sliceBounds false s.size s.size lo hi none).run P w = .ok (l, h, m) w) :
    (Instr.sliceAt t (.string s) lo hi none).run P w = .ok (.string (s.extract l h)) w := by
  have hu := under_string ht hk
  simp [Instr.sliceAt, run_underlying hu, Instr.slice, hb]

theorem run_shl {w : World} {k k' : IntKind} {a b : Int} (t : Nat) (x y : Operand) (h : 0 ≤ b) :
    ((do eqGuard .shl t x y (.int k a) (.int k' b); binOp .shl t (.int k a) (.int k' b) : Sem Value)).run P w = .ok (.int k (k.wrap (a * 2 ^ (min b.toNat k.bits)))) w := by
  simp [eqGuard_at_int, binOp, Op.shift, show ¬ b < 0 by omega]
theorem run_shr {w : World} {k k' : IntKind} {a b : Int} (t : Nat) (x y : Operand) (h : 0 ≤ b) :
    ((do eqGuard .shr t x y (.int k a) (.int k' b); binOp .shr t (.int k a) (.int k' b) : Sem Value)).run P w = .ok (.int k (a.fdiv (2 ^ (min b.toNat k.bits)))) w := by
  simp [eqGuard_at_int, binOp, Op.shift, show ¬ b < 0 by omega]
theorem run_quo {w : World} {k : IntKind} {a b : Int} (t : Nat) (x y : Operand) (h : b ≠ 0) :
    ((do eqGuard .quo t x y (.int k a) (.int k b); binOp .quo t (.int k a) (.int k b) : Sem Value)).run P w = .ok (.int k (k.wrap (a.tdiv b))) w := by
  simp [eqGuard_at_int, binOp, Op.intDiv, h]
theorem run_rem {w : World} {k : IntKind} {a b : Int} (t : Nat) (x y : Operand) (h : b ≠ 0) :
    ((do eqGuard .rem t x y (.int k a) (.int k b); binOp .rem t (.int k a) (.int k b) : Sem Value)).run P w = .ok (.int k (a.tmod b)) w := by
  simp [eqGuard_at_int, binOp, Op.intDiv, h]
end
end Go.Av
