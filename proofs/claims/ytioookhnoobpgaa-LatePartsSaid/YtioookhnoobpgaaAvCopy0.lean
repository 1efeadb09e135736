/- copy of nothing. -/
import Derived.Test.YtioookhnoobpgaaAvCopyR
namespace Go.Av
section
variable {P : Program} {T : Ty} {nt : Nat} {o : Oper} {s : St}
theorem OpR.copy0 (hT : TyOk P T) {d x : Operand} {t t' n1 n2 : Nat} {te : TI} {ti : TI} {et : Nat} (ho : o.op = .call { callee := .builtin .copy, args := #[d, x], argTypes := #[t, t'] })
    (hd : lenA (evA s.A d) = some n1) (hd' : ∀ u, evA s.A d ≠ .sc (.string u)) (hx : lenA (evA s.A x) = some n2) (hx' : ∀ u, evA s.A x ≠ .sc (.string u)) (hn0 : min n2 n1 = 0)
    (ht : T t = some ti) (hk : ti.kind = .slice et) (hte : T et = some te) : OpR P nt o s (fun a' H' n' => a' = .sc (goInt 0) ∧ H' = s.H ∧ n' = s.n) := by
  intro c0 H0 n0 c act g K Q hK
  obtain ⟨p1, q1, h1⟩ := (g.ev d).len_inv hd hd'
  obtain ⟨p2, q2, h2⟩ := (g.ev x).len_inv hx hx'
  have hmin : Nat.min n2 n1 = 0 := hn0
  have hrun : (execOp act.eval o).run P c.w = .ok (.value (goInt 0)) c.w := by
    have hu := under_slice (hT t ti ht) hk
    cases p1 <;> cases p2 <;>
      simp [execOp, ho, resolve, invoke, builtin, Builtin.copy_, h1, h2, run_underlying hu, Builtin.lenOf, hmin, run_sizeOf_ty c.w (hT et te hte), Builtin.firstCells, loadCells, loadCellsFrom, storeCells] <;> (try omega)
  unfold Oper.wp
  rw [hrun]
  exact hK c _ _ _ _ ⟨rfl, rfl, rfl⟩ fun dst hd => g.next hd (.refl c) rfl (fun b hb => .inl hb) (.refl c s.H) (fun q x hx => .inr ⟨q, x, hx, rfl⟩) g.inv g.solo (Nat.le_refl _) .sc .sc
end
end Go.Av
