/- copy as an operation. -/
import Derived.Test.YtioookhnoobpgaaAvCopy
namespace Go.Av
section
variable {P : Program} {T : Ty} {nt : Nat} {o : Oper} {s : St}

theorem OpR.copy (hT : TyOk P T) {d x : Operand} {t t' q off len : Nat} {y : Obj} {xs : List AV} {te : TI} {ti : TI} {et : Nat} (ho : o.op = .call { callee := .builtin .copy, args := #[d, x], argTypes := #[t, t'] })
    (hd : evA s.A d = .ref q off len) (hH : s.H q = some y) (hle : off + len ≤ y.es.length) (hx : SrcR s.H (evA s.A x) xs) (hn0 : min xs.length len ≠ 0)
    (ht : T t = some ti) (hk : ti.kind = .slice et) (hte : T et = some te) (hsz : ∀ e ∈ xs, e.cells.length = te.size) (hes : y.esz = te.size) :
    OpR P nt o s (fun a' H' n' => a' = .sc (goInt (min xs.length len)) ∧ H' = upd s.H q (some { y with es := splice y.es off (xs.take (min xs.length len)) }) ∧ n' = s.n) := by
  intro c0 H0 n0 c act g K Q hK
  obtain ⟨c', h1, hle', hsa, hso, hI, hfr, hown⟩ := copy_ok (σ := act.eval) hT g.inv g.ev o.type hd hH (g.solo q y hH).1 hle hx hn0 ht hk hte hsz hes (t' := t')
  have hrun : (execOp act.eval o).run P c.w = .ok (.value (goInt (min xs.length len))) c'.w := by
    simp [execOp, ho, resolve, invoke, builtin, h1]
  unfold Oper.wp
  rw [hrun]
  have hs : ∀ r z, upd s.H q (some { y with es := splice y.es off (xs.take (min xs.length len)) }) r = some z → z.solo = true ∧ z.spent = false := by
    intro r z hz
    by_cases hr : r = q
    · subst hr; rw [upd_same] at hz; cases hz; exact g.solo r y hH
    · rw [upd_other _ _ hr] at hz; exact g.solo r z hz
  exact hK c' _ _ _ _ ⟨rfl, rfl, rfl⟩ fun dst hd => g.next hd hle' hsa (fun b hb => .inl (by rw [hso] at hb; exact hb)) hfr hown hI hs (Nat.le_refl _) .sc .sc
end
end Go.Av
