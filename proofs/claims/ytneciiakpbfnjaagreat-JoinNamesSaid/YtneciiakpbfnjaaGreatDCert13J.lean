/- Printed by decomp.py: that the program computes the functions. -/
import Derived.Test.YtneciiakpbfnjaaGreatDCert0J
import Derived.Test.YtneciiakpbfnjaaGreatDCert5J
import Derived.Test.YtneciiakpbfnjaaGreatDCert6J
import Derived.Test.YtneciiakpbfnjaaGreatDCert7J
import Derived.Test.YtneciiakpbfnjaaGreatDCert9J
import Derived.Test.YtneciiakpbfnjaaGreatDCert10J
import Derived.Test.YtneciiakpbfnjaaGreatDCert11J
import Derived.Test.YtneciiakpbfnjaaGreatDCert12J
set_option linter.all false
set_option linter.unusedVariables false
namespace Go.Av.Tryz
open Go.Proofs Go.D
set_option maxRecDepth 10000
set_option maxHeartbeats 4000000

def unownC : AV → AV
 | .list true es => .list false es
 | a => a
def unownA : AV → AV
 | .agg cs => .agg (cs.map unownC)
 | a => unownC a
theorem unown_cells (e : AV) : (unownA e).cells = e.cells.map unownC := by
 cases e <;> try rfl
 rename_i own es; cases own <;> rfl
theorem unownC_rel {c : Ctx} {d : Bool} {a : AV} {v : Value} (h : VRel c d a v) : VRel c d (unownC a) v := by
 unfold unownC
 split
 ·cases h with
  | listNil => exact .listNil
  | list vf hne hS hn hcap hsz hc h1 hr => exact .list vf hne (.inr (hS.resolve_left fun h => by cases h.1)) hn hcap hsz hc h1 hr
 ·exact h
theorem unownC_ok {M : Nat → Prop} {a : AV} (h : a.Ok M) : (unownC a).Ok M := by
 unfold unownC
 split
 ·exact .list
 ·exact h
theorem unown_obj {c : Ctx} {p : Pl} {y : Obj} (h : ObjRel c p y) : ObjRel c p { y with es := y.es.map unownA } := by
 obtain ⟨⟨cur, h1, h2, h3⟩, h4, h5, h6⟩ := h
 refine ⟨⟨cur, h1, h2, fun i e he => ?_⟩, by simpa using h4, h5, h6⟩
 simp only [List.getElem?_map, Option.map_eq_some_iff] at he
 obtain ⟨e0, he0, rfl⟩ := he
 obtain ⟨g1, g2⟩ := h3 i e0 he0
 rw [unown_cells]
 refine ⟨by simpa using g1, fun k a ha => ?_⟩
 simp only [List.getElem?_map, Option.map_eq_some_iff] at ha
 obtain ⟨a0, ha0, rfl⟩ := ha
 obtain ⟨v, v1, v2, v3⟩ := g2 k a0 ha0
 exact ⟨v, v1, unownC_rel v2, v3⟩
theorem SemK.unown {P : Program} {nt n0 n : Nat} {Q : AExit → St → Mu → Prop} {cf : Cf} {K : List Kn} {μ : Mu} {L : List (Nat × AV)} {G : List (Nat × Obj)} {y : Obj} (q : Nat) (es' : List AV) (hy : hp G q = some y) (he : y.es.map unownA = es')
  (h : SemK P nt n0 Q cf K ⟨fr L, hp ((q, { y with es := es' }) :: G), n⟩ μ) : SemK P nt n0 Q cf K ⟨fr L, hp G, n⟩ μ := by
 subst he
 have hd : ∀ o x', hp ((q, { y with es := y.es.map unownA }) :: G) o = some x' → ∃ x, hp G o = some x ∧ x'.esz = x.esz ∧ x'.solo = x.solo ∧ x'.spent = x.spent ∧ x'.es.length = x.es.length ∧ (x' = x ∨ (o = q ∧ x = y ∧ x' = { y with es := y.es.map unownA })) := by
  intro o x' hx
  by_cases ho : o = q
  ·subst ho
   rw [show hp ((o, { y with es := y.es.map unownA }) :: G) o = some { y with es := y.es.map unownA } by simp [hp]] at hx
   cases hx
   exact ⟨y, hy, rfl, rfl, rfl, by simp, .inr ⟨rfl, rfl, rfl⟩⟩
  ·have : hp ((q, { y with es := y.es.map unownA }) :: G) o = hp G o := by
    have hb : Nat.beq o q = false := by rw [← Bool.not_eq_true, Nat.beq_eq]; exact ho
    simp [hp, hb]
   rw [this] at hx
   exact ⟨x', hx, rfl, rfl, rfl, rfl, .inl rfl⟩
 refine SemK.sub (s' := ⟨fr L, hp ((q, { y with es := y.es.map unownA }) :: G), n⟩) (fun c0 H0 c act μ g hm => ⟨?_, ?_⟩) h
 ·refine ⟨⟨fun o x' hx => ?_, fun o o' x1 x2 h1 h2 hne hb => ?_, fun o x' hx => ?_, g.inv.lt, g.inv.base, g.inv.own, fun o x' hx => ?_⟩, fun o x' hx => ?_, g.frame, g.ok, g.size, g.defers, ?_, g.le0⟩
  ·obtain ⟨x, hx0, _, _, _, _, hc⟩ := hd o x' hx
   obtain ⟨i1, i2, i3⟩ := g.inv.obj o x hx0
   rcases hc with rfl | ⟨rfl, rfl, rfl⟩
   ·exact ⟨i1, i2, i3⟩
   ·refine ⟨i1, unown_obj i2, fun e he a ha => ?_⟩
    obtain ⟨e0, he0, rfl⟩ := List.mem_map.1 he
    rw [unown_cells] at ha
    obtain ⟨a0, ha0, rfl⟩ := List.mem_map.1 ha
    exact unownC_ok (i3 e0 he0 a0 ha0)
  ·obtain ⟨y1, hy1, e1, s1, p1, l1, _⟩ := hd o x1 h1
   obtain ⟨y2, hy2, e2, s2, p2, l2, _⟩ := hd o' x2 h2
   have := g.inv.sep o o' y1 y2 hy1 hy2 hne hb
   rw [s1, p1, p2, l1, l2, e1, e2]; exact this
  ·obtain ⟨x, hx0, _⟩ := hd o x' hx; exact g.inv.stab o x hx0
  ·obtain ⟨x, hx0, _⟩ := hd o x' hx; exact g.inv.low o x hx0
  ·obtain ⟨x, hx0, _, s1, p1, _⟩ := hd o x' hx; rw [s1, p1]; exact g.solo o x hx0
  ·have r := g.reach
   exact ⟨r.rho, r.os, r.tape, r.output, r.size, r.block, r.stable, r.sa, r.so1, r.so2, r.B, fun o x' hx => by obtain ⟨x, hx0, _⟩ := hd o x' hx; exact r.own o x hx0⟩
 ·exact ⟨hm.is, fun p hp => by
   obtain ⟨a1, a2, a3, a4⟩ := hm.away p hp
   exact ⟨a1, a2, fun o x' hx => by obtain ⟨x, hx0, _⟩ := hd o x' hx; exact a3 o x hx0, a4⟩, hm.nodup⟩
theorem join_Take_ok (a0 : GQuery) (a1 : GTask) (a2 : Int) (a3 : GMessage) (r : GTask × Int) (h : join_Take a0 a1 a2 a3 = some r) : Pure Tryz.prog 18 [(enc_GQuery false a0), (enc_GTask false a1), (aI .i64 a2), (enc_GMessage a3)] (AV.tup [(enc_GTask true r.1), (aI .i64 r.2)]) := by
 refine Pure.sym tyTab_ok fn18 (nt := 153) rfl rfl ?_ (allCons (free_GQuery false _ _).1 (allCons (free_GTask false _ _).1 (allCons .sc (allCons (free_GMessage _ _).1 allNil))))
 unfold join_Take at h
 refine bindE h ?_
 clear h; intro v1 h2 h
 refine brE h ?_ ?_
 ·clear h; intro h3 h
  obtain rfl := Option.some.inj h
  refine run_to tmD 4000 [.pure [(enc_GQuery false a0)] (aB v1), .br true] rfl (by repeat' first | refine And.intro ?_ ?_ | exact (PureCall.none (join_accepted_ok _ _ h2) (Cvs.cons (cv_agg (Cvs.cons .sc (Cvs.cons (cv_list (flat_map flat_GNode a0.Arg)) (Cvs.cons (cv_list (flat_map (fun _ => flatSc) a0.Sources)) (Cvs.cons .sc (Cvs.cons (cv_list (flat_map flat_GNode a0.Where)) (Cvs.cons .sc (Cvs.cons .sc (Cvs.cons .sc (Cvs.cons .sc (Cvs.cons .sc Cvs.nil))))))))))) Cvs.nil)) | exact oblA) ?_
  refine fin_ret rfl ?_
  exact (cv_tup (Cvs.cons (cv_agg (Cvs.cons .sc (Cvs.cons .sc (Cvs.cons .sc (Cvs.cons (cv_nils (es := List.map enc_GSend ((GTask.mk (GOp.mk 0 0) 0 ([] : List GSend) ([] : List Int) ([] : List GEntry) ([] : List GEvent) ([] : List GRow) ([] : List GRecord)).Pending)) (by simp [*])) (Cvs.cons (cv_nils (es := List.map (aI .i64) ((GTask.mk (GOp.mk 0 0) 0 ([] : List GSend) ([] : List Int) ([] : List GEntry) ([] : List GEvent) ([] : List GRow) ([] : List GRecord)).Marks)) (by simp [*])) (Cvs.cons (cv_nils (es := List.map enc_GEntry ((GTask.mk (GOp.mk 0 0) 0 ([] : List GSend) ([] : List Int) ([] : List GEntry) ([] : List GEvent) ([] : List GRow) ([] : List GRecord)).Store)) (by simp [*])) (Cvs.cons (cv_nils (es := List.map enc_GEvent ((GTask.mk (GOp.mk 0 0) 0 ([] : List GSend) ([] : List Int) ([] : List GEntry) ([] : List GEvent) ([] : List GRow) ([] : List GRecord)).Events)) (by simp [*])) (Cvs.cons (cv_nils (es := List.map enc_GRow ((GTask.mk (GOp.mk 0 0) 0 ([] : List GSend) ([] : List Int) ([] : List GEntry) ([] : List GEvent) ([] : List GRow) ([] : List GRecord)).Rows)) (by simp [*])) (Cvs.cons (cv_nils (es := List.map enc_GRecord ((GTask.mk (GOp.mk 0 0) 0 ([] : List GSend) ([] : List Int) ([] : List GEntry) ([] : List GEvent) ([] : List GRow) ([] : List GRecord)).Late)) (by simp [*])) Cvs.nil)))))))))) (Cvs.cons .sc Cvs.nil)))
 ·clear h; intro h3 h
  refine bindE h ?_
  clear h; intro v4 h5 h
  refine brE h ?_ ?_
  ·clear h; intro h6 h
   obtain rfl := Option.some.inj h
   refine run_to tmD 4000 [.pure [(enc_GQuery false a0)] (aB v1), .br false, .pure [(enc_GTask false a1)] (aI .i64 v4), .br true] rfl (by repeat' first | refine And.intro ?_ ?_ | exact (PureCall.none (join_accepted_ok _ _ h2) (Cvs.cons (cv_agg (Cvs.cons .sc (Cvs.cons (cv_list (flat_map flat_GNode a0.Arg)) (Cvs.cons (cv_list (flat_map (fun _ => flatSc) a0.Sources)) (Cvs.cons .sc (Cvs.cons (cv_list (flat_map flat_GNode a0.Where)) (Cvs.cons .sc (Cvs.cons .sc (Cvs.cons .sc (Cvs.cons .sc (Cvs.cons .sc Cvs.nil))))))))))) Cvs.nil)) | exact (PureCall.none (task_Check_ok _ _ h5) (Cvs.cons (cv_agg (Cvs.cons .sc (Cvs.cons .sc (Cvs.cons .sc (Cvs.cons (cv_list (flat_map flat_GSend a1.Pending)) (Cvs.cons (cv_list (flat_map (fun _ => flatSc) a1.Marks)) (Cvs.cons (cv_list (flat_map flat_GEntry a1.Store)) (Cvs.cons (cv_list (flat_map flat_GEvent a1.Events)) (Cvs.cons (cv_list (flat_map flat_GRow a1.Rows)) (Cvs.cons (cv_list (flat_map flat_GRecord a1.Late)) Cvs.nil)))))))))) Cvs.nil)) | exact oblA) ?_
   refine fin_ret rfl ?_
   exact (cv_tup (Cvs.cons (cv_agg (Cvs.cons .sc (Cvs.cons .sc (Cvs.cons .sc (Cvs.cons (cv_nils (es := List.map enc_GSend ((GTask.mk (GOp.mk 0 0) 0 ([] : List GSend) ([] : List Int) ([] : List GEntry) ([] : List GEvent) ([] : List GRow) ([] : List GRecord)).Pending)) (by simp [*])) (Cvs.cons (cv_nils (es := List.map (aI .i64) ((GTask.mk (GOp.mk 0 0) 0 ([] : List GSend) ([] : List Int) ([] : List GEntry) ([] : List GEvent) ([] : List GRow) ([] : List GRecord)).Marks)) (by simp [*])) (Cvs.cons (cv_nils (es := List.map enc_GEntry ((GTask.mk (GOp.mk 0 0) 0 ([] : List GSend) ([] : List Int) ([] : List GEntry) ([] : List GEvent) ([] : List GRow) ([] : List GRecord)).Store)) (by simp [*])) (Cvs.cons (cv_nils (es := List.map enc_GEvent ((GTask.mk (GOp.mk 0 0) 0 ([] : List GSend) ([] : List Int) ([] : List GEntry) ([] : List GEvent) ([] : List GRow) ([] : List GRecord)).Events)) (by simp [*])) (Cvs.cons (cv_nils (es := List.map enc_GRow ((GTask.mk (GOp.mk 0 0) 0 ([] : List GSend) ([] : List Int) ([] : List GEntry) ([] : List GEvent) ([] : List GRow) ([] : List GRecord)).Rows)) (by simp [*])) (Cvs.cons (cv_nils (es := List.map enc_GRecord ((GTask.mk (GOp.mk 0 0) 0 ([] : List GSend) ([] : List Int) ([] : List GEntry) ([] : List GEvent) ([] : List GRow) ([] : List GRecord)).Late)) (by simp [*])) Cvs.nil)))))))))) (Cvs.cons .sc Cvs.nil)))
  ·clear h; intro h6 h
   refine brE h ?_ ?_
   ·clear h; intro h7 h
    obtain rfl := Option.some.inj h
    refine run_to tmD 4000 [.pure [(enc_GQuery false a0)] (aB v1), .br false, .pure [(enc_GTask false a1)] (aI .i64 v4), .br false, .br true] rfl (by repeat' first | refine And.intro ?_ ?_ | exact (PureCall.none (join_accepted_ok _ _ h2) (Cvs.cons (cv_agg (Cvs.cons .sc (Cvs.cons (cv_list (flat_map flat_GNode a0.Arg)) (Cvs.cons (cv_list (flat_map (fun _ => flatSc) a0.Sources)) (Cvs.cons .sc (Cvs.cons (cv_list (flat_map flat_GNode a0.Where)) (Cvs.cons .sc (Cvs.cons .sc (Cvs.cons .sc (Cvs.cons .sc (Cvs.cons .sc Cvs.nil))))))))))) Cvs.nil)) | exact (PureCall.none (task_Check_ok _ _ h5) (Cvs.cons (cv_agg (Cvs.cons .sc (Cvs.cons .sc (Cvs.cons .sc (Cvs.cons (cv_list (flat_map flat_GSend a1.Pending)) (Cvs.cons (cv_list (flat_map (fun _ => flatSc) a1.Marks)) (Cvs.cons (cv_list (flat_map flat_GEntry a1.Store)) (Cvs.cons (cv_list (flat_map flat_GEvent a1.Events)) (Cvs.cons (cv_list (flat_map flat_GRow a1.Rows)) (Cvs.cons (cv_list (flat_map flat_GRecord a1.Late)) Cvs.nil)))))))))) Cvs.nil)) | exact oblA) ?_
    refine fin_ret rfl ?_
    exact (cv_tup (Cvs.cons (cv_agg (Cvs.cons .sc (Cvs.cons .sc (Cvs.cons .sc (Cvs.cons (cv_nils (es := List.map enc_GSend ((GTask.mk (GOp.mk 0 0) 0 ([] : List GSend) ([] : List Int) ([] : List GEntry) ([] : List GEvent) ([] : List GRow) ([] : List GRecord)).Pending)) (by simp [*])) (Cvs.cons (cv_nils (es := List.map (aI .i64) ((GTask.mk (GOp.mk 0 0) 0 ([] : List GSend) ([] : List Int) ([] : List GEntry) ([] : List GEvent) ([] : List GRow) ([] : List GRecord)).Marks)) (by simp [*])) (Cvs.cons (cv_nils (es := List.map enc_GEntry ((GTask.mk (GOp.mk 0 0) 0 ([] : List GSend) ([] : List Int) ([] : List GEntry) ([] : List GEvent) ([] : List GRow) ([] : List GRecord)).Store)) (by simp [*])) (Cvs.cons (cv_nils (es := List.map enc_GEvent ((GTask.mk (GOp.mk 0 0) 0 ([] : List GSend) ([] : List Int) ([] : List GEntry) ([] : List GEvent) ([] : List GRow) ([] : List GRecord)).Events)) (by simp [*])) (Cvs.cons (cv_nils (es := List.map enc_GRow ((GTask.mk (GOp.mk 0 0) 0 ([] : List GSend) ([] : List Int) ([] : List GEntry) ([] : List GEvent) ([] : List GRow) ([] : List GRecord)).Rows)) (by simp [*])) (Cvs.cons (cv_nils (es := List.map enc_GRecord ((GTask.mk (GOp.mk 0 0) 0 ([] : List GSend) ([] : List Int) ([] : List GEntry) ([] : List GEvent) ([] : List GRow) ([] : List GRecord)).Late)) (by simp [*])) Cvs.nil)))))))))) (Cvs.cons .sc Cvs.nil)))
   ·clear h; intro h7 h
    refine bindE h ?_
    clear h; intro v8 h9 h
    refine run_to tmD 4000 [.pure [(enc_GQuery false a0)] (aB v1), .br false, .pure [(enc_GTask false a1)] (aI .i64 v4), .br false, .br false, .pure [(enc_GMessage a3)] (aI .i64 v8)] rfl (by repeat' first | refine And.intro ?_ ?_ | exact (PureCall.none (join_accepted_ok _ _ h2) (Cvs.cons (cv_agg (Cvs.cons .sc (Cvs.cons (cv_list (flat_map flat_GNode a0.Arg)) (Cvs.cons (cv_list (flat_map (fun _ => flatSc) a0.Sources)) (Cvs.cons .sc (Cvs.cons (cv_list (flat_map flat_GNode a0.Where)) (Cvs.cons .sc (Cvs.cons .sc (Cvs.cons .sc (Cvs.cons .sc (Cvs.cons .sc Cvs.nil))))))))))) Cvs.nil)) | exact (PureCall.none (task_Check_ok _ _ h5) (Cvs.cons (cv_agg (Cvs.cons .sc (Cvs.cons .sc (Cvs.cons .sc (Cvs.cons (cv_list (flat_map flat_GSend a1.Pending)) (Cvs.cons (cv_list (flat_map (fun _ => flatSc) a1.Marks)) (Cvs.cons (cv_list (flat_map flat_GEntry a1.Store)) (Cvs.cons (cv_list (flat_map flat_GEvent a1.Events)) (Cvs.cons (cv_list (flat_map flat_GRow a1.Rows)) (Cvs.cons (cv_list (flat_map flat_GRecord a1.Late)) Cvs.nil)))))))))) Cvs.nil)) | exact (PureCall.none (message_Check_ok _ _ h9) (Cvs.cons (cvf_GMessage (x := a3)) Cvs.nil)) | exact oblA) ?_
    refine brE h ?_ ?_
    ·clear h; intro h10 h
     obtain rfl := Option.some.inj h
     refine runT tmD [.br true] ?_
     refine fin_ret rfl ?_
     exact (cv_tup (Cvs.cons (cv_agg (Cvs.cons .sc (Cvs.cons .sc (Cvs.cons .sc (Cvs.cons (cv_nils (es := List.map enc_GSend ((GTask.mk (GOp.mk 0 0) 0 ([] : List GSend) ([] : List Int) ([] : List GEntry) ([] : List GEvent) ([] : List GRow) ([] : List GRecord)).Pending)) (by simp [*])) (Cvs.cons (cv_nils (es := List.map (aI .i64) ((GTask.mk (GOp.mk 0 0) 0 ([] : List GSend) ([] : List Int) ([] : List GEntry) ([] : List GEvent) ([] : List GRow) ([] : List GRecord)).Marks)) (by simp [*])) (Cvs.cons (cv_nils (es := List.map enc_GEntry ((GTask.mk (GOp.mk 0 0) 0 ([] : List GSend) ([] : List Int) ([] : List GEntry) ([] : List GEvent) ([] : List GRow) ([] : List GRecord)).Store)) (by simp [*])) (Cvs.cons (cv_nils (es := List.map enc_GEvent ((GTask.mk (GOp.mk 0 0) 0 ([] : List GSend) ([] : List Int) ([] : List GEntry) ([] : List GEvent) ([] : List GRow) ([] : List GRecord)).Events)) (by simp [*])) (Cvs.cons (cv_nils (es := List.map enc_GRow ((GTask.mk (GOp.mk 0 0) 0 ([] : List GSend) ([] : List Int) ([] : List GEntry) ([] : List GEvent) ([] : List GRow) ([] : List GRecord)).Rows)) (by simp [*])) (Cvs.cons (cv_nils (es := List.map enc_GRecord ((GTask.mk (GOp.mk 0 0) 0 ([] : List GSend) ([] : List Int) ([] : List GEntry) ([] : List GEvent) ([] : List GRow) ([] : List GRecord)).Late)) (by simp [*])) Cvs.nil)))))))))) (Cvs.cons .sc Cvs.nil)))
    ·clear h; intro h10 h
     refine brE h ?_ ?_
     ·clear h; intro h11 h
      obtain rfl := Option.some.inj h
      refine runT tmD [.br false, .el (aI .i64 (List.length a1.Pending : Int)), .br true] ?_
      refine fin_ret rfl ?_
      exact (cv_tup (Cvs.cons (cv_agg (Cvs.cons .sc (Cvs.cons .sc (Cvs.cons .sc (Cvs.cons (cv_nils (es := List.map enc_GSend ((GTask.mk (GOp.mk 0 0) 0 ([] : List GSend) ([] : List Int) ([] : List GEntry) ([] : List GEvent) ([] : List GRow) ([] : List GRecord)).Pending)) (by simp [*])) (Cvs.cons (cv_nils (es := List.map (aI .i64) ((GTask.mk (GOp.mk 0 0) 0 ([] : List GSend) ([] : List Int) ([] : List GEntry) ([] : List GEvent) ([] : List GRow) ([] : List GRecord)).Marks)) (by simp [*])) (Cvs.cons (cv_nils (es := List.map enc_GEntry ((GTask.mk (GOp.mk 0 0) 0 ([] : List GSend) ([] : List Int) ([] : List GEntry) ([] : List GEvent) ([] : List GRow) ([] : List GRecord)).Store)) (by simp [*])) (Cvs.cons (cv_nils (es := List.map enc_GEvent ((GTask.mk (GOp.mk 0 0) 0 ([] : List GSend) ([] : List Int) ([] : List GEntry) ([] : List GEvent) ([] : List GRow) ([] : List GRecord)).Events)) (by simp [*])) (Cvs.cons (cv_nils (es := List.map enc_GRow ((GTask.mk (GOp.mk 0 0) 0 ([] : List GSend) ([] : List Int) ([] : List GEntry) ([] : List GEvent) ([] : List GRow) ([] : List GRecord)).Rows)) (by simp [*])) (Cvs.cons (cv_nils (es := List.map enc_GRecord ((GTask.mk (GOp.mk 0 0) 0 ([] : List GSend) ([] : List Int) ([] : List GEntry) ([] : List GEvent) ([] : List GRow) ([] : List GRecord)).Late)) (by simp [*])) Cvs.nil)))))))))) (Cvs.cons .sc Cvs.nil)))
     ·clear h; intro h11 h
      refine brE h ?_ ?_
      ·clear h; intro h12 h
       refine bindE h ?_
       clear h; intro v13 h14 h
       refine run_to tmD 4000 [.br false, .el (aI .i64 (List.length a1.Pending : Int)), .br false, .br true, .pure [(AV.list false (List.map enc_GEntry a1.Store)), (enc_GWindow a0.Window), (enc_GRecord a3.Record), (aI .i64 a2)] (AV.tup [(AV.list true (List.map enc_GEntry v13.1)), (aI .i64 v13.2)])] rfl (by repeat' first | refine And.intro ?_ ?_ | exact (PureCall.none (store_Add_ok _ _ _ _ _ h14) (Cvs.cons (cv_list (flat_map flat_GEntry a1.Store)) (Cvs.cons (cvf_GWindow (x := a0.Window)) (Cvs.cons (cvf_GRecord (x := a3.Record)) (Cvs.cons .sc Cvs.nil))))) | exact oblA) ?_
       refine brE h ?_ ?_
       ·clear h; intro h15 h
        obtain rfl := Option.some.inj h
        refine runT tmD [.br true] ?_
        refine fin_ret rfl ?_
        exact (cv_tup (Cvs.cons (cv_agg (Cvs.cons .sc (Cvs.cons .sc (Cvs.cons .sc (Cvs.cons (cv_nils (es := List.map enc_GSend ((GTask.mk (GOp.mk 0 0) 0 ([] : List GSend) ([] : List Int) ([] : List GEntry) ([] : List GEvent) ([] : List GRow) ([] : List GRecord)).Pending)) (by simp [*])) (Cvs.cons (cv_nils (es := List.map (aI .i64) ((GTask.mk (GOp.mk 0 0) 0 ([] : List GSend) ([] : List Int) ([] : List GEntry) ([] : List GEvent) ([] : List GRow) ([] : List GRecord)).Marks)) (by simp [*])) (Cvs.cons (cv_nils (es := List.map enc_GEntry ((GTask.mk (GOp.mk 0 0) 0 ([] : List GSend) ([] : List Int) ([] : List GEntry) ([] : List GEvent) ([] : List GRow) ([] : List GRecord)).Store)) (by simp [*])) (Cvs.cons (cv_nils (es := List.map enc_GEvent ((GTask.mk (GOp.mk 0 0) 0 ([] : List GSend) ([] : List Int) ([] : List GEntry) ([] : List GEvent) ([] : List GRow) ([] : List GRecord)).Events)) (by simp [*])) (Cvs.cons (cv_nils (es := List.map enc_GRow ((GTask.mk (GOp.mk 0 0) 0 ([] : List GSend) ([] : List Int) ([] : List GEntry) ([] : List GEvent) ([] : List GRow) ([] : List GRecord)).Rows)) (by simp [*])) (Cvs.cons (cv_nils (es := List.map enc_GRecord ((GTask.mk (GOp.mk 0 0) 0 ([] : List GSend) ([] : List Int) ([] : List GEntry) ([] : List GEvent) ([] : List GRow) ([] : List GRecord)).Late)) (by simp [*])) Cvs.nil)))))))))) (Cvs.cons .sc Cvs.nil)))
       ·clear h; intro h15 h
        refine bindE h ?_
        clear h; intro v16 h17 h
        obtain rfl := Option.some.inj h
        refine run_to tmD 4000 [.br false, .pure [(enc_GTask false (GTask.mk a1.Op a1.Turn a1.Pending a1.Marks v13.1 a1.Events a1.Rows a1.Late)), (AV.list false (List.map enc_GSend ([] : List GSend)))] (AV.tup [(enc_GTask true v16.1), (aI .i64 v16.2)])] rfl (by repeat' first | refine And.intro ?_ ?_ | exact (PureCall.none (task_Pend_ok _ _ _ h17) (Cvs.cons (cv_agg (Cvs.cons .sc (Cvs.cons .sc (Cvs.cons .sc (Cvs.cons (cv_list (flat_map flat_GSend ((GTask.mk a1.Op a1.Turn a1.Pending a1.Marks v13.1 a1.Events a1.Rows a1.Late).Pending))) (Cvs.cons (cv_list (flat_map (fun _ => flatSc) ((GTask.mk a1.Op a1.Turn a1.Pending a1.Marks v13.1 a1.Events a1.Rows a1.Late).Marks))) (Cvs.cons (cv_list (flat_map flat_GEntry ((GTask.mk a1.Op a1.Turn a1.Pending a1.Marks v13.1 a1.Events a1.Rows a1.Late).Store))) (Cvs.cons (cv_list (flat_map flat_GEvent ((GTask.mk a1.Op a1.Turn a1.Pending a1.Marks v13.1 a1.Events a1.Rows a1.Late).Events))) (Cvs.cons (cv_list (flat_map flat_GRow ((GTask.mk a1.Op a1.Turn a1.Pending a1.Marks v13.1 a1.Events a1.Rows a1.Late).Rows))) (Cvs.cons (cv_list (flat_map flat_GRecord ((GTask.mk a1.Op a1.Turn a1.Pending a1.Marks v13.1 a1.Events a1.Rows a1.Late).Late))) Cvs.nil)))))))))) (Cvs.cons (cv_nils (es := List.map enc_GSend ([] : List GSend)) (by simp [*])) Cvs.nil))) | exact oblA) ?_
        refine fin_ret rfl ?_
        exact (cv_tup (Cvs.cons (cv_agg (Cvs.cons .sc (Cvs.cons .sc (Cvs.cons .sc (Cvs.cons (.listS rfl) (Cvs.cons (.listS rfl) (Cvs.cons (.listS rfl) (Cvs.cons (.listS rfl) (Cvs.cons (.listS rfl) (Cvs.cons (.listS rfl) Cvs.nil)))))))))) (Cvs.cons .sc Cvs.nil)))
      ·clear h; intro h12 h
       refine bindE h ?_
       clear h; intro v18 h19 h
       refine run_to tmD 4000 [.br false, .el (aI .i64 (List.length a1.Pending : Int)), .br false, .br false, .pure [(AV.list false (List.map (aI .i64) a1.Marks)), (aI .i64 a2), (aI .i64 a3.Time)] (AV.tup [(AV.list true (List.map (aI .i64) v18.1)), (aB v18.2.1), (aI .i64 v18.2.2)])] rfl (by repeat' first | refine And.intro ?_ ?_ | exact (PureCall.none (marks_Raise_ok _ _ _ _ h19) (Cvs.cons (cv_list (flat_map (fun _ => flatSc) a1.Marks)) (Cvs.cons .sc (Cvs.cons .sc Cvs.nil)))) | exact oblA) ?_
       refine brE h ?_ ?_
       ·clear h; intro h20 h
        refine bindE h ?_
        clear h; intro v21 h22 h
        obtain rfl := Option.some.inj h
        refine run_to tmD 4000 [.br true, .pure [(enc_GTask false (GTask.mk a1.Op a1.Turn a1.Pending v18.1 a1.Store a1.Events a1.Rows a1.Late)), (AV.list false (List.map enc_GSend ([] : List GSend)))] (AV.tup [(enc_GTask true v21.1), (aI .i64 v21.2)])] rfl (by repeat' first | refine And.intro ?_ ?_ | exact (PureCall.none (task_Pend_ok _ _ _ h22) (Cvs.cons (cv_agg (Cvs.cons .sc (Cvs.cons .sc (Cvs.cons .sc (Cvs.cons (cv_list (flat_map flat_GSend ((GTask.mk a1.Op a1.Turn a1.Pending v18.1 a1.Store a1.Events a1.Rows a1.Late).Pending))) (Cvs.cons (cv_list (flat_map (fun _ => flatSc) ((GTask.mk a1.Op a1.Turn a1.Pending v18.1 a1.Store a1.Events a1.Rows a1.Late).Marks))) (Cvs.cons (cv_list (flat_map flat_GEntry ((GTask.mk a1.Op a1.Turn a1.Pending v18.1 a1.Store a1.Events a1.Rows a1.Late).Store))) (Cvs.cons (cv_list (flat_map flat_GEvent ((GTask.mk a1.Op a1.Turn a1.Pending v18.1 a1.Store a1.Events a1.Rows a1.Late).Events))) (Cvs.cons (cv_list (flat_map flat_GRow ((GTask.mk a1.Op a1.Turn a1.Pending v18.1 a1.Store a1.Events a1.Rows a1.Late).Rows))) (Cvs.cons (cv_list (flat_map flat_GRecord ((GTask.mk a1.Op a1.Turn a1.Pending v18.1 a1.Store a1.Events a1.Rows a1.Late).Late))) Cvs.nil)))))))))) (Cvs.cons (cv_nils (es := List.map enc_GSend ([] : List GSend)) (by simp [*])) Cvs.nil))) | exact oblA) ?_
        refine fin_ret rfl ?_
        exact (cv_tup (Cvs.cons (cv_agg (Cvs.cons .sc (Cvs.cons .sc (Cvs.cons .sc (Cvs.cons (.listS rfl) (Cvs.cons (.listS rfl) (Cvs.cons (.listS rfl) (Cvs.cons (.listS rfl) (Cvs.cons (.listS rfl) (Cvs.cons (.listS rfl) Cvs.nil)))))))))) (Cvs.cons .sc Cvs.nil)))
       ·clear h; intro h20 h
        refine bindE h ?_
        clear h; intro v23 h24 h
        refine bindE h ?_
        clear h; intro v25 h26 h
        refine bindE h ?_
        clear h; intro u27 h28 h
        have qh28 := lenOk_le h28
        refine run_to tmD 4000 [.br false, .pure [(AV.list false (List.map (aI .i64) v18.1))] (AV.tup [(aI .i64 v23.1), (aI .i64 v23.2)]), .pure [(AV.list false (List.map enc_GEntry a1.Store)), (aI .i64 v23.1)] (AV.tup [(AV.list true (List.map enc_GEntry v25.1)), (AV.list true (List.map enc_GEntry v25.2.1)), (aI .i64 v25.2.2)]), .el (aI .i64 (List.length v25.1 : Int))] rfl (by repeat' first | refine And.intro ?_ ?_ | exact (PureCall.none (marks_Least_ok _ _ h24) (Cvs.cons (cv_list (flat_map (fun _ => flatSc) v18.1)) Cvs.nil)) | exact (PureCall.none (store_Fire_ok _ _ _ h26) (Cvs.cons (cv_list (flat_map flat_GEntry a1.Store)) (Cvs.cons .sc Cvs.nil))) | exact oblA) ?_
        refine SemK.unown 1 [AV.agg [(aI .u8 a1.Op.Kind), (aI .i64 a1.Op.N), (aI .i64 a1.Turn), (AV.list false (List.map enc_GSend a1.Pending)), (AV.list false (List.map (aI .i64) v18.1)), (AV.list false (List.map enc_GEntry v25.2.1)), (AV.list false (List.map enc_GEvent a1.Events)), (AV.list false (List.map enc_GRow a1.Rows)), (AV.list false (List.map enc_GRecord a1.Late))]] rfl rfl ?_
        refine SemK.denil 3 [AV.agg [(aI .u8 0), (aI .i64 0), (aI .i64 0), (AV.list true (List.map enc_GSend ([] : List GSend))), (AV.list true (List.map (aI .i64) ([] : List Int))), (AV.list true (List.map enc_GEntry ([] : List GEntry))), (AV.list true (List.map enc_GEvent ([] : List GEvent))), (AV.list true (List.map enc_GRow ([] : List GRow))), (AV.list true (List.map enc_GRecord ([] : List GRecord)))]] rfl rfl ?_
        refine bindE h ?_
        clear h; intro o90 h91 h
        refine runT tmD [] ?_
        refine wkT [(2, 3)] (SemK.cut (join_Take_L0_ok a0 (GTask.mk a1.Op a1.Turn a1.Pending v18.1 v25.2.1 a1.Events a1.Rows a1.Late) (GTask.mk (GOp.mk 0 0) 0 ([] : List GSend) ([] : List Int) ([] : List GEntry) ([] : List GEvent) ([] : List GRow) ([] : List GRecord)) v25.1 qh28 v25.1 0 (by simp) _ (nbT (by first | rfl | simp [*])) _ h91 ?_))
        ·intro z0_0_o2 nb_z0_0_o2 eo90; subst eo90
         refine SemK.glue ?_
         try dsimp only at h
         rcases nb_z0_0_o2 with ⟨_ | _, hn_z0_0_o2⟩
         ·
          refine bindE h ?_
          clear h; intro v92 h93 h
          obtain rfl := Option.some.inj h
          refine run_to tmD 4000 [.pure [(enc_GTask false (GTask.mk a1.Op a1.Turn a1.Pending v18.1 v25.2.1 a1.Events a1.Rows a1.Late)), (AV.list false (List.map enc_GSend z0_0_o2))] (AV.tup [(enc_GTask true v92.1), (aI .i64 v92.2)])] rfl (by repeat' first | refine And.intro ?_ ?_ | exact (PureCall.lent (task_Pend_ok _ _ _ h93) (Cvs.cons (cv_agg (Cvs.cons .sc (Cvs.cons .sc (Cvs.cons .sc (Cvs.cons (cv_list (flat_map flat_GSend ((GTask.mk a1.Op a1.Turn a1.Pending v18.1 v25.2.1 a1.Events a1.Rows a1.Late).Pending))) (Cvs.cons (cv_list (flat_map (fun _ => flatSc) ((GTask.mk a1.Op a1.Turn a1.Pending v18.1 v25.2.1 a1.Events a1.Rows a1.Late).Marks))) (Cvs.cons (cv_list (flat_map flat_GEntry ((GTask.mk a1.Op a1.Turn a1.Pending v18.1 v25.2.1 a1.Events a1.Rows a1.Late).Store))) (Cvs.cons (cv_list (flat_map flat_GEvent ((GTask.mk a1.Op a1.Turn a1.Pending v18.1 v25.2.1 a1.Events a1.Rows a1.Late).Events))) (Cvs.cons (cv_list (flat_map flat_GRow ((GTask.mk a1.Op a1.Turn a1.Pending v18.1 v25.2.1 a1.Events a1.Rows a1.Late).Rows))) (Cvs.cons (cv_list (flat_map flat_GRecord ((GTask.mk a1.Op a1.Turn a1.Pending v18.1 v25.2.1 a1.Events a1.Rows a1.Late).Late))) Cvs.nil)))))))))) (Cvs.cons (cv_ref (es := List.map enc_GSend z0_0_o2) rfl (by first | rfl | (simp; done) | (simp; rfl) | (simp [h3, h6, h7, h10, h11, h12, h20]; done) | (simp [h3, h6, h7, h10, h11, h12, h20]; rfl) | (simp [h3, h6, h7, h10, h11, h12, h20, List.map_take, List.map_drop]; done) | (simp [h3, h6, h7, h10, h11, h12, h20, List.map_take, List.map_drop]; rfl)) (by first | rfl | (simp; done) | (simp; omega) | (simp [h3, h6, h7, h10, h11, h12, h20]; done) | (simp [h3, h6, h7, h10, h11, h12, h20]; omega)) (flat_map flat_GSend z0_0_o2)) Cvs.nil)) (ownTup (allCons (.agg (allCons .sc (allCons .sc (allCons .sc (allCons (ownO_list (flat_map flat_GSend _)) (allCons (ownO_list (flat_map (fun _ => flatSc) _)) (allCons (ownO_list (flat_map flat_GEntry _)) (allCons (ownO_list (flat_map flat_GEvent _)) (allCons (ownO_list (flat_map flat_GRow _)) (allCons (ownO_list (flat_map flat_GRecord _)) allNil)))))))))) (allCons .sc allNil)))) | exact oblA) ?_
          refine fin_ret rfl ?_
          exact (cv_tup (Cvs.cons (cv_agg (Cvs.cons .sc (Cvs.cons .sc (Cvs.cons .sc (Cvs.cons (.listS rfl) (Cvs.cons (.listS rfl) (Cvs.cons (.listS rfl) (Cvs.cons (.listS rfl) (Cvs.cons (.listS rfl) (Cvs.cons (.listS rfl) Cvs.nil)))))))))) (Cvs.cons .sc Cvs.nil)))
         ·
          obtain rfl := hn_z0_0_o2 rfl
          refine bindE h ?_
          clear h; intro v94 h95 h
          obtain rfl := Option.some.inj h
          refine run_to tmD 4000 [.pure [(enc_GTask false (GTask.mk a1.Op a1.Turn a1.Pending v18.1 v25.2.1 a1.Events a1.Rows a1.Late)), (AV.list false (List.map enc_GSend ([] : List GSend)))] (AV.tup [(enc_GTask true v94.1), (aI .i64 v94.2)])] rfl (by repeat' first | refine And.intro ?_ ?_ | exact (PureCall.none (task_Pend_ok _ _ _ h95) (Cvs.cons (cv_agg (Cvs.cons .sc (Cvs.cons .sc (Cvs.cons .sc (Cvs.cons (cv_list (flat_map flat_GSend ((GTask.mk a1.Op a1.Turn a1.Pending v18.1 v25.2.1 a1.Events a1.Rows a1.Late).Pending))) (Cvs.cons (cv_list (flat_map (fun _ => flatSc) ((GTask.mk a1.Op a1.Turn a1.Pending v18.1 v25.2.1 a1.Events a1.Rows a1.Late).Marks))) (Cvs.cons (cv_list (flat_map flat_GEntry ((GTask.mk a1.Op a1.Turn a1.Pending v18.1 v25.2.1 a1.Events a1.Rows a1.Late).Store))) (Cvs.cons (cv_list (flat_map flat_GEvent ((GTask.mk a1.Op a1.Turn a1.Pending v18.1 v25.2.1 a1.Events a1.Rows a1.Late).Events))) (Cvs.cons (cv_list (flat_map flat_GRow ((GTask.mk a1.Op a1.Turn a1.Pending v18.1 v25.2.1 a1.Events a1.Rows a1.Late).Rows))) (Cvs.cons (cv_list (flat_map flat_GRecord ((GTask.mk a1.Op a1.Turn a1.Pending v18.1 v25.2.1 a1.Events a1.Rows a1.Late).Late))) Cvs.nil)))))))))) (Cvs.cons (cv_nils (es := List.map enc_GSend ([] : List GSend)) (by simp [*])) Cvs.nil))) | exact oblA) ?_
          refine fin_ret rfl ?_
          exact (cv_tup (Cvs.cons (cv_agg (Cvs.cons .sc (Cvs.cons .sc (Cvs.cons .sc (Cvs.cons (.listS rfl) (Cvs.cons (.listS rfl) (Cvs.cons (.listS rfl) (Cvs.cons (.listS rfl) (Cvs.cons (.listS rfl) (Cvs.cons (.listS rfl) Cvs.nil)))))))))) (Cvs.cons .sc Cvs.nil)))

theorem ref27_Twin_ok (a0 : GTask) (r : GTask) (h : ref27_Twin a0 = some r) : Pure Tryz.prog 17 [(enc_GTask false a0)] (enc_GTask true r) := by
 refine Pure.sym tyTab_ok fn17 (nt := 34) rfl rfl ?_ (allCons (free_GTask false _ _).1 allNil)
 unfold ref27_Twin at h
 refine brE h ?_ ?_
 ·clear h; intro q h
  have h1 : a0.Pending = [] := List.isEmpty_iff.1 q
  refine brE h ?_ ?_
  ·clear h; intro q h; cases h
  ·clear h; intro q h
   have h2 : ¬ (a0.Marks = []) := (fun e => by rw [e] at q; cases q)
   refine bindE h ?_
   clear h; intro u3 h4 h
   refine brE h ?_ ?_
   ·clear h; intro q h
    have h5 : a0.Store = [] := List.isEmpty_iff.1 q
    refine brE h ?_ ?_
    ·clear h; intro q h
     have h6 : a0.Events = [] := List.isEmpty_iff.1 q
     refine brE h ?_ ?_
     ·clear h; intro q h
      have h7 : a0.Rows = [] := List.isEmpty_iff.1 q
      refine brE h ?_ ?_
      ·clear h; intro q h
       have h8 : a0.Late = [] := List.isEmpty_iff.1 q
       obtain rfl := Option.some.inj h
       refine run_to tmD 4000 [.ne false, .via (AV.list true (List.map (aI .i64) a0.Marks)), .ne false, .ne false, .ne false, .ne false] rfl (by repeat' first | refine And.intro ?_ ?_ | (refine capLe h4 rfl ?_; first | (simp; done) | (simp; omega) | (simp [h1, h2, h5, h6, h7, h8]; done) | (simp [h1, h2, h5, h6, h7, h8]; omega)) | (refine capMax h4 (by decide) ?_; first | (simp; done) | (simp; omega) | (simp [h1, h2, h5, h6, h7, h8]; done) | (simp [h1, h2, h5, h6, h7, h8]; omega)) | exact oblA) ?_
       refine fin_ret rfl ?_
       exact (cv_agg (Cvs.cons .sc (Cvs.cons .sc (Cvs.cons .sc (Cvs.cons (cv_nils (es := List.map enc_GSend a0.Pending) (by simp [*])) (Cvs.cons (cv_ref (es := List.map (aI .i64) a0.Marks) rfl (by first | rfl | (simp; done) | (simp; rfl) | (simp [h1, h2, h5, h6, h7, h8]; done) | (simp [h1, h2, h5, h6, h7, h8]; rfl) | (simp [h1, h2, h5, h6, h7, h8, List.map_take, List.map_drop]; done) | (simp [h1, h2, h5, h6, h7, h8, List.map_take, List.map_drop]; rfl)) (by first | rfl | (simp; done) | (simp; omega) | (simp [h1, h2, h5, h6, h7, h8]; done) | (simp [h1, h2, h5, h6, h7, h8]; omega)) (flat_map (fun _ => flatSc) a0.Marks)) (Cvs.cons (cv_nils (es := List.map enc_GEntry a0.Store) (by simp [*])) (Cvs.cons (cv_nils (es := List.map enc_GEvent a0.Events) (by simp [*])) (Cvs.cons (cv_nils (es := List.map enc_GRow a0.Rows) (by simp [*])) (Cvs.cons (cv_nils (es := List.map enc_GRecord a0.Late) (by simp [*])) Cvs.nil))))))))))
      ·clear h; intro q h; cases h
     ·clear h; intro q h; cases h
    ·clear h; intro q h; cases h
   ·clear h; intro q h; cases h
 ·clear h; intro q h; cases h

theorem join_Row_ok (a0 : GQuery) (a1 : GEntry) (r : GRow × Bool × Int) (h : join_Row a0 a1 = some r) : Pure Tryz.prog 22 [(enc_GQuery false a0), (enc_GEntry a1)] (AV.tup [(enc_GRow r.1), (aB r.2.1), (aI .i64 r.2.2)]) := by
 refine Pure.sym tyTab_ok fn22 (nt := 27) rfl rfl ?_ (allCons (free_GQuery false _ _).1 (allCons (free_GEntry _ _).1 allNil))
 unfold join_Row at h
 refine bindE h ?_
 clear h; intro j6_17 h12 h
 refine runT tmD [.stop 1] ?_
 refine SemK.join (s' := ⟨fr [(2, (AV.ptr 0 0 0)), (3, (AV.ptr 1 0 0)), (4, (AV.ptr 2 0 0)), (17, (aB j6_17))], hp ([(0, { es := [(enc_GQuery false a0)], esz := 10 }), (1, { es := [(enc_GEntry a1)], esz := 11 }), (2, { es := [(enc_GRow (GRow.mk 0 (GSpan.mk 0 0) (V2.mk 0 0)))], esz := 5 })]), 3⟩) ?_ (fun J => SemK.cut ?_)
 ·
  refine brE h ?_ ?_
  ·clear h; intro h13 h
   obtain rfl := Option.some.inj h
   refine runT tmD [.br true] ?_
   refine fin_ret rfl ?_
   exact (cv_tup (Cvs.cons (cvf_GRow (x := (GRow.mk 0 (GSpan.mk 0 0) (V2.mk 0 0)))) (Cvs.cons .sc (Cvs.cons .sc Cvs.nil))))
  ·clear h; intro h13 h
   refine bindE h ?_
   clear h; intro v14 h15 h
   obtain rfl := Option.some.inj h
   refine run_to tmD 4000 [.br false, .pure [(enc_GQuery false a0), (enc_GEntry a1)] (AV.tup [(enc_GRow v14.1), (aB v14.2)])] rfl (by repeat' first | refine And.intro ?_ ?_ | exact (PureCall.none (join_row_ok _ _ _ h15) (Cvs.cons (cv_agg (Cvs.cons .sc (Cvs.cons (cv_list (flat_map flat_GNode a0.Arg)) (Cvs.cons (cv_list (flat_map (fun _ => flatSc) a0.Sources)) (Cvs.cons .sc (Cvs.cons (cv_list (flat_map flat_GNode a0.Where)) (Cvs.cons .sc (Cvs.cons .sc (Cvs.cons .sc (Cvs.cons .sc (Cvs.cons .sc Cvs.nil))))))))))) (Cvs.cons (cvf_GEntry (x := a1)) Cvs.nil))) | exact oblA) ?_
   refine fin_ret rfl ?_
   exact (cv_tup (Cvs.cons (cvf_GRow (x := v14.1)) (Cvs.cons .sc (Cvs.cons .sc Cvs.nil))))
 ·
  clear h
  have h := h12
  refine bindE h ?_
  clear h; intro v7 h8 h
  refine brE h ?_ ?_
  ·clear h; intro h9 h
   obtain rfl := Option.some.inj h
   refine run_to tmD 4000 [.pure [(enc_GQuery false a0)] (aB v7), .go false, .go false, .go false, .go false] rfl (by repeat' first | refine And.intro ?_ ?_ | exact (PureCall.none (join_accepted_ok _ _ h8) (Cvs.cons (cv_agg (Cvs.cons .sc (Cvs.cons (cv_list (flat_map flat_GNode a0.Arg)) (Cvs.cons (cv_list (flat_map (fun _ => flatSc) a0.Sources)) (Cvs.cons .sc (Cvs.cons (cv_list (flat_map flat_GNode a0.Where)) (Cvs.cons .sc (Cvs.cons .sc (Cvs.cons .sc (Cvs.cons .sc (Cvs.cons .sc Cvs.nil))))))))))) Cvs.nil)) | exact oblA) ?_
   exact wkT [] (SemK.glue J)
  ·clear h; intro h9 h
   refine bindE h ?_
   clear h; intro v10 h11 h
   obtain rfl := Option.some.inj h
   refine run_to tmD 4000 [.pure [(enc_GQuery false a0)] (aB v7), .go true, .go true, .go true, .pure [(AV.list false (List.map enc_GEntry [a1]))] (aI .i64 v10), .go true] rfl (by repeat' first | refine And.intro ?_ ?_ | exact (PureCall.none (join_accepted_ok _ _ h8) (Cvs.cons (cv_agg (Cvs.cons .sc (Cvs.cons (cv_list (flat_map flat_GNode a0.Arg)) (Cvs.cons (cv_list (flat_map (fun _ => flatSc) a0.Sources)) (Cvs.cons .sc (Cvs.cons (cv_list (flat_map flat_GNode a0.Where)) (Cvs.cons .sc (Cvs.cons .sc (Cvs.cons .sc (Cvs.cons .sc (Cvs.cons .sc Cvs.nil))))))))))) Cvs.nil)) | exact (PureCall.lent (store_Check_ok _ _ h11) (Cvs.cons (cv_ref (es := List.map enc_GEntry [a1]) rfl (by first | rfl | (simp; done) | (simp; rfl) | (simp [h9]; done) | (simp [h9]; rfl) | (simp [h9, List.map_take, List.map_drop]; done) | (simp [h9, List.map_take, List.map_drop]; rfl)) (by first | rfl | (simp; done) | (simp; omega) | (simp [h9]; done) | (simp [h9]; omega)) (flat_map flat_GEntry [a1])) Cvs.nil) .sc) | exact oblA) ?_
   exact wkT [] (SemK.glue J)

theorem law33_row_ok (a0 : Int) (a1 : Int) (a2 : Int) (a3 : Int) (r : GRow) (h : law33_row a0 a1 a2 a3 = some r) : Pure Tryz.prog 26 [(aI .i64 a0), (aI .i64 a1), (aI .i64 a2), (aI .i64 a3)] (enc_GRow r) := by
 refine Pure.sym tyTab_ok fn26 (nt := 18) rfl rfl ?_ (allCons .sc (allCons .sc (allCons .sc (allCons .sc allNil))))
 unfold law33_row at h
 obtain rfl := Option.some.inj h
 refine runT tmD [.wrap] ?_
 refine fin_ret rfl ?_
 exact (cvf_GRow (x := (GRow.mk a0 (GSpan.mk a1 (IntKind.i64.wrap (a1 + 10))) (V2.mk a2 a3))))

theorem law33_rec_ok (a0 : Int) (a1 : Int) (a2 : Int) (r : GMessage) (h : law33_rec a0 a1 a2 = some r) : Pure Tryz.prog 27 [(aI .i64 a0), (aI .i64 a1), (aI .i64 a2)] (enc_GMessage r) := by
 refine Pure.sym tyTab_ok fn27 (nt := 12) rfl rfl ?_ (allCons .sc (allCons .sc (allCons .sc allNil)))
 unfold law33_rec at h
 obtain rfl := Option.some.inj h
 refine runT tmD [] ?_
 refine fin_ret rfl ?_
 exact (cvf_GMessage (x := (GMessage.mk 1 (GRecord.mk a0 a1 a2) 0 (GRow.mk 0 (GSpan.mk 0 0) (V2.mk 0 0)))))
end Go.Av.Tryz
