/- Printed by decomp.py: that the program computes the functions. -/
import Derived.Test.YtoadgjfleafafaaGreatDCert10A
import Derived.Test.YtoadgjfleafafaaGreatDCert11A
set_option linter.all false

namespace Go.Av.Tryz
open Go.Proofs Go.D
set_option maxRecDepth 10000
set_option maxHeartbeats 40000000
def Xdm : AV -> AV
 | .list true es => .list false es
 | a => a
def Xax : AV -> AV
 | .agg cs => .agg (cs.map Xdm)
 | a => Xdm a
theorem Xdl (e : AV) : (Xax e).cells = e.cells.map Xdm := by
 cases e <;> try rfl
 rename_i own es; cases own <;> rfl
theorem Xj2 {c : Ctx} {d : Bool} {a : AV} {v : Value} (h : X15 c d a v) : X15 c d (Xdm a) v := by
 unfold Xdm
 split
 ·cases h with
  | listNil => exact .listNil
  | list vf hne hS hn hcap hsz hc h1 hr => exact .list vf hne (.inr (hS.resolve_left fun h => by cases h.1)) hn hcap hsz hc h1 hr
 exact h
theorem Xkc {M : Nat -> Prop} {a : AV} (h : a.Ok M) : (Xdm a).Ok M := by
 unfold Xdm
 split
 ·exact .list
 exact h
theorem Xkb {c : Ctx} {p : Pl} {y : Obj} (h : Xhd c p y) : Xhd c p { y with es := y.es.map Xax } := by
 obtain ⟨⟨cur, h1, h2, h3⟩, h4, h5, h6⟩ := h
 refine ⟨⟨cur, h1, h2, fun i e he => ?_⟩, by simpa using h4, h5, h6⟩
 simp only [List.getElem?_map, Option.map_eq_some_iff] at he
 obtain ⟨e0, he0, rfl⟩ := he
 obtain ⟨g1, g2⟩ := h3 i e0 he0
 rw [Xdl]
 refine ⟨by simpa using g1, fun k a ha => ?_⟩
 simp only [List.getElem?_map, Option.map_eq_some_iff] at ha
 obtain ⟨a0, ha0, rfl⟩ := ha
 obtain ⟨v, v1, v2, v3⟩ := g2 k a0 ha0
 exact ⟨v, v1, Xj2 v2, v3⟩
theorem Xa.unown {P : Program} {nt n0 n : Nat} {Q : X0d -> St -> Mu -> Prop} {cf : Cf} {K : List Kn} {μ : Mu} {L : List (Nat × AV)} {G : List (Nat × Obj)} {y : Obj} (q : Nat) (es' : List AV) (hy : hp G q = some y) (he : y.es.map Xax = es')
  (h : Xa P nt n0 Q cf K ⟨fr L, hp ((q, { y with es := es' }) :: G), n⟩ μ) : Xa P nt n0 Q cf K ⟨fr L, hp G, n⟩ μ := by
 subst he
 have hd : ∀ o x', hp ((q, { y with es := y.es.map Xax }) :: G) o = some x' -> ∃ x, hp G o = some x /\ x'.esz = x.esz /\ x'.solo = x.solo /\ x'.spent = x.spent /\ x'.es.length = x.es.length /\ (x' = x \/ (o = q /\ x = y /\ x' = { y with es := y.es.map Xax })) := by
  intro o x' hx
  by_cases ho : o = q
  ·subst ho
   rw [show hp ((o, { y with es := y.es.map Xax }) :: G) o = some { y with es := y.es.map Xax } by simp [hp]] at hx
   cases hx
   exact ⟨y, hy, rfl, rfl, rfl, by simp, .inr ⟨rfl, rfl, rfl⟩⟩
  ·have : hp ((q, { y with es := y.es.map Xax }) :: G) o = hp G o := by
    have hb : Nat.beq o q = false := by rw [<- Bool.not_eq_true, Nat.beq_eq]; exact ho
    simp [hp, hb]
   rw [this] at hx
   exact ⟨x', hx, rfl, rfl, rfl, rfl, .inl rfl⟩
 refine Xa.sub (s' := ⟨fr L, hp ((q, { y with es := y.es.map Xax }) :: G), n⟩) (fun c0 H0 c act μ g hm => ⟨?_, ?_⟩) h
 ·refine ⟨⟨fun o x' hx => ?_, fun o o' x1 x2 h1 h2 hne hb => ?_, fun o x' hx => ?_, g.inv.lt, g.inv.base, g.inv.own, fun o x' hx => ?_⟩, fun o x' hx => ?_, g.frame, g.ok, g.size, ?_, g.le0⟩
  ·obtain ⟨x, hx0, _, _, _, _, hc⟩ := hd o x' hx
   obtain ⟨i1, i2, i3⟩ := g.inv.obj o x hx0
   rcases hc with rfl | ⟨rfl, rfl, rfl⟩
   ·exact ⟨i1, i2, i3⟩
   refine ⟨i1, Xkb i2, fun e he a ha => ?_⟩
   obtain ⟨e0, he0, rfl⟩ := List.mem_map.1 he
   rw [Xdl] at ha
   obtain ⟨a0, ha0, rfl⟩ := List.mem_map.1 ha
   exact Xkc (i3 e0 he0 a0 ha0)
  ·obtain ⟨y1, hy1, e1, s1, p1, l1, _⟩ := hd o x1 h1
   obtain ⟨y2, hy2, e2, s2, p2, l2, _⟩ := hd o' x2 h2
   have := g.inv.sep o o' y1 y2 hy1 hy2 hne hb
   rw [s1, p1, p2, l1, l2, e1, e2]; exact this
  ·obtain ⟨x, hx0, _⟩ := hd o x' hx; exact g.inv.stab o x hx0
  ·obtain ⟨x, hx0, _⟩ := hd o x' hx; exact g.inv.low o x hx0
  ·obtain ⟨x, hx0, _, s1, p1, _⟩ := hd o x' hx; rw [s1, p1]; exact g.solo o x hx0
  ·have r := g.reach
   exact ⟨r.rho, r.os, r.tape, r.output, r.size, r.block, r.stable, r.sa, r.so1, r.so2, r.B, fun o x' hx => by obtain ⟨x, hx0, _⟩ := hd o x' hx; exact r.own o x hx0⟩
 ·exact ⟨hm.is, fun p hp => by
   obtain ⟨a1, a2, a3, a4⟩ := hm.away p hp
   exact ⟨a1, a2, fun o x' hx => by obtain ⟨x, hx0, _⟩ := hd o x' hx; exact a3 o x hx0, a4⟩, hm.nodup, hm.ds⟩
theorem X3e (a0 : X2n) (a1 : Xn) (a2 : Int) (a3 : Xt) (r : Xn × Int) (h : X4w a0 a1 a2 a3 = some r) : X16 Tryz.prog 6 [(X02 false a0), (Xg false a1), (aI .i64 a2), (Xc a3)] (AV.tup [(Xg true r.1), (aI .i64 r.2)]) := by
 refine X16.sym Xe fn6 (nt := 141) rfl rfl ?_ (X6 (X23 false _ _).1 (X6 (X32 false _ _).1 (X6 .sc (X6 (X4b _ _).1 X08))))
 unfold X4w at h
 refine X3 h ?_
 clear h; intro v1 h2 h
 refine brE h ?_ ?_
 ·clear h; intro h3 h
  obtain rfl := oj h
  refine rn tmD [.pure [(X02 false a0)] (aB v1), Bt] rfl (by repeat' first|apply Ya|exact (pn (X24 _ _ h2) (cc (X0i (cc .sc (cc (X4 (X0 Xh a0.Arg)) (cc (X4 (X0 (fun _ => X06) a0.Sources)) (cc .sc (cc (X4 (X0 Xh a0.Where)) (cc .sc (cc .sc (cc .sc (cc .sc (cc .sc cn))))))))))) cn))|exact X00) ?_
  exact X8 rfl (X04 (cc (X0i (cc .sc (cc .sc (cc .sc (cc (Xu (es := List.map Xp ((Xn.mk (GOp.mk 0 0) 0 ([] : List Xz) ([] : List Int) ([] : List X9) ([] : List Xq) ([] : List X0j) ([] : List Xb)).Pending)) (by simp [*])) (cc (Xu (es := List.map (aI .i64) ((Xn.mk (GOp.mk 0 0) 0 ([] : List Xz) ([] : List Int) ([] : List X9) ([] : List Xq) ([] : List X0j) ([] : List Xb)).Marks)) (by simp [*])) (cc (Xu (es := List.map X2 ((Xn.mk (GOp.mk 0 0) 0 ([] : List Xz) ([] : List Int) ([] : List X9) ([] : List Xq) ([] : List X0j) ([] : List Xb)).Store)) (by simp [*])) (cc (Xu (es := List.map Xv ((Xn.mk (GOp.mk 0 0) 0 ([] : List Xz) ([] : List Int) ([] : List X9) ([] : List Xq) ([] : List X0j) ([] : List Xb)).Events)) (by simp [*])) (cc (Xu (es := List.map Xk ((Xn.mk (GOp.mk 0 0) 0 ([] : List Xz) ([] : List Int) ([] : List X9) ([] : List Xq) ([] : List X0j) ([] : List Xb)).Rows)) (by simp [*])) (cc (Xu (es := List.map Xs ((Xn.mk (GOp.mk 0 0) 0 ([] : List Xz) ([] : List Int) ([] : List X9) ([] : List Xq) ([] : List X0j) ([] : List Xb)).Late)) (by simp [*])) cn)))))))))) (cc .sc cn)))
 clear h; intro h3 h
 refine X3 h ?_
 clear h; intro v4 h5 h
 refine brE h ?_ ?_
 ·clear h; intro h6 h
  obtain rfl := oj h
  refine rn tmD [.pure [(X02 false a0)] (aB v1), Bf, .pure [(Xg false a1)] (aI .i64 v4), Bt] rfl (by repeat' first|apply Ya|exact (pn (X24 _ _ h2) (cc (X0i (cc .sc (cc (X4 (X0 Xh a0.Arg)) (cc (X4 (X0 (fun _ => X06) a0.Sources)) (cc .sc (cc (X4 (X0 Xh a0.Where)) (cc .sc (cc .sc (cc .sc (cc .sc (cc .sc cn))))))))))) cn))|exact (pn (X35 _ _ h5) (cc (X0i (cc .sc (cc .sc (cc .sc (cc (X4 (X0 X0b a1.Pending)) (cc (X4 (X0 (fun _ => X06) a1.Marks)) (cc (X4 (X0 Xl a1.Store)) (cc (X4 (X0 X0a a1.Events)) (cc (X4 (X0 X07 a1.Rows)) (cc (X4 (X0 X03 a1.Late)) cn)))))))))) cn))|exact X00) ?_
  exact X8 rfl (X04 (cc (X0i (cc .sc (cc .sc (cc .sc (cc (Xu (es := List.map Xp ((Xn.mk (GOp.mk 0 0) 0 ([] : List Xz) ([] : List Int) ([] : List X9) ([] : List Xq) ([] : List X0j) ([] : List Xb)).Pending)) (by simp [*])) (cc (Xu (es := List.map (aI .i64) ((Xn.mk (GOp.mk 0 0) 0 ([] : List Xz) ([] : List Int) ([] : List X9) ([] : List Xq) ([] : List X0j) ([] : List Xb)).Marks)) (by simp [*])) (cc (Xu (es := List.map X2 ((Xn.mk (GOp.mk 0 0) 0 ([] : List Xz) ([] : List Int) ([] : List X9) ([] : List Xq) ([] : List X0j) ([] : List Xb)).Store)) (by simp [*])) (cc (Xu (es := List.map Xv ((Xn.mk (GOp.mk 0 0) 0 ([] : List Xz) ([] : List Int) ([] : List X9) ([] : List Xq) ([] : List X0j) ([] : List Xb)).Events)) (by simp [*])) (cc (Xu (es := List.map Xk ((Xn.mk (GOp.mk 0 0) 0 ([] : List Xz) ([] : List Int) ([] : List X9) ([] : List Xq) ([] : List X0j) ([] : List Xb)).Rows)) (by simp [*])) (cc (Xu (es := List.map Xs ((Xn.mk (GOp.mk 0 0) 0 ([] : List Xz) ([] : List Int) ([] : List X9) ([] : List Xq) ([] : List X0j) ([] : List Xb)).Late)) (by simp [*])) cn)))))))))) (cc .sc cn)))
 clear h; intro h6 h
 refine X3 h ?_
 clear h; intro Xnt h12 h
 refine rn tmD [.pure [(X02 false a0)] (aB v1), Bf, .pure [(Xg false a1)] (aI .i64 v4), Bf, .stop 6] rfl (by repeat' first|apply Ya|exact (pn (X24 _ _ h2) (cc (X0i (cc .sc (cc (X4 (X0 Xh a0.Arg)) (cc (X4 (X0 (fun _ => X06) a0.Sources)) (cc .sc (cc (X4 (X0 Xh a0.Where)) (cc .sc (cc .sc (cc .sc (cc .sc (cc .sc cn))))))))))) cn))|exact (pn (X35 _ _ h5) (cc (X0i (cc .sc (cc .sc (cc .sc (cc (X4 (X0 X0b a1.Pending)) (cc (X4 (X0 (fun _ => X06) a1.Marks)) (cc (X4 (X0 Xl a1.Store)) (cc (X4 (X0 X0a a1.Events)) (cc (X4 (X0 X07 a1.Rows)) (cc (X4 (X0 X03 a1.Late)) cn)))))))))) cn))|exact X00) ?_
 refine Xa.join (s' := ⟨fr [(2, (aI .i64 a2)), (4, (AV.ptr 0 0 0)), (5, (AV.ptr 1 0 0)), (7, (AV.ptr 2 0 0)), (8, (AV.ptr 3 0 0)), (34, (aB Xnt))], hp ([(0, Ob [(X02 false a0)] 10), (1, Ob [(Xg false a1)] 9), (2, Ob [(Xc a3)] 10), (3, Ob [(Xg true (Xn.mk (GOp.mk 0 0) 0 ([] : List Xz) ([] : List Int) ([] : List X9) ([] : List Xq) ([] : List X0j) ([] : List Xb)))] 9)]), 4⟩) ?_ (fun J => Xa.cut ?_)
 ·
  refine brE h ?_ ?_
  ·clear h; intro h13 h
   obtain rfl := oj h
   refine Xm tmD [Bt] ?_
   exact X8 rfl (X04 (cc (X0i (cc .sc (cc .sc (cc .sc (cc (Xu (es := List.map Xp ((Xn.mk (GOp.mk 0 0) 0 ([] : List Xz) ([] : List Int) ([] : List X9) ([] : List Xq) ([] : List X0j) ([] : List Xb)).Pending)) (by simp [*])) (cc (Xu (es := List.map (aI .i64) ((Xn.mk (GOp.mk 0 0) 0 ([] : List Xz) ([] : List Int) ([] : List X9) ([] : List Xq) ([] : List X0j) ([] : List Xb)).Marks)) (by simp [*])) (cc (Xu (es := List.map X2 ((Xn.mk (GOp.mk 0 0) 0 ([] : List Xz) ([] : List Int) ([] : List X9) ([] : List Xq) ([] : List X0j) ([] : List Xb)).Store)) (by simp [*])) (cc (Xu (es := List.map Xv ((Xn.mk (GOp.mk 0 0) 0 ([] : List Xz) ([] : List Int) ([] : List X9) ([] : List Xq) ([] : List X0j) ([] : List Xb)).Events)) (by simp [*])) (cc (Xu (es := List.map Xk ((Xn.mk (GOp.mk 0 0) 0 ([] : List Xz) ([] : List Int) ([] : List X9) ([] : List Xq) ([] : List X0j) ([] : List Xb)).Rows)) (by simp [*])) (cc (Xu (es := List.map Xs ((Xn.mk (GOp.mk 0 0) 0 ([] : List Xz) ([] : List Int) ([] : List X9) ([] : List Xq) ([] : List X0j) ([] : List Xb)).Late)) (by simp [*])) cn)))))))))) (cc .sc cn)))
  clear h; intro h13 h
  refine X3 h ?_
  clear h; intro v14 h15 h
  refine brE h ?_ ?_
  ·clear h; intro h16 h
   obtain rfl := oj h
   refine rn tmD [Bf, .pure [(Xc a3)] (aI .i64 v14), Bt] rfl (by repeat' first|apply Ya|exact (pn (X1v _ _ h15) (cc (X0h (x := a3)) cn))|exact X00) ?_
   exact X8 rfl (X04 (cc (X0i (cc .sc (cc .sc (cc .sc (cc (Xu (es := List.map Xp ((Xn.mk (GOp.mk 0 0) 0 ([] : List Xz) ([] : List Int) ([] : List X9) ([] : List Xq) ([] : List X0j) ([] : List Xb)).Pending)) (by simp [*])) (cc (Xu (es := List.map (aI .i64) ((Xn.mk (GOp.mk 0 0) 0 ([] : List Xz) ([] : List Int) ([] : List X9) ([] : List Xq) ([] : List X0j) ([] : List Xb)).Marks)) (by simp [*])) (cc (Xu (es := List.map X2 ((Xn.mk (GOp.mk 0 0) 0 ([] : List Xz) ([] : List Int) ([] : List X9) ([] : List Xq) ([] : List X0j) ([] : List Xb)).Store)) (by simp [*])) (cc (Xu (es := List.map Xv ((Xn.mk (GOp.mk 0 0) 0 ([] : List Xz) ([] : List Int) ([] : List X9) ([] : List Xq) ([] : List X0j) ([] : List Xb)).Events)) (by simp [*])) (cc (Xu (es := List.map Xk ((Xn.mk (GOp.mk 0 0) 0 ([] : List Xz) ([] : List Int) ([] : List X9) ([] : List Xq) ([] : List X0j) ([] : List Xb)).Rows)) (by simp [*])) (cc (Xu (es := List.map Xs ((Xn.mk (GOp.mk 0 0) 0 ([] : List Xz) ([] : List Int) ([] : List X9) ([] : List Xq) ([] : List X0j) ([] : List Xb)).Late)) (by simp [*])) cn)))))))))) (cc .sc cn)))
  clear h; intro h16 h
  refine brE h ?_ ?_
  ·clear h; intro h17 h
   obtain rfl := oj h
   refine rn tmD [Bf, .pure [(Xc a3)] (aI .i64 v14), Bf, .el (aI .i64 (a1.Pending.length : Int)), Bt] rfl (by repeat' first|apply Ya|exact (pn (X1v _ _ h15) (cc (X0h (x := a3)) cn))|exact X00) ?_
   exact X8 rfl (X04 (cc (X0i (cc .sc (cc .sc (cc .sc (cc (Xu (es := List.map Xp ((Xn.mk (GOp.mk 0 0) 0 ([] : List Xz) ([] : List Int) ([] : List X9) ([] : List Xq) ([] : List X0j) ([] : List Xb)).Pending)) (by simp [*])) (cc (Xu (es := List.map (aI .i64) ((Xn.mk (GOp.mk 0 0) 0 ([] : List Xz) ([] : List Int) ([] : List X9) ([] : List Xq) ([] : List X0j) ([] : List Xb)).Marks)) (by simp [*])) (cc (Xu (es := List.map X2 ((Xn.mk (GOp.mk 0 0) 0 ([] : List Xz) ([] : List Int) ([] : List X9) ([] : List Xq) ([] : List X0j) ([] : List Xb)).Store)) (by simp [*])) (cc (Xu (es := List.map Xv ((Xn.mk (GOp.mk 0 0) 0 ([] : List Xz) ([] : List Int) ([] : List X9) ([] : List Xq) ([] : List X0j) ([] : List Xb)).Events)) (by simp [*])) (cc (Xu (es := List.map Xk ((Xn.mk (GOp.mk 0 0) 0 ([] : List Xz) ([] : List Int) ([] : List X9) ([] : List Xq) ([] : List X0j) ([] : List Xb)).Rows)) (by simp [*])) (cc (Xu (es := List.map Xs ((Xn.mk (GOp.mk 0 0) 0 ([] : List Xz) ([] : List Int) ([] : List X9) ([] : List Xq) ([] : List X0j) ([] : List Xb)).Late)) (by simp [*])) cn)))))))))) (cc .sc cn)))
  clear h; intro h17 h
  refine brE h ?_ ?_
  ·clear h; intro h18 h
   refine X3 h ?_
   clear h; intro v19 h20 h
   refine rn tmD [Bf, .pure [(Xc a3)] (aI .i64 v14), Bf, .el (aI .i64 (a1.Pending.length : Int)), Bf, Bt, .pure [(Lf (a1.Store.map X2)), (X0k a0.Window), (Xs a3.Record), (aI .i64 0)] (AV.tup [(AV.list true (v19.1.map X2)), (aI .i64 v19.2)])] rfl (by repeat' first|apply Ya|exact (pn (X1v _ _ h15) (cc (X0h (x := a3)) cn))|exact (pn (Xgq _ _ _ _ _ h20) (cc (X4 (X0 Xl a1.Store)) (cc (X19 (x := a0.Window)) (cc (Xid (x := a3.Record)) (cc .sc cn)))))|exact X00) ?_
   refine brE h ?_ ?_
   ·clear h; intro h21 h
    obtain rfl := oj h
    refine Xm tmD [Bt] ?_
    exact X8 rfl (X04 (cc (X0i (cc .sc (cc .sc (cc .sc (cc (Xu (es := List.map Xp ((Xn.mk (GOp.mk 0 0) 0 ([] : List Xz) ([] : List Int) ([] : List X9) ([] : List Xq) ([] : List X0j) ([] : List Xb)).Pending)) (by simp [*])) (cc (Xu (es := List.map (aI .i64) ((Xn.mk (GOp.mk 0 0) 0 ([] : List Xz) ([] : List Int) ([] : List X9) ([] : List Xq) ([] : List X0j) ([] : List Xb)).Marks)) (by simp [*])) (cc (Xu (es := List.map X2 ((Xn.mk (GOp.mk 0 0) 0 ([] : List Xz) ([] : List Int) ([] : List X9) ([] : List Xq) ([] : List X0j) ([] : List Xb)).Store)) (by simp [*])) (cc (Xu (es := List.map Xv ((Xn.mk (GOp.mk 0 0) 0 ([] : List Xz) ([] : List Int) ([] : List X9) ([] : List Xq) ([] : List X0j) ([] : List Xb)).Events)) (by simp [*])) (cc (Xu (es := List.map Xk ((Xn.mk (GOp.mk 0 0) 0 ([] : List Xz) ([] : List Int) ([] : List X9) ([] : List Xq) ([] : List X0j) ([] : List Xb)).Rows)) (by simp [*])) (cc (Xu (es := List.map Xs ((Xn.mk (GOp.mk 0 0) 0 ([] : List Xz) ([] : List Int) ([] : List X9) ([] : List Xq) ([] : List X0j) ([] : List Xb)).Late)) (by simp [*])) cn)))))))))) (cc .sc cn)))
   clear h; intro h21 h
   refine X3 h ?_
   clear h; intro v22 h23 h
   obtain rfl := oj h
   refine rn tmD [Bf, .pure [(Xg false (Xn.mk a1.Op a1.Turn a1.Pending a1.Marks v19.1 a1.Events a1.Rows a1.Late)), (Lf (List.map Xp ([] : List Xz)))] (AV.tup [(Xg true v22.1), (aI .i64 v22.2)])] rfl (by repeat' first|apply Ya|exact (pn (X7r _ _ _ h23) (cc (X0i (cc .sc (cc .sc (cc .sc (cc (X4 (X0 X0b ((Xn.mk a1.Op a1.Turn a1.Pending a1.Marks v19.1 a1.Events a1.Rows a1.Late).Pending))) (cc (X4 (X0 (fun _ => X06) ((Xn.mk a1.Op a1.Turn a1.Pending a1.Marks v19.1 a1.Events a1.Rows a1.Late).Marks))) (cc (X4 (X0 Xl ((Xn.mk a1.Op a1.Turn a1.Pending a1.Marks v19.1 a1.Events a1.Rows a1.Late).Store))) (cc (X4 (X0 X0a ((Xn.mk a1.Op a1.Turn a1.Pending a1.Marks v19.1 a1.Events a1.Rows a1.Late).Events))) (cc (X4 (X0 X07 ((Xn.mk a1.Op a1.Turn a1.Pending a1.Marks v19.1 a1.Events a1.Rows a1.Late).Rows))) (cc (X4 (X0 X03 ((Xn.mk a1.Op a1.Turn a1.Pending a1.Marks v19.1 a1.Events a1.Rows a1.Late).Late))) cn)))))))))) (cc (Zn Xp) cn)))|exact X00) ?_
   exact X8 rfl (X04 (cc (X0i (cc .sc (cc .sc (cc .sc (cc (.listS rfl) (cc (.listS rfl) (cc (.listS rfl) (cc (.listS rfl) (cc (.listS rfl) (cc (.listS rfl) cn)))))))))) (cc .sc cn)))
  clear h; intro h18 h
  refine X3 h ?_
  clear h; intro v24 h25 h
  refine rn tmD [Bf, .pure [(Xc a3)] (aI .i64 v14), Bf, .el (aI .i64 (a1.Pending.length : Int)), Bf, Bf, .pure [(Lf (List.map (aI .i64) a1.Marks)), (aI .i64 a2), (aI .i64 a3.Time)] (AV.tup [(AV.list true (List.map (aI .i64) v24.1)), (aB v24.2.1), (aI .i64 v24.2.2)])] rfl (by repeat' first|apply Ya|exact (pn (X1v _ _ h15) (cc (X0h (x := a3)) cn))|exact (pn (Xeq _ _ _ _ h25) (cc (X4 (X0 (fun _ => X06) a1.Marks)) (cc .sc (cc .sc cn))))|exact X00) ?_
  refine brE h ?_ ?_
  ·clear h; intro h26 h
   refine X3 h ?_
   clear h; intro v27 h28 h
   obtain rfl := oj h
   refine rn tmD [Bt, .pure [(Xg false (Xn.mk a1.Op a1.Turn a1.Pending v24.1 a1.Store a1.Events a1.Rows a1.Late)), (Lf (List.map Xp ([] : List Xz)))] (AV.tup [(Xg true v27.1), (aI .i64 v27.2)])] rfl (by repeat' first|apply Ya|exact (pn (X7r _ _ _ h28) (cc (X0i (cc .sc (cc .sc (cc .sc (cc (X4 (X0 X0b ((Xn.mk a1.Op a1.Turn a1.Pending v24.1 a1.Store a1.Events a1.Rows a1.Late).Pending))) (cc (X4 (X0 (fun _ => X06) ((Xn.mk a1.Op a1.Turn a1.Pending v24.1 a1.Store a1.Events a1.Rows a1.Late).Marks))) (cc (X4 (X0 Xl ((Xn.mk a1.Op a1.Turn a1.Pending v24.1 a1.Store a1.Events a1.Rows a1.Late).Store))) (cc (X4 (X0 X0a ((Xn.mk a1.Op a1.Turn a1.Pending v24.1 a1.Store a1.Events a1.Rows a1.Late).Events))) (cc (X4 (X0 X07 ((Xn.mk a1.Op a1.Turn a1.Pending v24.1 a1.Store a1.Events a1.Rows a1.Late).Rows))) (cc (X4 (X0 X03 ((Xn.mk a1.Op a1.Turn a1.Pending v24.1 a1.Store a1.Events a1.Rows a1.Late).Late))) cn)))))))))) (cc (Zn Xp) cn)))|exact X00) ?_
   exact X8 rfl (X04 (cc (X0i (cc .sc (cc .sc (cc .sc (cc (.listS rfl) (cc (.listS rfl) (cc (.listS rfl) (cc (.listS rfl) (cc (.listS rfl) (cc (.listS rfl) cn)))))))))) (cc .sc cn)))
  clear h; intro h26 h
  refine X3 h ?_
  clear h; intro v29 h30 h
  refine X3 h ?_
  clear h; intro v31 h32 h
  refine rn tmD [Bf, .pure [(Lf (List.map (aI .i64) v24.1))] (AV.tup [(aI .i64 v29.1), (aI .i64 v29.2)]), .pure [(Lf (a1.Store.map X2)), (aI .i64 v29.1)] (AV.tup [(AV.list true (v31.1.map X2)), (AV.list true (v31.2.1.map X2)), (aI .i64 v31.2.2)])] rfl (by repeat' first|apply Ya|exact (pn (X3r _ _ h30) (cc (X4 (X0 (fun _ => X06) v24.1)) cn))|exact (pn (Xfn _ _ _ h32) (cc (X4 (X0 Xl a1.Store)) (cc .sc cn)))|exact X00) ?_
  refine Xa.inline Xe Xst rfl rfl rfl rfl rfl trivial trivial rfl rfl ?_
  refine Xm tmD [] ?_
  refine Xa.back (by intro id h; cases h) rfl ?_
  refine Xm tmD [] ?_
  refine Xa.unown 1 [AV.agg [(aI .u8 a1.Op.Kind), (aI .i64 a1.Op.N), (aI .i64 a1.Turn), (Lf (a1.Pending.map Xp)), (Lf (List.map (aI .i64) v24.1)), (Lf (v31.2.1.map X2)), (Lf (a1.Events.map Xv)), (Lf (a1.Rows.map Xk)), (Lf (a1.Late.map Xs))]] rfl rfl ?_
  refine Xa.keepL [5, 8, 21, 22, 131] ?_
  refine Xa.rangeFunc rfl trivial Xsb rfl rfl rfl ?_
  intro rb rD rr rh1 rh2 rh3 rh4 rh5
  refine X3 h ?_
  clear h; intro u33 h34 h
  have qh34 := X1w h34
  refine X3 h ?_
  clear h; intro o96 h97 h
  refine Xm tmD [.el (aI .i64 (v31.1.length : Int))] ?_
  refine wkT [] (Xa.cut (Xc6 rh1 rh2 rh3 rh4 rh5 (Xn.mk a1.Op a1.Turn a1.Pending v24.1 v31.2.1 a1.Events a1.Rows a1.Late) (Xn.mk ((Xn.mk (GOp.mk 0 0) 0 ([] : List Xz) ([] : List Int) ([] : List X9) ([] : List Xq) ([] : List X0j) ([] : List Xb)).Op) ((Xn.mk (GOp.mk 0 0) 0 ([] : List Xz) ([] : List Int) ([] : List X9) ([] : List Xq) ([] : List X0j) ([] : List Xb)).Turn) ((Xn.mk (GOp.mk 0 0) 0 ([] : List Xz) ([] : List Int) ([] : List X9) ([] : List Xq) ([] : List X0j) ([] : List Xb)).Pending) ((Xn.mk (GOp.mk 0 0) 0 ([] : List Xz) ([] : List Int) ([] : List X9) ([] : List Xq) ([] : List X0j) ([] : List Xb)).Marks) ((Xn.mk (GOp.mk 0 0) 0 ([] : List Xz) ([] : List Int) ([] : List X9) ([] : List Xq) ([] : List X0j) ([] : List Xb)).Store) ((Xn.mk (GOp.mk 0 0) 0 ([] : List Xz) ([] : List Int) ([] : List X9) ([] : List Xq) ([] : List X0j) ([] : List Xb)).Events) ((Xn.mk (GOp.mk 0 0) 0 ([] : List Xz) ([] : List Int) ([] : List X9) ([] : List Xq) ([] : List X0j) ([] : List Xb)).Rows) ((Xn.mk (GOp.mk 0 0) 0 ([] : List Xz) ([] : List Int) ([] : List X9) ([] : List Xq) ([] : List X0j) ([] : List Xb)).Late)) a0 v31.1 qh34 v31.1 0 (by simp) _ (nbT (by first | rfl | simp [*])) _ h97 ?_))
  intro X75 Xa1 eo96; subst eo96
  refine Xa.glue ?_
  try dsimp only at h
  rcases Xa1 with ⟨_ | _, Xjk⟩
  ·
   refine Xm tmD [] ?_
   refine Xa.rfEnd (by intro id h; cases h) ?_
   refine X3 h ?_
   clear h; intro v98 h99 h
   obtain rfl := oj h
   refine rn tmD [.pure [(Xg false (Xn.mk a1.Op a1.Turn a1.Pending v24.1 v31.2.1 a1.Events a1.Rows a1.Late)), (Lf (X75.map Xp))] (AV.tup [(Xg true v98.1), (aI .i64 v98.2)])] rfl (by repeat' first|apply Ya|exact (X22.lent (X7r _ _ _ h99) (cc (X0i (cc .sc (cc .sc (cc .sc (cc (X4 (X0 X0b ((Xn.mk a1.Op a1.Turn a1.Pending v24.1 v31.2.1 a1.Events a1.Rows a1.Late).Pending))) (cc (X4 (X0 (fun _ => X06) ((Xn.mk a1.Op a1.Turn a1.Pending v24.1 v31.2.1 a1.Events a1.Rows a1.Late).Marks))) (cc (X4 (X0 Xl ((Xn.mk a1.Op a1.Turn a1.Pending v24.1 v31.2.1 a1.Events a1.Rows a1.Late).Store))) (cc (X4 (X0 X0a ((Xn.mk a1.Op a1.Turn a1.Pending v24.1 v31.2.1 a1.Events a1.Rows a1.Late).Events))) (cc (X4 (X0 X07 ((Xn.mk a1.Op a1.Turn a1.Pending v24.1 v31.2.1 a1.Events a1.Rows a1.Late).Rows))) (cc (X4 (X0 X03 ((Xn.mk a1.Op a1.Turn a1.Pending v24.1 v31.2.1 a1.Events a1.Rows a1.Late).Late))) cn)))))))))) (cc (X1b (es := X75.map Xp) rfl (by first | rfl | (simp; done) | (simp; rfl) | (simp [h3, h6, h13, h16, h17, h18, h26]; done) | (simp [h3, h6, h13, h16, h17, h18, h26]; rfl) | (simp [h3, h6, h13, h16, h17, h18, h26, Ym, Yd]; done) | (simp [h3, h6, h13, h16, h17, h18, h26, Ym, Yd]; rfl)) (by first | rfl | (simp; done) | (simp; omega) | (simp [h3, h6, h13, h16, h17, h18, h26]; done) | (simp [h3, h6, h13, h16, h17, h18, h26]; omega)) (X0 X0b X75)) cn)) (Xae (X6 (.agg (X6 .sc (X6 .sc (X6 .sc (X6 (Xx (X0 X0b _)) (X6 (Xx (X0 (fun _ => X06) _)) (X6 (Xx (X0 Xl _)) (X6 (Xx (X0 X0a _)) (X6 (Xx (X0 X07 _)) (X6 (Xx (X0 X03 _)) X08)))))))))) (X6 .sc X08))))|exact X00) ?_
   exact X8 rfl (X04 (cc (X0i (cc .sc (cc .sc (cc .sc (cc (.listS rfl) (cc (.listS rfl) (cc (.listS rfl) (cc (.listS rfl) (cc (.listS rfl) (cc (.listS rfl) cn)))))))))) (cc .sc cn)))
  obtain rfl := Xjk rfl
  refine Xm tmD [] ?_
  refine Xa.rfEnd (by intro id h; cases h) ?_
  refine X3 h ?_
  clear h; intro v100 h101 h
  obtain rfl := oj h
  refine rn tmD [.pure [(Xg false (Xn.mk a1.Op a1.Turn a1.Pending v24.1 v31.2.1 a1.Events a1.Rows a1.Late)), (Lf (List.map Xp ([] : List Xz)))] (AV.tup [(Xg true v100.1), (aI .i64 v100.2)])] rfl (by repeat' first|apply Ya|exact (pn (X7r _ _ _ h101) (cc (X0i (cc .sc (cc .sc (cc .sc (cc (X4 (X0 X0b ((Xn.mk a1.Op a1.Turn a1.Pending v24.1 v31.2.1 a1.Events a1.Rows a1.Late).Pending))) (cc (X4 (X0 (fun _ => X06) ((Xn.mk a1.Op a1.Turn a1.Pending v24.1 v31.2.1 a1.Events a1.Rows a1.Late).Marks))) (cc (X4 (X0 Xl ((Xn.mk a1.Op a1.Turn a1.Pending v24.1 v31.2.1 a1.Events a1.Rows a1.Late).Store))) (cc (X4 (X0 X0a ((Xn.mk a1.Op a1.Turn a1.Pending v24.1 v31.2.1 a1.Events a1.Rows a1.Late).Events))) (cc (X4 (X0 X07 ((Xn.mk a1.Op a1.Turn a1.Pending v24.1 v31.2.1 a1.Events a1.Rows a1.Late).Rows))) (cc (X4 (X0 X03 ((Xn.mk a1.Op a1.Turn a1.Pending v24.1 v31.2.1 a1.Events a1.Rows a1.Late).Late))) cn)))))))))) (cc (Zn Xp) cn)))|exact X00) ?_
  exact X8 rfl (X04 (cc (X0i (cc .sc (cc .sc (cc .sc (cc (.listS rfl) (cc (.listS rfl) (cc (.listS rfl) (cc (.listS rfl) (cc (.listS rfl) (cc (.listS rfl) cn)))))))))) (cc .sc cn)))
 clear h
 have h := h12
 refine brE h ?_ ?_
 ·clear h; intro h10 h
  obtain rfl := oj h
  refine rn tmD [.go false, .go false, .go false, .go false, .go false, .go false, .go false] rfl (by repeat' first|apply Ya|exact (pn (X24 _ _ h2) (cc (X0i (cc .sc (cc (X4 (X0 Xh a0.Arg)) (cc (X4 (X0 (fun _ => X06) a0.Sources)) (cc .sc (cc (X4 (X0 Xh a0.Where)) (cc .sc (cc .sc (cc .sc (cc .sc (cc .sc cn))))))))))) cn))|exact (pn (X35 _ _ h5) (cc (X0i (cc .sc (cc .sc (cc .sc (cc (X4 (X0 X0b a1.Pending)) (cc (X4 (X0 (fun _ => X06) a1.Marks)) (cc (X4 (X0 Xl a1.Store)) (cc (X4 (X0 X0a a1.Events)) (cc (X4 (X0 X07 a1.Rows)) (cc (X4 (X0 X03 a1.Late)) cn)))))))))) cn))|exact ((Xy h10 rfl))|exact (X0o (Xy h10 rfl))|exact (Xaa (Xy h10 rfl))|exact X00) ?_
  refine Xa.denil 3 [AV.agg [(aI .u8 0), (aI .i64 0), (aI .i64 0), (AV.list true (List.map Xp ([] : List Xz))), (AV.list true (List.map (aI .i64) ([] : List Int))), (AV.list true (List.map X2 ([] : List X9))), (AV.list true (List.map Xv ([] : List Xq))), (AV.list true (List.map Xk ([] : List X0j))), (AV.list true (List.map Xs ([] : List Xb)))]] rfl rfl ?_
  exact wkT [] (Xa.glue J)
 clear h; intro h10 h
 refine brE h ?_ ?_
 ·clear h; intro h11 h
  obtain rfl := oj h
  refine rn tmD [.go true, .go true, .go false, .go false, .go false, .go false, .go false] rfl (by repeat' first|apply Ya|exact (pn (X24 _ _ h2) (cc (X0i (cc .sc (cc (X4 (X0 Xh a0.Arg)) (cc (X4 (X0 (fun _ => X06) a0.Sources)) (cc .sc (cc (X4 (X0 Xh a0.Where)) (cc .sc (cc .sc (cc .sc (cc .sc (cc .sc cn))))))))))) cn))|exact (pn (X35 _ _ h5) (cc (X0i (cc .sc (cc .sc (cc .sc (cc (X4 (X0 X0b a1.Pending)) (cc (X4 (X0 (fun _ => X06) a1.Marks)) (cc (X4 (X0 Xl a1.Store)) (cc (X4 (X0 X0a a1.Events)) (cc (X4 (X0 X07 a1.Rows)) (cc (X4 (X0 X03 a1.Late)) cn)))))))))) cn))|exact ((X1s h10 h11))|exact (X0o (X1s h10 h11))|exact (Xaa (X1s h10 h11))|exact X00) ?_
  refine Xa.denil 3 [AV.agg [(aI .u8 0), (aI .i64 0), (aI .i64 0), (AV.list true (List.map Xp ([] : List Xz))), (AV.list true (List.map (aI .i64) ([] : List Int))), (AV.list true (List.map X2 ([] : List X9))), (AV.list true (List.map Xv ([] : List Xq))), (AV.list true (List.map Xk ([] : List X0j))), (AV.list true (List.map Xs ([] : List Xb)))]] rfl rfl ?_
  exact wkT [] (Xa.glue J)
 clear h; intro h11 h
 obtain rfl := oj h
 refine rn tmD [.go true, .go true, .go true, .go true, .go true, .go true, .el (aI .i64 (a1.Marks.length : Int)), .go true] rfl (by repeat' first|apply Ya|exact (pn (X24 _ _ h2) (cc (X0i (cc .sc (cc (X4 (X0 Xh a0.Arg)) (cc (X4 (X0 (fun _ => X06) a0.Sources)) (cc .sc (cc (X4 (X0 Xh a0.Where)) (cc .sc (cc .sc (cc .sc (cc .sc (cc .sc cn))))))))))) cn))|exact (pn (X35 _ _ h5) (cc (X0i (cc .sc (cc .sc (cc .sc (cc (X4 (X0 X0b a1.Pending)) (cc (X4 (X0 (fun _ => X06) a1.Marks)) (cc (X4 (X0 Xl a1.Store)) (cc (X4 (X0 X0a a1.Events)) (cc (X4 (X0 X07 a1.Rows)) (cc (X4 (X0 X03 a1.Late)) cn)))))))))) cn))|exact ((X1s h10 h11))|exact (X0o (X1s h10 h11))|exact (Xiy (X1s h10 h11))|exact X00) ?_
 refine Xa.denil 3 [AV.agg [(aI .u8 0), (aI .i64 0), (aI .i64 0), (AV.list true (List.map Xp ([] : List Xz))), (AV.list true (List.map (aI .i64) ([] : List Int))), (AV.list true (List.map X2 ([] : List X9))), (AV.list true (List.map Xv ([] : List Xq))), (AV.list true (List.map Xk ([] : List X0j))), (AV.list true (List.map Xs ([] : List Xb)))]] rfl rfl ?_
 exact wkT [] (Xa.glue J)
theorem Xfq (a0 : Xn) (r : Xn) (h : X9z a0 = some r) : X16 Tryz.prog 8 [(Xg false a0)] (Xg true r) := by
 refine X16.sym Xe fn8 (nt := 34) rfl rfl ?_ (X6 (X32 false _ _).1 X08)
 unfold X9z at h
 refine brE h ?_ ?_
 ·clear h; intro q h
  have h1 : a0.Pending = [] := List.isEmpty_iff.1 q
  refine brE h ?_ ?_
  ·clear h; intro q h; cases h
  clear h; intro q h
  have h2 : ¬ (a0.Marks = []) := (fun e => by rw [e] at q; cases q)
  refine X3 h ?_
  clear h; intro u3 h4 h
  refine brE h ?_ ?_
  ·clear h; intro q h
   have h5 : a0.Store = [] := List.isEmpty_iff.1 q
   refine brE h ?_ ?_
   ·clear h; intro q h
    have h6 : a0.Events = [] := List.isEmpty_iff.1 q
    refine brE h ?_ ?_
    ·clear h; intro q h
     have h7 : a0.Rows = [] := List.isEmpty_iff.1 q
     refine brE h ?_ ?_
     ·clear h; intro q h
      have h8 : a0.Late = [] := List.isEmpty_iff.1 q
      obtain rfl := oj h
      refine rn tmD [.ne false, .via (AV.list true (List.map (aI .i64) a0.Marks)), .ne false, .ne false, .ne false, .ne false] rfl (by repeat' first | refine Ya ?_ ?_ | (refine X2p h4 rfl ?_; first | (simp; done) | (simp; omega) | (simp [h1, h2, h5, h6, h7, h8]; done) | (simp [h1, h2, h5, h6, h7, h8]; omega)) | (refine X1e h4 (by decide) ?_; first | (simp; done) | (simp; omega) | (simp [h1, h2, h5, h6, h7, h8]; done) | (simp [h1, h2, h5, h6, h7, h8]; omega))|exact X00) ?_
      exact X8 rfl (X0i (cc .sc (cc .sc (cc .sc (cc (Xu (es := a0.Pending.map Xp) (by simp [*])) (cc (X1b (es := List.map (aI .i64) a0.Marks) rfl (by first | rfl | (simp; done) | (simp; rfl) | (simp [h1, h2, h5, h6, h7, h8]; done) | (simp [h1, h2, h5, h6, h7, h8]; rfl) | (simp [h1, h2, h5, h6, h7, h8, Ym, Yd]; done) | (simp [h1, h2, h5, h6, h7, h8, Ym, Yd]; rfl)) (by first | rfl | (simp; done) | (simp; omega) | (simp [h1, h2, h5, h6, h7, h8]; done) | (simp [h1, h2, h5, h6, h7, h8]; omega)) (X0 (fun _ => X06) a0.Marks)) (cc (Xu (es := a0.Store.map X2) (by simp [*])) (cc (Xu (es := a0.Events.map Xv) (by simp [*])) (cc (Xu (es := a0.Rows.map Xk) (by simp [*])) (cc (Xu (es := a0.Late.map Xs) (by simp [*])) cn))))))))))
     clear h; intro q h; cases h
    clear h; intro q h; cases h
   clear h; intro q h; cases h
  clear h; intro q h; cases h
 clear h; intro q h; cases h
end Go.Av.Tryz