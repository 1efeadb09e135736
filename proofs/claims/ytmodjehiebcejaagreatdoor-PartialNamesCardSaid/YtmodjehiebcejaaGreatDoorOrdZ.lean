/- What graph.order answers. -/
import Derived.Test.YtmodjehiebcejaaGreatDoorDTypesO
import Derived.Test.YtmodjehiebcejaaGreatDoorTabX
set_option linter.all false

namespace Go.D
noncomputable section
def Xp5 (l : List X1y) : Option Unit := bif l.all (fun c => decide (0 <= c.To)) then some () else none
def X7l (g : X36) : Option (List Int) := (Xdk (List.length g.Ops)).bind fun _ => (Xdk (List.length g.Channels)).bind fun _ => (Xp5 g.Channels).bind fun _ => ordL (List.length g.Ops) (g.Channels.map fun c => (c.From, c.To))
end
end Go.D
namespace Go.Av.Tryz
open Go.Proofs Go.D
set_option maxRecDepth 10000
set_option maxHeartbeats 4000000
theorem tmIO : X0j Tryz.prog X7x.find /\ Tryz.prog.follows .mixedOrders = true := ⟨X8, by kernel_rfl⟩
instance X0xb : TmD Tryz.prog X7x.find := ⟨tmIO⟩
theorem X067 : X4i Tryz.prog 108 Tryz.f108 (X1 Tryz.f108) := ⟨Tryz.func108, by kernel_rfl, rfl⟩
theorem X79 {ks : List (Int × Int)} : ∀ p ∈ ks.map (kvE iV), MapKept.IsKey (.int .i64) p.1 := by intro p hp; obtain ⟨z, _, rfl⟩ := List.mem_map.1 hp; rfl
theorem X85 {Q : X5 -> St -> Mu -> Prop} {μ : Mu} (b : Nat) (g : X36) (N : Nat) (hl : N <= 140737488355328) : ∀ (n k : Nat) (hx : k + n = N) (ks : List (Int × Int))
    (C : Xc Tryz.prog 84 0 Q (.exit (.exit 0)) [] ⟨fr [(1, AV.ptr 0 0 0), (2, .nils), (3, .sc (.map (some b)))], hp [(0, { es := [Xm false g], esz := 2 })], 1⟩ ((b, (Xi9 ks (k : Int) n).map (kvE iV)) :: μ)),
    Xc Tryz.prog 84 0 Q (.loop (Xdj 0 (X1 Tryz.f108))) [] ⟨fr [(1, AV.ptr 0 0 0), (2, .nils), (3, .sc (.map (some b))), (16, aI .i64 (N : Int)), (17, aI .i64 (k : Int))], hp [(0, { es := [Xm false g], esz := 2 })], 1⟩ ((b, ks.map (kvE iV)) :: μ) := by
  intro n
  induction n with
  | zero =>
    intro k hx ks C
    have hc : decide ((k : Int) < (N : Int)) = false := decide_eq_false (by omega)
    refine Xc.round ?_
    exact X4j [.br false] (k := wkT [] C)
  | succ n ih =>
    intro k hx ks C
    have hc : decide ((k : Int) < (N : Int)) = true := decide_eq_true (by omega)
    refine Xc.round ?_
    refine X1t [.br true] ?_
    refine Xc.mapUpd (d := .int .i64) X8 rfl rfl rfl rfl rfl Tryz.underlying3 rfl rfl rfl trivial trivial trivial rfl X79 ?_
    rw [Xfm]
    refine X1t [] ?_
    exact wkT [] (ih (k + 1) (by omega) (Xaw (k : Int) 0 ks) (by exact C))
theorem X84 {Q : X5 -> St -> Mu -> Prop} {μ : Mu} (b : Nat) (g : X36) (l : List X1y) (hl : List.length l <= 140737488355328) : ∀ (xs : List X1y) (k : Nat) (hx : l.drop k = xs) (ks : List (Int × Int))
    (C : Xc Tryz.prog 84 0 Q (.exit (.exit 2)) [] ⟨fr [(1, AV.ptr 0 0 0), (2, .nils), (3, .sc (.map (some b)))], hp [(0, { es := [Xm false g], esz := 2 })], 1⟩ ((b, (Xch ks (xs.map (·.To))).map (kvE iV)) :: μ)),
    Xc Tryz.prog 84 0 Q (.loop (Xdj 1 (X1 Tryz.f108))) [] ⟨fr [(1, AV.ptr 0 0 0), (2, .nils), (3, .sc (.map (some b))), (24, AV.list false (List.map X0h l)), (25, aI .i64 (List.length l : Int)), (26, aI .i64 (k : Int))], hp [(0, { es := [Xm false g], esz := 2 })], 1⟩ ((b, ks.map (kvE iV)) :: μ) := by
  intro xs
  induction xs with
  | nil =>
    intro k hx ks C
    have hk := X9a hx
    have hc : decide ((k : Int) < (List.length l : Int)) = false := decide_eq_false (by omega)
    refine Xc.round ?_
    exact X4j [.br false] (k := wkT [] C)
  | cons x xs ih =>
    intro k hx ks C
    obtain ⟨hk, hg, hx1⟩ := X7q hx
    have hc : decide ((k : Int) < (List.length l : Int)) = true := decide_eq_true (by omega)
    refine Xc.round ?_
    refine X1t [.br true, .el (X0h x)] ?_
    refine Xc.mapLookI (d := .int .i64) (z := .int .i64 0) X8 rfl rfl rfl rfl rfl Tryz.underlying3 (fun _ => rfl) rfl rfl rfl trivial trivial rfl X79 ?_
    rw [Xk6]
    refine X1t [.wrap] ?_
    refine Xc.mapUpd (d := .int .i64) X8 rfl rfl rfl rfl rfl Tryz.underlying3 rfl rfl rfl trivial trivial trivial rfl X79 ?_
    rw [Xfm]
    refine X1t [] ?_
    exact wkT [] (ih (k + 1) hx1 _ C)
theorem X4f {Q : X5 -> St -> Mu -> Prop} {μ : Mu} (b : Nat) (g : X36) (nx : Int) (out : List Int) (nb : Nb out) (l : List X1y) (hl : List.length l <= 140737488355328) : ∀ (xs : List X1y) (k : Nat) (hx : l.drop k = xs) (ks : List (Int × Int))
    (C : Xc Tryz.prog 84 0 Q (.exit (.exit 8)) [] ⟨fr [(1, AV.ptr 0 0 0), (2, .nils), (3, .sc (.map (some b))), (7, slE nb.1 1 (List.map (aI .i64) out))], hp ([(0, { es := [Xm false g], esz := 2 })] ++ opE nb.1 1 1 (List.map (aI .i64) out)), 2⟩ ((b, (X60 nx ks (xs.map fun c => (c.From, c.To))).map (kvE iV)) :: μ)),
    Xc Tryz.prog 84 0 Q (.loop (Xdj 4 (X1 Tryz.f108))) [] ⟨fr [(1, AV.ptr 0 0 0), (2, .nils), (3, .sc (.map (some b))), (7, slE nb.1 1 (List.map (aI .i64) out)), (8, aI .i64 nx), (67, AV.list false (List.map X0h l)), (68, aI .i64 (List.length l : Int)), (69, aI .i64 (k : Int))], hp ([(0, { es := [Xm false g], esz := 2 })] ++ opE nb.1 1 1 (List.map (aI .i64) out)), 2⟩ ((b, ks.map (kvE iV)) :: μ) := by
  intro xs
  induction xs with
  | nil =>
    intro k hx ks C
    have hk := X9a hx
    have hc : decide ((k : Int) < (List.length l : Int)) = false := decide_eq_false (by omega)
    refine Xc.round ?_
    rcases nb with ⟨_ | _, hn⟩ <;> (try obtain rfl := hn rfl)
    all_goals exact X4j [.br false] (k := wkT [] C)
  | cons x xs ih =>
    intro k hx ks C
    obtain ⟨hk, hg, hx1⟩ := X7q hx
    have hc : decide ((k : Int) < (List.length l : Int)) = true := decide_eq_true (by omega)
    refine Xc.round ?_
    cases hs : decide (x.From = nx) with
    | true =>
      have C' : Xc Tryz.prog 84 0 Q (.exit (.exit 8)) [] ⟨fr [(1, AV.ptr 0 0 0), (2, .nils), (3, .sc (.map (some b))), (7, slE nb.1 1 (List.map (aI .i64) out))], hp ([(0, { es := [Xm false g], esz := 2 })] ++ opE nb.1 1 1 (List.map (aI .i64) out)), 2⟩ ((b, (X60 nx (Xaw x.To (IntKind.i64.wrap (Xiq x.To ks - 1)) ks) (xs.map fun c => (c.From, c.To))).map (kvE iV)) :: μ) := by
        simp only [List.map_cons, X60, hs, cond_true] at C; exact C
      rcases nb with ⟨_ | _, hn⟩ <;> (try obtain rfl := hn rfl)
      all_goals
        refine X1t [.br true, .el (X0h x), .br true] ?_
        refine Xc.mapLookI (d := .int .i64) (z := .int .i64 0) X8 rfl rfl rfl rfl rfl Tryz.underlying3 (fun _ => rfl) rfl rfl rfl trivial trivial rfl X79 ?_
        rw [Xk6]
        refine X1t [.wrap] ?_
        refine Xc.mapUpd (d := .int .i64) X8 rfl rfl rfl rfl rfl Tryz.underlying3 rfl rfl rfl trivial trivial trivial rfl X79 ?_
        rw [Xfm]
        refine X1t [] ?_
        exact wkT [] (ih (k + 1) hx1 _ C')
    | false =>
      have C' : Xc Tryz.prog 84 0 Q (.exit (.exit 8)) [] ⟨fr [(1, AV.ptr 0 0 0), (2, .nils), (3, .sc (.map (some b))), (7, slE nb.1 1 (List.map (aI .i64) out))], hp ([(0, { es := [Xm false g], esz := 2 })] ++ opE nb.1 1 1 (List.map (aI .i64) out)), 2⟩ ((b, (X60 nx ks (xs.map fun c => (c.From, c.To))).map (kvE iV)) :: μ) := by
        simp only [List.map_cons, X60, hs, cond_false] at C; exact C
      rcases nb with ⟨_ | _, hn⟩ <;> (try obtain rfl := hn rfl)
      all_goals
        refine X1t [.br true, .el (X0h x), .br false] ?_
        exact wkT [] (ih (k + 1) hx1 _ C')
theorem X17 {Q : X5 -> St -> Mu -> Prop} {μ : Mu} (b r : Nat) (g : X36) (out : List Int) (nb : Nb out) (ents : Array MapEntry) (clock : Nat) (ks : List (Int × Int)) (hl : ents.toList.map (fun e => (e.key, e.val)) = ks.map (kvE iV)) (hpw : ents.toList.Pairwise (fun x y => x.born < y.born)) (hcl : ∀ e ∈ ents.toList, e.born < clock) (hge : ∀ p ∈ ks, 0 <= p.1)
    (C : ∀ seen c1, Xc Tryz.prog 84 0 Q (.exit (.exit 6)) [] ⟨fr [(1, AV.ptr 0 0 0), (2, .nils), (3, .sc (.map (some b))), (7, slE nb.1 1 (List.map (aI .i64) out)), (8, aI .i64 (X1n ks))], hp ([(0, { es := [Xm false g], esz := 2 })] ++ opE nb.1 1 1 (List.map (aI .i64) out)), 2⟩ ((r, .blk (.mapIter (some b) clock seen c1)) :: (b, .blk (.map ents clock)) :: μ)) :
    ∀ (m : Nat) (seen : Array Nat) (c1 : Nat) (hc1 : clock <= c1) (nx : Int) (hm : (leftOf ents seen).size = m) (hL : X28 nx (Xcj ents seen)),
    Xc Tryz.prog 84 0 Q (.loop (Xdj 3 (X1 Tryz.f108))) [] ⟨fr [(1, AV.ptr 0 0 0), (2, .nils), (3, .sc (.map (some b))), (7, slE nb.1 1 (List.map (aI .i64) out)), (8, aI .i64 nx), (40, .sc (.pointer (some ⟨r, 0, none⟩)))], hp ([(0, { es := [Xm false g], esz := 2 })] ++ opE nb.1 1 1 (List.map (aI .i64) out)), 2⟩ ((r, .blk (.mapIter (some b) clock seen c1)) :: (b, .blk (.map ents clock)) :: μ) := by
  intro m
  induction m using Nat.strongRecOn with
  | ind m ih =>
    intro seen c1 hc1 nx hm hL
    refine Xc.round ?_
    refine X1t [] ?_
    refine Xc.mapNext rfl rfl rfl rfl trivial hcl hc1 (fun h0 => ?_) (fun e he => ?_)
    · have hn := Xdl hl h0 hge hL
      subst hn
      rcases nb with ⟨_ | _, hn⟩ <;> (try obtain rfl := hn rfl)
      all_goals exact X4j [.br false] (k := wkT [] (C _ _))
    · obtain ⟨⟨i, n⟩, hp, hk, hv⟩ := Xmk hl (X6m.1 he).1
      have hS := Xcj.step hpw he (i := i) (n := n) (by rw [hk, hv]; rfl)
      have hst := hL.step i n (hge _ hp) hS
      have hlt := Xlz he
      rcases nb with ⟨_ | _, hn⟩ <;> (try obtain rfl := hn rfl)
      all_goals
        refine X1t [.br true] ?_
        refine Xc.mapEntryI rfl rfl rfl rfl trivial (X6m.1 he).1 hpw ?_
        rw [hk, hv]
        cases hb : (decide (n = 0) && (decide (nx < 0) || decide (i < nx))) with
        | true =>
          rw [hb, cond_true] at hst
          exact X4j [.br true] (k := wkT [] (ih _ (hm ▸ hlt) _ _ (Nat.le_refl _) _ rfl hst))
        | false =>
          rw [hb, cond_false] at hst
          exact X4j [.br false] (k := wkT [] (ih _ (hm ▸ hlt) _ _ (Nat.le_refl _) _ rfl hst))
theorem X83 {Q : X5 -> St -> Mu -> Prop} {μ : Mu} (b : Nat) (g : X36) (hl : List.length g.Channels <= 140737488355328) (hto : ∀ c ∈ (g.Channels.map fun c => (c.From, c.To)), 0 <= c.2) : ∀ (f : Nat) (ks : List (Int × Int)) (out : List Int) (nb : Nb out) (hf : out.length + f <= 1000) (hge : ∀ p ∈ ks, 0 <= p.1) (r : List Int) (h : Xia (g.Channels.map fun c => (c.From, c.To)) f ks out = some r)
    (C : ∀ (nb' : Nb r) es, Xc Tryz.prog 84 0 Q (.exit (.exit 4)) [] ⟨fr [(7, slE nb'.1 0 (List.map (aI .i64) r))], hp ([] ++ opE nb'.1 0 1 (List.map (aI .i64) r)), 1⟩ ((b, .map es) :: μ)),
    Xc Tryz.prog 84 0 Q (.loop (Xdj 2 (X1 Tryz.f108))) [] ⟨fr [(1, AV.ptr 0 0 0), (2, .nils), (3, .sc (.map (some b))), (7, slE nb.1 1 (List.map (aI .i64) out))], hp ([(0, { es := [Xm false g], esz := 2 })] ++ opE nb.1 1 1 (List.map (aI .i64) out)), 2⟩ ((b, ks.map (kvE iV)) :: μ) := by
  intro f
  induction f with
  | zero => intro ks out nb hf hge r h; cases h
  | succ f ih =>
    intro ks out nb hf hge r h C
    refine Xc.round ?_
    revert h
    rw [Xia]
    refine brI (fun h1 => ?_) fun h1 => ?_
    · refine brI (fun h2 => ?_) fun h2 => ?_
      · intro h
        obtain rfl := oj h
        rcases nb with ⟨_ | _, hn⟩ <;> (try obtain rfl := hn rfl)
        all_goals
          refine X1t [] ?_
          refine Xc.mapLen X8 rfl rfl rfl rfl rfl rfl trivial ?_
          rw [List.length_map]
          refine X1t [.br true] ?_
          refine Xc.mapRange X8 rfl rfl rfl rfl rfl rfl trivial fun q ents clock hl1 hpw hcl => ?_
          refine X1t [] ?_
        · refine wkT [] (Xc.cut (X17 b q g _ nbF ents clock ks hl1 hpw hcl hge (fun seen c1 => ?_) _ #[] clock (Nat.le_refl _) (-1) rfl X55))
          refine Xc.glue ?_
          refine Xc.mapShutC hl1 hpw hcl ?_
          exact X4j [.br true] (k := wkT [(0, 1)] (C nbF _))
        · refine wkT [] (Xc.cut (X17 b q g _ nbS ents clock ks hl1 hpw hcl hge (fun seen c1 => ?_) _ #[] clock (Nat.le_refl _) (-1) rfl X55))
          refine Xc.glue ?_
          refine Xc.mapShutC hl1 hpw hcl ?_
          exact X4j [.br true] (k := wkT [] (C nbS _))
      · intro h
        have hq : Xh6 (List.length (out ++ [X1n ks])) 8 = some () := if_pos (by simp; omega)
        rcases nb with ⟨_ | _, hn⟩ <;> (try obtain rfl := hn rfl)
        all_goals
          refine X1t [] ?_
          refine Xc.mapLen X8 rfl rfl rfl rfl rfl rfl trivial ?_
          rw [List.length_map]
          refine X1t [.br true] ?_
          refine Xc.mapRange X8 rfl rfl rfl rfl rfl rfl trivial fun q ents clock hl1 hpw hcl => ?_
          refine X1t [] ?_
        · refine wkT [] (Xc.cut (X17 b q g _ nbF ents clock ks hl1 hpw hcl hge (fun seen c1 => ?_) _ #[] clock (Nat.le_refl _) (-1) rfl X55))
          refine Xc.glue ?_
          refine Xc.mapShutC hl1 hpw hcl ?_
          refine X1t [.br false, .no] ?_ (o := by repeat' first | refine And.intro ?_ ?_ | (refine Xre hq rfl ?_; first | (simp; done) | (simp <;> omega)) | (refine Xko hq (by decide) ?_; first | (simp; done) | (simp <;> omega)) | exact X9z)
          refine Xc.mapDel (d := .int .i64) X8 rfl rfl rfl rfl rfl Tryz.underlying3 rfl rfl rfl trivial trivial rfl X79 ?_
          rw [Xk7]
          refine X1t [] ?_
          refine wkT [(1, 3)] (Xc.cut (X4f b g (X1n ks) (out ++ [X1n ks]) nbF g.Channels hl g.Channels 0 rfl _ ?_))
          refine Xc.glue ?_
          exact X4j [] (k := wkT [] (ih _ _ nbF (by simp; omega) (X7a _ _ hto (Xgv hge)) _ h C))
        · refine wkT [] (Xc.cut (X17 b q g _ nbS ents clock ks hl1 hpw hcl hge (fun seen c1 => ?_) _ #[] clock (Nat.le_refl _) (-1) rfl X55))
          refine Xc.glue ?_
          refine Xc.mapShutC hl1 hpw hcl ?_
          refine X1t [.br false, .no] ?_ (o := by repeat' first | refine And.intro ?_ ?_ | (refine Xre hq rfl ?_; first | (simp; done) | (simp <;> omega)) | (refine Xko hq (by decide) ?_; first | (simp; done) | (simp <;> omega)) | exact X9z)
          refine Xc.mapDel (d := .int .i64) X8 rfl rfl rfl rfl rfl Tryz.underlying3 rfl rfl rfl trivial trivial rfl X79 ?_
          rw [Xk7]
          refine X1t [] ?_
          refine wkT [(1, 3)] (Xc.cut (X4f b g (X1n ks) [X1n ks] nbF g.Channels hl g.Channels 0 rfl _ ?_))
          refine Xc.glue ?_
          exact X4j [] (k := wkT [] (ih _ _ nbF (by simp; omega) (X7a _ _ hto (Xgv hge)) _ h C))
    · intro h
      obtain rfl := oj h
      rcases nb with ⟨_ | _, hn⟩ <;> (try obtain rfl := hn rfl)
      all_goals
        refine X1t [] ?_
        refine Xc.mapLen X8 rfl rfl rfl rfl rfl rfl trivial ?_
        rw [List.length_map]
      · exact X4j [.br false] (k := wkT [(0, 1)] (C nbF _))
      · exact X4j [.br false] (k := wkT [] (C nbS _))
instance X16 : PCs Tryz.prog 108 (∀ (a0 : X36) (r : List Int), X7l a0 = some r -> X14 Tryz.prog 108 [(Xm false a0)] (AV.list true (List.map (aI .i64) r))) := ⟨fun a0 r h => by
  refine X14.sym X8 X067 (nt := 84) rfl rfl ?_ okM
  unfold X7l at h
  revert h
  refine bI fun u1 h1 => bI fun u2 h2 => bI fun u3 h3 => ?_
  intro h
  have q1 := X91 h1
  have q2 := X91 h2
  have hto : ∀ c ∈ (a0.Channels.map fun c => (c.From, c.To)), 0 <= c.2 := by
    intro c hc
    obtain ⟨x, hx, rfl⟩ := List.mem_map.1 hc
    unfold Xp5 at h3
    cases hb : a0.Channels.all (fun c => decide (0 <= c.To)) with
    | false => rw [hb] at h3; cases h3
    | true => exact of_decide_eq_true (List.all_eq_true.1 hb x hx)
  refine X1t [] ?_
  refine Xc.mapNew rfl rfl rfl fun b => ?_
  refine X1t [] ?_
  refine wkT [] (Xc.cut (X85 b a0 (List.length a0.Ops) q1 (List.length a0.Ops) 0 (by simp) [] ?_))
  refine Xc.glue ?_
  refine X1t [] ?_
  refine wkT [] (Xc.cut (X84 b a0 a0.Channels q2 a0.Channels 0 rfl _ ?_))
  refine Xc.glue ?_
  refine X1t [] ?_
  unfold ordL at h
  rw [List.map_map] at h
  refine wkT [] (Xc.cut (X83 b a0 q2 hto 1000 _ [] nbS (by simp) (Xaj _ (by intro c hc; obtain ⟨x, hx, rfl⟩ := List.mem_map.1 hc; exact hto (x.From, x.To) (List.mem_map.2 ⟨x, hx, rfl⟩)) (Xbw _ (Int.le_refl _) (by intro p hp; cases hp))) r h (fun nb' es => ?_)))
  refine Xc.glue ?_
  rcases nb' with ⟨_ | _, hn⟩ <;> (try obtain rfl := hn rfl)
  all_goals exact X4j [] (k := fi)⟩
end Go.Av.Tryz
