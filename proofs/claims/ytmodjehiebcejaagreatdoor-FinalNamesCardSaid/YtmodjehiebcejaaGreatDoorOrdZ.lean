/- What graph.order answers. -/
import Derived.Test.YtmodjehiebcejaaGreatDoorDTypesO
import Derived.Test.YtmodjehiebcejaaGreatDoorTabX
set_option linter.all false

namespace Go.D
noncomputable section
def X02i (l : List X4i) : Option Unit := bif l.all (fun c => decide (0 <= c.To)) then some () else none
def X8n (g : X57) : Option (List Int) := (Xe4 (List.length g.Ops)).bind fun _ => (Xe4 (List.length g.Channels)).bind fun _ => (X02i g.Channels).bind fun _ => ordL (List.length g.Ops) (g.Channels.map fun c => (c.From, c.To))
end
end Go.D
namespace Go.Av.Tryz
open Go.Proofs Go.D
set_option maxRecDepth 10000
set_option maxHeartbeats 4000000
theorem tmIO : X2i Tryz.prog X6g.find /\ Tryz.prog.follows .mixedOrders = true := ⟨X4, by kernel_rfl⟩
instance X19q : TmD Tryz.prog X6g.find := ⟨tmIO⟩
theorem X0xm : X5a Tryz.prog 108 Tryz.f108 (X2e Tryz.f108) := ⟨Tryz.func108, by kernel_rfl, rfl⟩
theorem X8h {ks : List (Int × Int)} : ∀ p ∈ ks.map (kvE iV), MapKept.IsKey (.int .i64) p.1 := by intro p hp; obtain ⟨z, _, rfl⟩ := List.mem_map.1 hp; rfl
theorem X9a {Q : X2 -> St -> Mu -> Prop} {μ : Mu} (b : Nat) (g : X57) (N : Nat) (hl : N <= 140737488355328) : ∀ (n k : Nat) (hx : k + n = N) (ks : List (Int × Int))
    (C : Xk Tryz.prog 84 0 Q (.exit (.exit 0)) [] ⟨fr [(1, AV.ptr 0 0 0), (2, .nils), (3, .sc (.map (some b)))], hp [(0, { es := [X18 false g], esz := 2 })], 1⟩ ((b, (Xij ks (k : Int) n).map (kvE iV)) :: μ)),
    Xk Tryz.prog 84 0 Q (.loop (Xe3 0 (X2e Tryz.f108))) [] ⟨fr [(1, AV.ptr 0 0 0), (2, .nils), (3, .sc (.map (some b))), (16, aI .i64 (N : Int)), (17, aI .i64 (k : Int))], hp [(0, { es := [X18 false g], esz := 2 })], 1⟩ ((b, ks.map (kvE iV)) :: μ) := by
  intro n
  induction n with
  | zero =>
    intro k hx ks C
    have hc : decide ((k : Int) < (N : Int)) = false := decide_eq_false (by omega)
    refine Xk.round ?_
    exact X65 [.br false] (k := wkT [] C)
  | succ n ih =>
    intro k hx ks C
    have hc : decide ((k : Int) < (N : Int)) = true := decide_eq_true (by omega)
    refine Xk.round ?_
    refine X4d [.br true] ?_
    refine Xk.mapUpd (d := .int .i64) X4 rfl rfl rfl rfl rfl Tryz.underlying3 rfl rfl rfl trivial trivial trivial rfl X8h ?_
    rw [Xfp]
    refine X4d [] ?_
    exact wkT [] (ih (k + 1) (by omega) (Xbw (k : Int) 0 ks) (by exact C))
theorem X99 {Q : X2 -> St -> Mu -> Prop} {μ : Mu} (b : Nat) (g : X57) (l : List X4i) (hl : List.length l <= 140737488355328) : ∀ (xs : List X4i) (k : Nat) (hx : l.drop k = xs) (ks : List (Int × Int))
    (C : Xk Tryz.prog 84 0 Q (.exit (.exit 2)) [] ⟨fr [(1, AV.ptr 0 0 0), (2, .nils), (3, .sc (.map (some b)))], hp [(0, { es := [X18 false g], esz := 2 })], 1⟩ ((b, (Xdk ks (xs.map (·.To))).map (kvE iV)) :: μ)),
    Xk Tryz.prog 84 0 Q (.loop (Xe3 1 (X2e Tryz.f108))) [] ⟨fr [(1, AV.ptr 0 0 0), (2, .nils), (3, .sc (.map (some b))), (24, AV.list false (List.map X2p l)), (25, aI .i64 (List.length l : Int)), (26, aI .i64 (k : Int))], hp [(0, { es := [X18 false g], esz := 2 })], 1⟩ ((b, ks.map (kvE iV)) :: μ) := by
  intro xs
  induction xs with
  | nil =>
    intro k hx ks C
    have hk := Xac hx
    have hc : decide ((k : Int) < (List.length l : Int)) = false := decide_eq_false (by omega)
    refine Xk.round ?_
    exact X65 [.br false] (k := wkT [] C)
  | cons x xs ih =>
    intro k hx ks C
    obtain ⟨hk, hg, hx1⟩ := X8s hx
    have hc : decide ((k : Int) < (List.length l : Int)) = true := decide_eq_true (by omega)
    refine Xk.round ?_
    refine X4d [.br true, .el (X2p x)] ?_
    refine Xk.mapLookI (d := .int .i64) (z := .int .i64 0) X4 rfl rfl rfl rfl rfl Tryz.underlying3 (fun _ => rfl) rfl rfl rfl trivial trivial rfl X8h ?_
    rw [Xkh]
    refine X4d [.wrap] ?_
    refine Xk.mapUpd (d := .int .i64) X4 rfl rfl rfl rfl rfl Tryz.underlying3 rfl rfl rfl trivial trivial trivial rfl X8h ?_
    rw [Xfp]
    refine X4d [] ?_
    exact wkT [] (ih (k + 1) hx1 _ C)
theorem X63 {Q : X2 -> St -> Mu -> Prop} {μ : Mu} (b : Nat) (g : X57) (nx : Int) (out : List Int) (nb : Nb out) (l : List X4i) (hl : List.length l <= 140737488355328) : ∀ (xs : List X4i) (k : Nat) (hx : l.drop k = xs) (ks : List (Int × Int))
    (C : Xk Tryz.prog 84 0 Q (.exit (.exit 8)) [] ⟨fr [(1, AV.ptr 0 0 0), (2, .nils), (3, .sc (.map (some b))), (7, slE nb.1 1 (List.map (aI .i64) out))], hp ([(0, { es := [X18 false g], esz := 2 })] ++ opE nb.1 1 1 (List.map (aI .i64) out)), 2⟩ ((b, (X7j nx ks (xs.map fun c => (c.From, c.To))).map (kvE iV)) :: μ)),
    Xk Tryz.prog 84 0 Q (.loop (Xe3 4 (X2e Tryz.f108))) [] ⟨fr [(1, AV.ptr 0 0 0), (2, .nils), (3, .sc (.map (some b))), (7, slE nb.1 1 (List.map (aI .i64) out)), (8, aI .i64 nx), (67, AV.list false (List.map X2p l)), (68, aI .i64 (List.length l : Int)), (69, aI .i64 (k : Int))], hp ([(0, { es := [X18 false g], esz := 2 })] ++ opE nb.1 1 1 (List.map (aI .i64) out)), 2⟩ ((b, ks.map (kvE iV)) :: μ) := by
  intro xs
  induction xs with
  | nil =>
    intro k hx ks C
    have hk := Xac hx
    have hc : decide ((k : Int) < (List.length l : Int)) = false := decide_eq_false (by omega)
    refine Xk.round ?_
    rcases nb with ⟨_ | _, hn⟩ <;> (try obtain rfl := hn rfl)
    all_goals exact X65 [.br false] (k := wkT [] C)
  | cons x xs ih =>
    intro k hx ks C
    obtain ⟨hk, hg, hx1⟩ := X8s hx
    have hc : decide ((k : Int) < (List.length l : Int)) = true := decide_eq_true (by omega)
    refine Xk.round ?_
    cases hs : decide (x.From = nx) with
    | true =>
      have C' : Xk Tryz.prog 84 0 Q (.exit (.exit 8)) [] ⟨fr [(1, AV.ptr 0 0 0), (2, .nils), (3, .sc (.map (some b))), (7, slE nb.1 1 (List.map (aI .i64) out))], hp ([(0, { es := [X18 false g], esz := 2 })] ++ opE nb.1 1 1 (List.map (aI .i64) out)), 2⟩ ((b, (X7j nx (Xbw x.To (IntKind.i64.wrap (Xj0 x.To ks - 1)) ks) (xs.map fun c => (c.From, c.To))).map (kvE iV)) :: μ) := by
        simp only [List.map_cons, X7j, hs, cond_true] at C; exact C
      rcases nb with ⟨_ | _, hn⟩ <;> (try obtain rfl := hn rfl)
      all_goals
        refine X4d [.br true, .el (X2p x), .br true] ?_
        refine Xk.mapLookI (d := .int .i64) (z := .int .i64 0) X4 rfl rfl rfl rfl rfl Tryz.underlying3 (fun _ => rfl) rfl rfl rfl trivial trivial rfl X8h ?_
        rw [Xkh]
        refine X4d [.wrap] ?_
        refine Xk.mapUpd (d := .int .i64) X4 rfl rfl rfl rfl rfl Tryz.underlying3 rfl rfl rfl trivial trivial trivial rfl X8h ?_
        rw [Xfp]
        refine X4d [] ?_
        exact wkT [] (ih (k + 1) hx1 _ C')
    | false =>
      have C' : Xk Tryz.prog 84 0 Q (.exit (.exit 8)) [] ⟨fr [(1, AV.ptr 0 0 0), (2, .nils), (3, .sc (.map (some b))), (7, slE nb.1 1 (List.map (aI .i64) out))], hp ([(0, { es := [X18 false g], esz := 2 })] ++ opE nb.1 1 1 (List.map (aI .i64) out)), 2⟩ ((b, (X7j nx ks (xs.map fun c => (c.From, c.To))).map (kvE iV)) :: μ) := by
        simp only [List.map_cons, X7j, hs, cond_false] at C; exact C
      rcases nb with ⟨_ | _, hn⟩ <;> (try obtain rfl := hn rfl)
      all_goals
        refine X4d [.br true, .el (X2p x), .br false] ?_
        exact wkT [] (ih (k + 1) hx1 _ C')
theorem X3h {Q : X2 -> St -> Mu -> Prop} {μ : Mu} (b r : Nat) (g : X57) (out : List Int) (nb : Nb out) (ents : Array MapEntry) (clock : Nat) (ks : List (Int × Int)) (hl : ents.toList.map (fun e => (e.key, e.val)) = ks.map (kvE iV)) (hpw : ents.toList.Pairwise (fun x y => x.born < y.born)) (hcl : ∀ e ∈ ents.toList, e.born < clock) (hge : ∀ p ∈ ks, 0 <= p.1)
    (C : ∀ seen c1, Xk Tryz.prog 84 0 Q (.exit (.exit 6)) [] ⟨fr [(1, AV.ptr 0 0 0), (2, .nils), (3, .sc (.map (some b))), (7, slE nb.1 1 (List.map (aI .i64) out)), (8, aI .i64 (X44 ks))], hp ([(0, { es := [X18 false g], esz := 2 })] ++ opE nb.1 1 1 (List.map (aI .i64) out)), 2⟩ ((r, .blk (.mapIter (some b) clock seen c1)) :: (b, .blk (.map ents clock)) :: μ)) :
    ∀ (m : Nat) (seen : Array Nat) (c1 : Nat) (hc1 : clock <= c1) (nx : Int) (hm : (leftOf ents seen).size = m) (hL : X4p nx (Xdm ents seen)),
    Xk Tryz.prog 84 0 Q (.loop (Xe3 3 (X2e Tryz.f108))) [] ⟨fr [(1, AV.ptr 0 0 0), (2, .nils), (3, .sc (.map (some b))), (7, slE nb.1 1 (List.map (aI .i64) out)), (8, aI .i64 nx), (40, .sc (.pointer (some ⟨r, 0, none⟩)))], hp ([(0, { es := [X18 false g], esz := 2 })] ++ opE nb.1 1 1 (List.map (aI .i64) out)), 2⟩ ((r, .blk (.mapIter (some b) clock seen c1)) :: (b, .blk (.map ents clock)) :: μ) := by
  intro m
  induction m using Nat.strongRecOn with
  | ind m ih =>
    intro seen c1 hc1 nx hm hL
    refine Xk.round ?_
    refine X4d [] ?_
    refine Xk.mapNext rfl rfl rfl rfl trivial hcl hc1 (fun h0 => ?_) (fun e he => ?_)
    · have hn := Xe5 hl h0 hge hL
      subst hn
      rcases nb with ⟨_ | _, hn⟩ <;> (try obtain rfl := hn rfl)
      all_goals exact X65 [.br false] (k := wkT [] (C _ _))
    · obtain ⟨⟨i, n⟩, hp, hk, hv⟩ := Xop hl (X81.1 he).1
      have hS := Xdm.step hpw he (i := i) (n := n) (by rw [hk, hv]; rfl)
      have hst := hL.step i n (hge _ hp) hS
      have hlt := Xo5 he
      rcases nb with ⟨_ | _, hn⟩ <;> (try obtain rfl := hn rfl)
      all_goals
        refine X4d [.br true] ?_
        refine Xk.mapEntryI rfl rfl rfl rfl trivial (X81.1 he).1 hpw ?_
        rw [hk, hv]
        cases hb : (decide (n = 0) && (decide (nx < 0) || decide (i < nx))) with
        | true =>
          rw [hb, cond_true] at hst
          exact X65 [.br true] (k := wkT [] (ih _ (hm ▸ hlt) _ _ (Nat.le_refl _) _ rfl hst))
        | false =>
          rw [hb, cond_false] at hst
          exact X65 [.br false] (k := wkT [] (ih _ (hm ▸ hlt) _ _ (Nat.le_refl _) _ rfl hst))
theorem X98 {Q : X2 -> St -> Mu -> Prop} {μ : Mu} (b : Nat) (g : X57) (hl : List.length g.Channels <= 140737488355328) (hto : ∀ c ∈ (g.Channels.map fun c => (c.From, c.To)), 0 <= c.2) : ∀ (f : Nat) (ks : List (Int × Int)) (out : List Int) (nb : Nb out) (hf : out.length + f <= 1000) (hge : ∀ p ∈ ks, 0 <= p.1) (r : List Int) (h : Xik (g.Channels.map fun c => (c.From, c.To)) f ks out = some r)
    (C : ∀ (nb' : Nb r) es, Xk Tryz.prog 84 0 Q (.exit (.exit 4)) [] ⟨fr [(7, slE nb'.1 0 (List.map (aI .i64) r))], hp ([] ++ opE nb'.1 0 1 (List.map (aI .i64) r)), 1⟩ ((b, .map es) :: μ)),
    Xk Tryz.prog 84 0 Q (.loop (Xe3 2 (X2e Tryz.f108))) [] ⟨fr [(1, AV.ptr 0 0 0), (2, .nils), (3, .sc (.map (some b))), (7, slE nb.1 1 (List.map (aI .i64) out))], hp ([(0, { es := [X18 false g], esz := 2 })] ++ opE nb.1 1 1 (List.map (aI .i64) out)), 2⟩ ((b, ks.map (kvE iV)) :: μ) := by
  intro f
  induction f with
  | zero => intro ks out nb hf hge r h; cases h
  | succ f ih =>
    intro ks out nb hf hge r h C
    refine Xk.round ?_
    revert h
    rw [Xik]
    refine brI (fun h1 => ?_) fun h1 => ?_
    · refine brI (fun h2 => ?_) fun h2 => ?_
      · intro h
        obtain rfl := oj h
        rcases nb with ⟨_ | _, hn⟩ <;> (try obtain rfl := hn rfl)
        all_goals
          refine X4d [] ?_
          refine Xk.mapLen X4 rfl rfl rfl rfl rfl rfl trivial ?_
          rw [List.length_map]
          refine X4d [.br true] ?_
          refine Xk.mapRange X4 rfl rfl rfl rfl rfl rfl trivial fun q ents clock hl1 hpw hcl => ?_
          refine X4d [] ?_
        · refine wkT [] (Xk.cut (X3h b q g _ nbF ents clock ks hl1 hpw hcl hge (fun seen c1 => ?_) _ #[] clock (Nat.le_refl _) (-1) rfl X6q))
          refine Xk.glue ?_
          refine Xk.mapShutC hl1 hpw hcl ?_
          exact X65 [.br true] (k := wkT [(0, 1)] (C nbF _))
        · refine wkT [] (Xk.cut (X3h b q g _ nbS ents clock ks hl1 hpw hcl hge (fun seen c1 => ?_) _ #[] clock (Nat.le_refl _) (-1) rfl X6q))
          refine Xk.glue ?_
          refine Xk.mapShutC hl1 hpw hcl ?_
          exact X65 [.br true] (k := wkT [] (C nbS _))
      · intro h
        have hq : Xhb (List.length (out ++ [X44 ks])) 8 = some () := if_pos (by simp; omega)
        rcases nb with ⟨_ | _, hn⟩ <;> (try obtain rfl := hn rfl)
        all_goals
          refine X4d [] ?_
          refine Xk.mapLen X4 rfl rfl rfl rfl rfl rfl trivial ?_
          rw [List.length_map]
          refine X4d [.br true] ?_
          refine Xk.mapRange X4 rfl rfl rfl rfl rfl rfl trivial fun q ents clock hl1 hpw hcl => ?_
          refine X4d [] ?_
        · refine wkT [] (Xk.cut (X3h b q g _ nbF ents clock ks hl1 hpw hcl hge (fun seen c1 => ?_) _ #[] clock (Nat.le_refl _) (-1) rfl X6q))
          refine Xk.glue ?_
          refine Xk.mapShutC hl1 hpw hcl ?_
          refine X4d [.br false, .no] ?_ (o := by repeat' first | refine And.intro ?_ ?_ | (refine X0go hq rfl ?_; first | (simp; done) | (simp <;> omega)) | (refine Xkz hq (by decide) ?_; first | (simp; done) | (simp <;> omega)) | exact Xaz)
          refine Xk.mapDel (d := .int .i64) X4 rfl rfl rfl rfl rfl Tryz.underlying3 rfl rfl rfl trivial trivial rfl X8h ?_
          rw [Xki]
          refine X4d [] ?_
          refine wkT [(1, 3)] (Xk.cut (X63 b g (X44 ks) (out ++ [X44 ks]) nbF g.Channels hl g.Channels 0 rfl _ ?_))
          refine Xk.glue ?_
          exact X65 [] (k := wkT [] (ih _ _ nbF (by simp; omega) (X8i _ _ hto (Xh0 hge)) _ h C))
        · refine wkT [] (Xk.cut (X3h b q g _ nbS ents clock ks hl1 hpw hcl hge (fun seen c1 => ?_) _ #[] clock (Nat.le_refl _) (-1) rfl X6q))
          refine Xk.glue ?_
          refine Xk.mapShutC hl1 hpw hcl ?_
          refine X4d [.br false, .no] ?_ (o := by repeat' first | refine And.intro ?_ ?_ | (refine X0go hq rfl ?_; first | (simp; done) | (simp <;> omega)) | (refine Xkz hq (by decide) ?_; first | (simp; done) | (simp <;> omega)) | exact Xaz)
          refine Xk.mapDel (d := .int .i64) X4 rfl rfl rfl rfl rfl Tryz.underlying3 rfl rfl rfl trivial trivial rfl X8h ?_
          rw [Xki]
          refine X4d [] ?_
          refine wkT [(1, 3)] (Xk.cut (X63 b g (X44 ks) [X44 ks] nbF g.Channels hl g.Channels 0 rfl _ ?_))
          refine Xk.glue ?_
          exact X65 [] (k := wkT [] (ih _ _ nbF (by simp; omega) (X8i _ _ hto (Xh0 hge)) _ h C))
    · intro h
      obtain rfl := oj h
      rcases nb with ⟨_ | _, hn⟩ <;> (try obtain rfl := hn rfl)
      all_goals
        refine X4d [] ?_
        refine Xk.mapLen X4 rfl rfl rfl rfl rfl rfl trivial ?_
        rw [List.length_map]
      · exact X65 [.br false] (k := wkT [(0, 1)] (C nbF _))
      · exact X65 [.br false] (k := wkT [] (C nbS _))
instance X3g : PCs Tryz.prog 108 (∀ (a0 : X57) (r : List Int), X8n a0 = some r -> X32 Tryz.prog 108 [(X18 false a0)] (AV.list true (List.map (aI .i64) r))) := ⟨fun a0 r h => by
  refine X32.sym X4 X0xm (nt := 84) rfl rfl ?_ okM
  unfold X8n at h
  revert h
  refine bI fun u1 h1 => bI fun u2 h2 => bI fun u3 h3 => ?_
  intro h
  have q1 := Xa5 h1
  have q2 := Xa5 h2
  have hto : ∀ c ∈ (a0.Channels.map fun c => (c.From, c.To)), 0 <= c.2 := by
    intro c hc
    obtain ⟨x, hx, rfl⟩ := List.mem_map.1 hc
    unfold X02i at h3
    cases hb : a0.Channels.all (fun c => decide (0 <= c.To)) with
    | false => rw [hb] at h3; cases h3
    | true => exact of_decide_eq_true (List.all_eq_true.1 hb x hx)
  refine X4d [] ?_
  refine Xk.mapNew rfl rfl rfl fun b => ?_
  refine X4d [] ?_
  refine wkT [] (Xk.cut (X9a b a0 (List.length a0.Ops) q1 (List.length a0.Ops) 0 (by simp) [] ?_))
  refine Xk.glue ?_
  refine X4d [] ?_
  refine wkT [] (Xk.cut (X99 b a0 a0.Channels q2 a0.Channels 0 rfl _ ?_))
  refine Xk.glue ?_
  refine X4d [] ?_
  unfold ordL at h
  rw [List.map_map] at h
  refine wkT [] (Xk.cut (X98 b a0 q2 hto 1000 _ [] nbS (by simp) (Xbg _ (by intro c hc; obtain ⟨x, hx, rfl⟩ := List.mem_map.1 hc; exact hto (x.From, x.To) (List.mem_map.2 ⟨x, hx, rfl⟩)) (Xcz _ (Int.le_refl _) (by intro p hp; cases hp))) r h (fun nb' es => ?_)))
  refine Xk.glue ?_
  rcases nb' with ⟨_ | _, hn⟩ <;> (try obtain rfl := hn rfl)
  all_goals exact X65 [] (k := fi)⟩
end Go.Av.Tryz
