/- What graph.order answers. -/
import Derived.Test.YtoodllakhlkekaaGreatDoorAve
import Derived.Test.YtoodllakhlkekaaGreatDoorDTypesO
import Derived.Test.YtoodllakhlkekaaGreatDoorTabX
set_option linter.all false

namespace Go.D
noncomputable section
def Xtt (l : List X3h) : Option Unit := bif l.all (fun c => decide (0 <= c.To)) then some () else none
def X8d (g : X4j) : Option (List Int) := (X5p (List.length g.Ops)).bind fun _ => (X5p (List.length g.Channels)).bind fun _ => (Xtt g.Channels).bind fun _ => Xyg (List.length g.Ops) (g.Channels.map fun c => (c.From, c.To))
end
end Go.D
namespace Go.Av.Tryz
open Go.Proofs Go.D
set_option maxRecDepth 10000
set_option maxHeartbeats 4000000
theorem tmIO : X1h Tryz.prog Xam.find /\ Tryz.prog.follows .mixedOrders = true := ⟨X4, by kernel_rfl⟩
instance X003 : TmD Tryz.prog Xam.find := ⟨tmIO⟩
theorem fn74 : X5d Tryz.prog 74 Tryz.f74 (X3 Tryz.f74) := ⟨Tryz.func74, by kernel_rfl, rfl⟩
theorem X85 {ks : List (Int × Int)} : ∀ p ∈ ks.map (kvE iV), MapKept.IsKey (.int .i64) p.1 := by intro p hp; obtain ⟨z, _, rfl⟩ := List.mem_map.1 hp; rfl
theorem X92 {Q : Xc -> St -> Mu -> Prop} {μ : Mu} (b : Nat) (g : X4j) (N : Nat) (hl : N <= 140737488355328) : ∀ (n k : Nat) (hx : k + n = N) (ks : List (Int × Int))
    (C : Xd Tryz.prog 84 0 Q (.exit (.exit 0)) [] ⟨fr [(1, AV.ptr 0 0 0), (2, .nils), (3, .sc (.map (some b)))], hp [(0, { es := [X00 false g], esz := 2 })], 1⟩ ((b, (Xlz ks (k : Int) n).map (kvE iV)) :: μ)),
    Xd Tryz.prog 84 0 Q (.loop (X6w 0 (X3 Tryz.f74))) [] ⟨fr [(1, AV.ptr 0 0 0), (2, .nils), (3, .sc (.map (some b))), (16, aI .i64 (N : Int)), (17, aI .i64 (k : Int))], hp [(0, { es := [X00 false g], esz := 2 })], 1⟩ ((b, ks.map (kvE iV)) :: μ) := by
  intro n
  induction n with
  | zero =>
    intro k hx ks C
    have hc : decide ((k : Int) < (N : Int)) = false := decide_eq_false (by omega)
    refine Xd.round ?_
    exact X0a [.br false] (k := wkT [] C)
  | succ n ih =>
    intro k hx ks C
    have hc : decide ((k : Int) < (N : Int)) = true := decide_eq_true (by omega)
    refine Xd.round ?_
    refine X3b [.br true] ?_
    refine Xd.mapUpd (d := .int .i64) X4 rfl rfl rfl rfl rfl Tryz.underlying3 rfl rfl rfl trivial trivial trivial rfl X85 ?_
    rw [Xh9]
    refine X3b [] ?_
    exact wkT [] (ih (k + 1) (by omega) (X63 (k : Int) 0 ks) (by exact C))
theorem X91 {Q : Xc -> St -> Mu -> Prop} {μ : Mu} (b : Nat) (g : X4j) (l : List X3h) (hl : List.length l <= 140737488355328) : ∀ (xs : List X3h) (k : Nat) (hx : l.drop k = xs) (ks : List (Int × Int))
    (C : Xd Tryz.prog 84 0 Q (.exit (.exit 2)) [] ⟨fr [(1, AV.ptr 0 0 0), (2, .nils), (3, .sc (.map (some b)))], hp [(0, { es := [X00 false g], esz := 2 })], 1⟩ ((b, (X0y ks (xs.map (·.To))).map (kvE iV)) :: μ)),
    Xd Tryz.prog 84 0 Q (.loop (X6w 1 (X3 Tryz.f74))) [] ⟨fr [(1, AV.ptr 0 0 0), (2, .nils), (3, .sc (.map (some b))), (24, AV.list false (List.map X19 l)), (25, aI .i64 (List.length l : Int)), (26, aI .i64 (k : Int))], hp [(0, { es := [X00 false g], esz := 2 })], 1⟩ ((b, ks.map (kvE iV)) :: μ) := by
  intro xs
  induction xs with
  | nil =>
    intro k hx ks C
    have hk := X3f hx
    have hc : decide ((k : Int) < (List.length l : Int)) = false := decide_eq_false (by omega)
    refine Xd.round ?_
    exact X0a [.br false] (k := wkT [] C)
  | cons x xs ih =>
    intro k hx ks C
    obtain ⟨hk, hg, hx1⟩ := X2i hx
    have hc : decide ((k : Int) < (List.length l : Int)) = true := decide_eq_true (by omega)
    refine Xd.round ?_
    refine X3b [.br true, .el (X19 x)] ?_
    refine Xd.mapLookI (d := .int .i64) (z := .int .i64 0) X4 rfl rfl rfl rfl rfl Tryz.underlying3 (fun _ => rfl) rfl rfl rfl trivial trivial rfl X85 ?_
    rw [Xo8]
    refine X3b [.wrap] ?_
    refine Xd.mapUpd (d := .int .i64) X4 rfl rfl rfl rfl rfl Tryz.underlying3 rfl rfl rfl trivial trivial trivial rfl X85 ?_
    rw [Xh9]
    refine X3b [] ?_
    exact wkT [] (ih (k + 1) hx1 _ C)
theorem X5i {Q : Xc -> St -> Mu -> Prop} {μ : Mu} (b : Nat) (g : X4j) (nx : Int) (out : List Int) (nb : Nb out) (l : List X3h) (hl : List.length l <= 140737488355328) : ∀ (xs : List X3h) (k : Nat) (hx : l.drop k = xs) (ks : List (Int × Int))
    (C : Xd Tryz.prog 84 0 Q (.exit (.exit 8)) [] ⟨fr [(1, AV.ptr 0 0 0), (2, .nils), (3, .sc (.map (some b))), (7, slE nb.1 1 (List.map (aI .i64) out))], hp ([(0, { es := [X00 false g], esz := 2 })] ++ opE nb.1 1 1 (List.map (aI .i64) out)), 2⟩ ((b, (X77 nx ks (xs.map fun c => (c.From, c.To))).map (kvE iV)) :: μ)),
    Xd Tryz.prog 84 0 Q (.loop (X6w 4 (X3 Tryz.f74))) [] ⟨fr [(1, AV.ptr 0 0 0), (2, .nils), (3, .sc (.map (some b))), (7, slE nb.1 1 (List.map (aI .i64) out)), (8, aI .i64 nx), (67, AV.list false (List.map X19 l)), (68, aI .i64 (List.length l : Int)), (69, aI .i64 (k : Int))], hp ([(0, { es := [X00 false g], esz := 2 })] ++ opE nb.1 1 1 (List.map (aI .i64) out)), 2⟩ ((b, ks.map (kvE iV)) :: μ) := by
  intro xs
  induction xs with
  | nil =>
    intro k hx ks C
    have hk := X3f hx
    have hc : decide ((k : Int) < (List.length l : Int)) = false := decide_eq_false (by omega)
    refine Xd.round ?_
    rcases nb with ⟨_ | _, hn⟩ <;> (try obtain rfl := hn rfl)
    all_goals exact X0a [.br false] (k := wkT [] C)
  | cons x xs ih =>
    intro k hx ks C
    obtain ⟨hk, hg, hx1⟩ := X2i hx
    have hc : decide ((k : Int) < (List.length l : Int)) = true := decide_eq_true (by omega)
    refine Xd.round ?_
    cases hs : decide (x.From = nx) with
    | true =>
      have C' : Xd Tryz.prog 84 0 Q (.exit (.exit 8)) [] ⟨fr [(1, AV.ptr 0 0 0), (2, .nils), (3, .sc (.map (some b))), (7, slE nb.1 1 (List.map (aI .i64) out))], hp ([(0, { es := [X00 false g], esz := 2 })] ++ opE nb.1 1 1 (List.map (aI .i64) out)), 2⟩ ((b, (X77 nx (X63 x.To (IntKind.i64.wrap (X2b x.To ks - 1)) ks) (xs.map fun c => (c.From, c.To))).map (kvE iV)) :: μ) := by
        simp only [List.map_cons, X77, hs, cond_true] at C; exact C
      rcases nb with ⟨_ | _, hn⟩ <;> (try obtain rfl := hn rfl)
      all_goals
        refine X3b [.br true, .el (X19 x), .br true] ?_
        refine Xd.mapLookI (d := .int .i64) (z := .int .i64 0) X4 rfl rfl rfl rfl rfl Tryz.underlying3 (fun _ => rfl) rfl rfl rfl trivial trivial rfl X85 ?_
        rw [Xo8]
        refine X3b [.wrap] ?_
        refine Xd.mapUpd (d := .int .i64) X4 rfl rfl rfl rfl rfl Tryz.underlying3 rfl rfl rfl trivial trivial trivial rfl X85 ?_
        rw [Xh9]
        refine X3b [] ?_
        exact wkT [] (ih (k + 1) hx1 _ C')
    | false =>
      have C' : Xd Tryz.prog 84 0 Q (.exit (.exit 8)) [] ⟨fr [(1, AV.ptr 0 0 0), (2, .nils), (3, .sc (.map (some b))), (7, slE nb.1 1 (List.map (aI .i64) out))], hp ([(0, { es := [X00 false g], esz := 2 })] ++ opE nb.1 1 1 (List.map (aI .i64) out)), 2⟩ ((b, (X77 nx ks (xs.map fun c => (c.From, c.To))).map (kvE iV)) :: μ) := by
        simp only [List.map_cons, X77, hs, cond_false] at C; exact C
      rcases nb with ⟨_ | _, hn⟩ <;> (try obtain rfl := hn rfl)
      all_goals
        refine X3b [.br true, .el (X19 x), .br false] ?_
        exact wkT [] (ih (k + 1) hx1 _ C')
theorem X2a {Q : Xc -> St -> Mu -> Prop} {μ : Mu} (b r : Nat) (g : X4j) (out : List Int) (nb : Nb out) (ents : Array MapEntry) (clock : Nat) (ks : List (Int × Int)) (hl : ents.toList.map (fun e => (e.key, e.val)) = ks.map (kvE iV)) (hpw : ents.toList.Pairwise (fun x y => x.born < y.born)) (hcl : ∀ e ∈ ents.toList, e.born < clock) (hge : ∀ p ∈ ks, 0 <= p.1)
    (C : ∀ seen c1, Xd Tryz.prog 84 0 Q (.exit (.exit 6)) [] ⟨fr [(1, AV.ptr 0 0 0), (2, .nils), (3, .sc (.map (some b))), (7, slE nb.1 1 (List.map (aI .i64) out)), (8, aI .i64 (X2z ks))], hp ([(0, { es := [X00 false g], esz := 2 })] ++ opE nb.1 1 1 (List.map (aI .i64) out)), 2⟩ ((r, .blk (.mapIter (some b) clock seen c1)) :: (b, .blk (.map ents clock)) :: μ)) :
    ∀ (m : Nat) (seen : Array Nat) (c1 : Nat) (hc1 : clock <= c1) (nx : Int) (hm : (leftOf ents seen).size = m) (hL : X3p nx (Xd1 ents seen)),
    Xd Tryz.prog 84 0 Q (.loop (X6w 3 (X3 Tryz.f74))) [] ⟨fr [(1, AV.ptr 0 0 0), (2, .nils), (3, .sc (.map (some b))), (7, slE nb.1 1 (List.map (aI .i64) out)), (8, aI .i64 nx), (40, .sc (.pointer (some ⟨r, 0, none⟩)))], hp ([(0, { es := [X00 false g], esz := 2 })] ++ opE nb.1 1 1 (List.map (aI .i64) out)), 2⟩ ((r, .blk (.mapIter (some b) clock seen c1)) :: (b, .blk (.map ents clock)) :: μ) := by
  intro m
  induction m using Nat.strongRecOn with
  | ind m ih =>
    intro seen c1 hc1 nx hm hL
    refine Xd.round ?_
    refine X3b [] ?_
    refine Xd.mapNext rfl rfl rfl rfl trivial hcl hc1 (fun h0 => ?_) (fun e he => ?_)
    · have hn := Xds hl h0 hge hL
      subst hn
      rcases nb with ⟨_ | _, hn⟩ <;> (try obtain rfl := hn rfl)
      all_goals exact X0a [.br false] (k := wkT [] (C _ _))
    · obtain ⟨⟨i, n⟩, hp, hk, hv⟩ := Xqx hl (X7n.1 he).1
      have hS := Xd1.step hpw he (i := i) (n := n) (by rw [hk, hv]; rfl)
      have hst := hL.step i n (hge _ hp) hS
      have hlt := Xqc he
      rcases nb with ⟨_ | _, hn⟩ <;> (try obtain rfl := hn rfl)
      all_goals
        refine X3b [.br true] ?_
        refine Xd.mapEntryI rfl rfl rfl rfl trivial (X7n.1 he).1 hpw ?_
        rw [hk, hv]
        cases hb : (decide (n = 0) && (decide (nx < 0) || decide (i < nx))) with
        | true =>
          rw [hb, cond_true] at hst
          exact X0a [.br true] (k := wkT [] (ih _ (hm ▸ hlt) _ _ (Nat.le_refl _) _ rfl hst))
        | false =>
          rw [hb, cond_false] at hst
          exact X0a [.br false] (k := wkT [] (ih _ (hm ▸ hlt) _ _ (Nat.le_refl _) _ rfl hst))
theorem X90 {Q : Xc -> St -> Mu -> Prop} {μ : Mu} (b : Nat) (g : X4j) (hl : List.length g.Channels <= 140737488355328) (hto : ∀ c ∈ (g.Channels.map fun c => (c.From, c.To)), 0 <= c.2) : ∀ (f : Nat) (ks : List (Int × Int)) (out : List Int) (nb : Nb out) (hf : out.length + f <= 1000) (hge : ∀ p ∈ ks, 0 <= p.1) (r : List Int) (h : Xm0 (g.Channels.map fun c => (c.From, c.To)) f ks out = some r)
    (C : ∀ (nb' : Nb r) es, Xd Tryz.prog 84 0 Q (.exit (.exit 4)) [] ⟨fr [(7, slE nb'.1 0 (List.map (aI .i64) r))], hp ([] ++ opE nb'.1 0 1 (List.map (aI .i64) r)), 1⟩ ((b, .map es) :: μ)),
    Xd Tryz.prog 84 0 Q (.loop (X6w 2 (X3 Tryz.f74))) [] ⟨fr [(1, AV.ptr 0 0 0), (2, .nils), (3, .sc (.map (some b))), (7, slE nb.1 1 (List.map (aI .i64) out))], hp ([(0, { es := [X00 false g], esz := 2 })] ++ opE nb.1 1 1 (List.map (aI .i64) out)), 2⟩ ((b, ks.map (kvE iV)) :: μ) := by
  intro f
  induction f with
  | zero => intro ks out nb hf hge r h; cases h
  | succ f ih =>
    intro ks out nb hf hge r h C
    refine Xd.round ?_
    revert h
    rw [Xm0]
    refine brI (fun h1 => ?_) fun h1 => ?_
    · refine brI (fun h2 => ?_) fun h2 => ?_
      · intro h
        obtain rfl := oj h
        rcases nb with ⟨_ | _, hn⟩ <;> (try obtain rfl := hn rfl)
        all_goals
          refine X3b [] ?_
          refine Xd.mapLen X4 rfl rfl rfl rfl rfl rfl trivial ?_
          rw [List.length_map]
          refine X3b [.br true] ?_
          refine Xd.mapRange X4 rfl rfl rfl rfl rfl rfl trivial fun q ents clock hl1 hpw hcl => ?_
          refine X3b [] ?_
        · refine wkT [] (Xd.cut (X2a b q g _ nbF ents clock ks hl1 hpw hcl hge (fun seen c1 => ?_) _ #[] clock (Nat.le_refl _) (-1) rfl X6b))
          refine Xd.glue ?_
          refine Xd.mapShutC hl1 hpw hcl ?_
          exact X0a [.br true] (k := wkT [(0, 1)] (C nbF _))
        · refine wkT [] (Xd.cut (X2a b q g _ nbS ents clock ks hl1 hpw hcl hge (fun seen c1 => ?_) _ #[] clock (Nat.le_refl _) (-1) rfl X6b))
          refine Xd.glue ?_
          refine Xd.mapShutC hl1 hpw hcl ?_
          exact X0a [.br true] (k := wkT [] (C nbS _))
      · intro h
        have hq : X4k (List.length (out ++ [X2z ks])) 8 = some () := if_pos (by simp; omega)
        rcases nb with ⟨_ | _, hn⟩ <;> (try obtain rfl := hn rfl)
        all_goals
          refine X3b [] ?_
          refine Xd.mapLen X4 rfl rfl rfl rfl rfl rfl trivial ?_
          rw [List.length_map]
          refine X3b [.br true] ?_
          refine Xd.mapRange X4 rfl rfl rfl rfl rfl rfl trivial fun q ents clock hl1 hpw hcl => ?_
          refine X3b [] ?_
        · refine wkT [] (Xd.cut (X2a b q g _ nbF ents clock ks hl1 hpw hcl hge (fun seen c1 => ?_) _ #[] clock (Nat.le_refl _) (-1) rfl X6b))
          refine Xd.glue ?_
          refine Xd.mapShutC hl1 hpw hcl ?_
          refine X3b [.br false, .no] ?_ (o := by repeat' first | refine And.intro ?_ ?_ | (refine X01 hq rfl ?_; first | (simp; done) | (simp <;> omega)) | (refine Xm hq (by decide) ?_; first | (simp; done) | (simp <;> omega)) | exact X0p)
          refine Xd.mapDel (d := .int .i64) X4 rfl rfl rfl rfl rfl Tryz.underlying3 rfl rfl rfl trivial trivial rfl X85 ?_
          rw [Xo9]
          refine X3b [] ?_
          refine wkT [(1, 3)] (Xd.cut (X5i b g (X2z ks) (out ++ [X2z ks]) nbF g.Channels hl g.Channels 0 rfl _ ?_))
          refine Xd.glue ?_
          exact X0a [] (k := wkT [] (ih _ _ nbF (by simp; omega) (X86 _ _ hto (Xik hge)) _ h C))
        · refine wkT [] (Xd.cut (X2a b q g _ nbS ents clock ks hl1 hpw hcl hge (fun seen c1 => ?_) _ #[] clock (Nat.le_refl _) (-1) rfl X6b))
          refine Xd.glue ?_
          refine Xd.mapShutC hl1 hpw hcl ?_
          refine X3b [.br false, .no] ?_ (o := by repeat' first | refine And.intro ?_ ?_ | (refine X01 hq rfl ?_; first | (simp; done) | (simp <;> omega)) | (refine Xm hq (by decide) ?_; first | (simp; done) | (simp <;> omega)) | exact X0p)
          refine Xd.mapDel (d := .int .i64) X4 rfl rfl rfl rfl rfl Tryz.underlying3 rfl rfl rfl trivial trivial rfl X85 ?_
          rw [Xo9]
          refine X3b [] ?_
          refine wkT [(1, 3)] (Xd.cut (X5i b g (X2z ks) [X2z ks] nbF g.Channels hl g.Channels 0 rfl _ ?_))
          refine Xd.glue ?_
          exact X0a [] (k := wkT [] (ih _ _ nbF (by simp; omega) (X86 _ _ hto (Xik hge)) _ h C))
    · intro h
      obtain rfl := oj h
      rcases nb with ⟨_ | _, hn⟩ <;> (try obtain rfl := hn rfl)
      all_goals
        refine X3b [] ?_
        refine Xd.mapLen X4 rfl rfl rfl rfl rfl rfl trivial ?_
        rw [List.length_map]
      · exact X0a [.br false] (k := wkT [(0, 1)] (C nbF _))
      · exact X0a [.br false] (k := wkT [] (C nbS _))
instance X8z : PCs Tryz.prog 74 (∀ (a0 : X4j) (r : List Int), X8d a0 = some r -> Xu Tryz.prog 74 [(X00 false a0)] (AV.list true (List.map (aI .i64) r))) := ⟨fun a0 r h => by
  refine Xu.sym X4 fn74 (nt := 84) rfl rfl ?_ okM
  unfold X8d at h
  revert h
  refine bI fun u1 h1 => bI fun u2 h2 => bI fun u3 h3 => ?_
  intro h
  have q1 := X3d h1
  have q2 := X3d h2
  have hto : ∀ c ∈ (a0.Channels.map fun c => (c.From, c.To)), 0 <= c.2 := by
    intro c hc
    obtain ⟨x, hx, rfl⟩ := List.mem_map.1 hc
    unfold Xtt at h3
    cases hb : a0.Channels.all (fun c => decide (0 <= c.To)) with
    | false => rw [hb] at h3; cases h3
    | true => exact of_decide_eq_true (List.all_eq_true.1 hb x hx)
  refine X3b [] ?_
  refine Xd.mapNew rfl rfl rfl fun b => ?_
  refine X3b [] ?_
  refine wkT [] (Xd.cut (X92 b a0 (List.length a0.Ops) q1 (List.length a0.Ops) 0 (by simp) [] ?_))
  refine Xd.glue ?_
  refine X3b [] ?_
  refine wkT [] (Xd.cut (X91 b a0 a0.Channels q2 a0.Channels 0 rfl _ ?_))
  refine Xd.glue ?_
  refine X3b [] ?_
  unfold Xyg at h
  rw [List.map_map] at h
  refine wkT [] (Xd.cut (X90 b a0 q2 hto 1000 _ [] nbS (by simp) (Xbf _ (by intro c hc; obtain ⟨x, hx, rfl⟩ := List.mem_map.1 hc; exact hto (x.From, x.To) (List.mem_map.2 ⟨x, hx, rfl⟩)) (Xcg _ (Int.le_refl _) (by intro p hp; cases hp))) r h (fun nb' es => ?_)))
  refine Xd.glue ?_
  rcases nb' with ⟨_ | _, hn⟩ <;> (try obtain rfl := hn rfl)
  all_goals exact X0a [] (k := fi)⟩
end Go.Av.Tryz
