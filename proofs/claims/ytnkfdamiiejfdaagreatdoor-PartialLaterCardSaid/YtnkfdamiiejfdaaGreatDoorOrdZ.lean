/- What graph.order answers. -/
import Derived.Test.YtnkfdamiiejfdaaGreatDoorAvd
import Derived.Test.YtnkfdamiiejfdaaGreatDoorDTypesO
import Derived.Test.YtnkfdamiiejfdaaGreatDoorTabX
set_option linter.all false

namespace Go.D
noncomputable section
def X0c6 (l : List Xa9) : Option Unit := bif l.all (fun c => decide (0 <= c.To)) then some () else none
def Xk2 (g : Xc7) : Option (List Int) := (X3b (List.length g.Ops)).bind fun _ => (X3b (List.length g.Channels)).bind fun _ => (X0c6 g.Channels).bind fun _ => ordL (List.length g.Ops) (g.Channels.map fun c => (c.From, c.To))
end
end Go.D
namespace Go.Av.Tryz
open Go.Proofs Go.D
set_option maxRecDepth 10000
set_option maxHeartbeats 4000000
theorem tmIO : X6c Tryz.prog Xkr.find /\ Tryz.prog.follows .mixedOrders = true := ⟨X2, by kernel_rfl⟩
instance X0ku : TmD Tryz.prog Xkr.find := ⟨tmIO⟩
theorem X0hj : Xc9 Tryz.prog 131 Tryz.f131 (X10 Tryz.f131) := ⟨Tryz.func131, by kernel_rfl, rfl⟩
theorem Xjg {ks : List (Int × Int)} : ∀ p ∈ ks.map (kvE iV), MapKept.IsKey (.int .i64) p.1 := by intro p hp; obtain ⟨z, _, rfl⟩ := List.mem_map.1 hp; rfl
theorem Xlb {Q : Xl -> St -> Mu -> Prop} {μ : Mu} (b : Nat) (g : Xc7) (N : Nat) (hl : N <= 140737488355328) : ∀ (n k : Nat) (hx : k + n = N) (ks : List (Int × Int))
    (C : X5 Tryz.prog 84 0 Q (.exit (.exit 0)) [] ⟨fr [(1, AV.ptr 0 0 0), (2, .nils), (3, .sc (.map (some b)))], hp [(0, { es := [X1d false g], esz := 2 })], 1⟩ ((b, (X03d ks (k : Int) n).map (kvE iV)) :: μ)),
    X5 Tryz.prog 84 0 Q (.loop (X5b 0 (X10 Tryz.f131))) [] ⟨fr [(1, AV.ptr 0 0 0), (2, .nils), (3, .sc (.map (some b))), (16, aI .i64 (N : Int)), (17, aI .i64 (k : Int))], hp [(0, { es := [X1d false g], esz := 2 })], 1⟩ ((b, ks.map (kvE iV)) :: μ) := by
  intro n
  induction n with
  | zero =>
    intro k hx ks C
    have hc : decide ((k : Int) < (N : Int)) = false := decide_eq_false (by omega)
    refine X5.round ?_
    exact X8 [.br false] (k := wkT [] C)
  | succ n ih =>
    intro k hx ks C
    have hc : decide ((k : Int) < (N : Int)) = true := decide_eq_true (by omega)
    refine X5.round ?_
    refine X0f [.br true] ?_
    refine X5.mapUpd (d := .int .i64) X2 rfl rfl rfl rfl rfl Tryz.underlying3 rfl rfl rfl trivial trivial trivial rfl Xjg ?_
    rw [Xyj]
    refine X0f [] ?_
    exact wkT [] (ih (k + 1) (by omega) (Xql (k : Int) 0 ks) (by exact C))
theorem Xla {Q : Xl -> St -> Mu -> Prop} {μ : Mu} (b : Nat) (g : Xc7) (l : List Xa9) (hl : List.length l <= 140737488355328) : ∀ (xs : List Xa9) (k : Nat) (hx : l.drop k = xs) (ks : List (Int × Int))
    (C : X5 Tryz.prog 84 0 Q (.exit (.exit 2)) [] ⟨fr [(1, AV.ptr 0 0 0), (2, .nils), (3, .sc (.map (some b)))], hp [(0, { es := [X1d false g], esz := 2 })], 1⟩ ((b, (Xua ks (xs.map (·.To))).map (kvE iV)) :: μ)),
    X5 Tryz.prog 84 0 Q (.loop (X5b 1 (X10 Tryz.f131))) [] ⟨fr [(1, AV.ptr 0 0 0), (2, .nils), (3, .sc (.map (some b))), (24, AV.list false (List.map X53 l)), (25, aI .i64 (List.length l : Int)), (26, aI .i64 (k : Int))], hp [(0, { es := [X1d false g], esz := 2 })], 1⟩ ((b, ks.map (kvE iV)) :: μ) := by
  intro xs
  induction xs with
  | nil =>
    intro k hx ks C
    have hk := X2n hx
    have hc : decide ((k : Int) < (List.length l : Int)) = false := decide_eq_false (by omega)
    refine X5.round ?_
    exact X8 [.br false] (k := wkT [] C)
  | cons x xs ih =>
    intro k hx ks C
    obtain ⟨hk, hg, hx1⟩ := X1w hx
    have hc : decide ((k : Int) < (List.length l : Int)) = true := decide_eq_true (by omega)
    refine X5.round ?_
    refine X0f [.br true, .el (X53 x)] ?_
    refine X5.mapLookI (d := .int .i64) (z := .int .i64 0) X2 rfl rfl rfl rfl rfl Tryz.underlying3 (fun _ => rfl) rfl rfl rfl trivial trivial rfl Xjg ?_
    rw [X05q]
    refine X0f [.wrap] ?_
    refine X5.mapUpd (d := .int .i64) X2 rfl rfl rfl rfl rfl Tryz.underlying3 rfl rfl rfl trivial trivial trivial rfl Xjg ?_
    rw [Xyj]
    refine X0f [] ?_
    exact wkT [] (ih (k + 1) hx1 _ C)
theorem Xeb {Q : Xl -> St -> Mu -> Prop} {μ : Mu} (b : Nat) (g : Xc7) (nx : Int) (out : List Int) (nb : Nb out) (l : List Xa9) (hl : List.length l <= 140737488355328) : ∀ (xs : List Xa9) (k : Nat) (hx : l.drop k = xs) (ks : List (Int × Int))
    (C : X5 Tryz.prog 84 0 Q (.exit (.exit 8)) [] ⟨fr [(1, AV.ptr 0 0 0), (2, .nils), (3, .sc (.map (some b))), (7, slE nb.1 1 (List.map (aI .i64) out))], hp ([(0, { es := [X1d false g], esz := 2 })] ++ opE nb.1 1 1 (List.map (aI .i64) out)), 2⟩ ((b, (Xhd nx ks (xs.map fun c => (c.From, c.To))).map (kvE iV)) :: μ)),
    X5 Tryz.prog 84 0 Q (.loop (X5b 4 (X10 Tryz.f131))) [] ⟨fr [(1, AV.ptr 0 0 0), (2, .nils), (3, .sc (.map (some b))), (7, slE nb.1 1 (List.map (aI .i64) out)), (8, aI .i64 nx), (67, AV.list false (List.map X53 l)), (68, aI .i64 (List.length l : Int)), (69, aI .i64 (k : Int))], hp ([(0, { es := [X1d false g], esz := 2 })] ++ opE nb.1 1 1 (List.map (aI .i64) out)), 2⟩ ((b, ks.map (kvE iV)) :: μ) := by
  intro xs
  induction xs with
  | nil =>
    intro k hx ks C
    have hk := X2n hx
    have hc : decide ((k : Int) < (List.length l : Int)) = false := decide_eq_false (by omega)
    refine X5.round ?_
    rcases nb with ⟨_ | _, hn⟩ <;> (try obtain rfl := hn rfl)
    all_goals exact X8 [.br false] (k := wkT [] C)
  | cons x xs ih =>
    intro k hx ks C
    obtain ⟨hk, hg, hx1⟩ := X1w hx
    have hc : decide ((k : Int) < (List.length l : Int)) = true := decide_eq_true (by omega)
    refine X5.round ?_
    cases hs : decide (x.From = nx) with
    | true =>
      have C' : X5 Tryz.prog 84 0 Q (.exit (.exit 8)) [] ⟨fr [(1, AV.ptr 0 0 0), (2, .nils), (3, .sc (.map (some b))), (7, slE nb.1 1 (List.map (aI .i64) out))], hp ([(0, { es := [X1d false g], esz := 2 })] ++ opE nb.1 1 1 (List.map (aI .i64) out)), 2⟩ ((b, (Xhd nx (Xql x.To (IntKind.i64.wrap (getA x.To ks - 1)) ks) (xs.map fun c => (c.From, c.To))).map (kvE iV)) :: μ) := by
        simp only [List.map_cons, Xhd, hs, cond_true] at C; exact C
      rcases nb with ⟨_ | _, hn⟩ <;> (try obtain rfl := hn rfl)
      all_goals
        refine X0f [.br true, .el (X53 x), .br true] ?_
        refine X5.mapLookI (d := .int .i64) (z := .int .i64 0) X2 rfl rfl rfl rfl rfl Tryz.underlying3 (fun _ => rfl) rfl rfl rfl trivial trivial rfl Xjg ?_
        rw [X05q]
        refine X0f [.wrap] ?_
        refine X5.mapUpd (d := .int .i64) X2 rfl rfl rfl rfl rfl Tryz.underlying3 rfl rfl rfl trivial trivial trivial rfl Xjg ?_
        rw [Xyj]
        refine X0f [] ?_
        exact wkT [] (ih (k + 1) hx1 _ C')
    | false =>
      have C' : X5 Tryz.prog 84 0 Q (.exit (.exit 8)) [] ⟨fr [(1, AV.ptr 0 0 0), (2, .nils), (3, .sc (.map (some b))), (7, slE nb.1 1 (List.map (aI .i64) out))], hp ([(0, { es := [X1d false g], esz := 2 })] ++ opE nb.1 1 1 (List.map (aI .i64) out)), 2⟩ ((b, (Xhd nx ks (xs.map fun c => (c.From, c.To))).map (kvE iV)) :: μ) := by
        simp only [List.map_cons, Xhd, hs, cond_false] at C; exact C
      rcases nb with ⟨_ | _, hn⟩ <;> (try obtain rfl := hn rfl)
      all_goals
        refine X0f [.br true, .el (X53 x), .br false] ?_
        exact wkT [] (ih (k + 1) hx1 _ C')
theorem X7o {Q : Xl -> St -> Mu -> Prop} {μ : Mu} (b r : Nat) (g : Xc7) (out : List Int) (nb : Nb out) (ents : Array MapEntry) (clock : Nat) (ks : List (Int × Int)) (hl : ents.toList.map (fun e => (e.key, e.val)) = ks.map (kvE iV)) (hpw : ents.toList.Pairwise (fun x y => x.born < y.born)) (hcl : ∀ e ∈ ents.toList, e.born < clock) (hge : ∀ p ∈ ks, 0 <= p.1)
    (C : ∀ seen c1, X5 Tryz.prog 84 0 Q (.exit (.exit 6)) [] ⟨fr [(1, AV.ptr 0 0 0), (2, .nils), (3, .sc (.map (some b))), (7, slE nb.1 1 (List.map (aI .i64) out)), (8, aI .i64 (X9g ks))], hp ([(0, { es := [X1d false g], esz := 2 })] ++ opE nb.1 1 1 (List.map (aI .i64) out)), 2⟩ ((r, .blk (.mapIter (some b) clock seen c1)) :: (b, .blk (.map ents clock)) :: μ)) :
    ∀ (m : Nat) (seen : Array Nat) (c1 : Nat) (hc1 : clock <= c1) (nx : Int) (hm : (leftOf ents seen).size = m) (hL : Xak nx (Xuc ents seen)),
    X5 Tryz.prog 84 0 Q (.loop (X5b 3 (X10 Tryz.f131))) [] ⟨fr [(1, AV.ptr 0 0 0), (2, .nils), (3, .sc (.map (some b))), (7, slE nb.1 1 (List.map (aI .i64) out)), (8, aI .i64 nx), (40, .sc (.pointer (some ⟨r, 0, none⟩)))], hp ([(0, { es := [X1d false g], esz := 2 })] ++ opE nb.1 1 1 (List.map (aI .i64) out)), 2⟩ ((r, .blk (.mapIter (some b) clock seen c1)) :: (b, .blk (.map ents clock)) :: μ) := by
  intro m
  induction m using Nat.strongRecOn with
  | ind m ih =>
    intro seen c1 hc1 nx hm hL
    refine X5.round ?_
    refine X0f [] ?_
    refine X5.mapNext rfl rfl rfl rfl trivial hcl hc1 (fun h0 => ?_) (fun e he => ?_)
    · have hn := Xvk hl h0 hge hL
      subst hn
      rcases nb with ⟨_ | _, hn⟩ <;> (try obtain rfl := hn rfl)
      all_goals exact X8 [.br false] (k := wkT [] (C _ _))
    · obtain ⟨⟨i, n⟩, hp, hk, hv⟩ := X09i hl (Xid.1 he).1
      have hS := Xuc.step hpw he (i := i) (n := n) (by rw [hk, hv]; rfl)
      have hst := hL.step i n (hge _ hp) hS
      have hlt := X08d he
      rcases nb with ⟨_ | _, hn⟩ <;> (try obtain rfl := hn rfl)
      all_goals
        refine X0f [.br true] ?_
        refine X5.mapEntryI rfl rfl rfl rfl trivial (Xid.1 he).1 hpw ?_
        rw [hk, hv]
        cases hb : (decide (n = 0) && (decide (nx < 0) || decide (i < nx))) with
        | true =>
          rw [hb, cond_true] at hst
          exact X8 [.br true] (k := wkT [] (ih _ (hm ▸ hlt) _ _ (Nat.le_refl _) _ rfl hst))
        | false =>
          rw [hb, cond_false] at hst
          exact X8 [.br false] (k := wkT [] (ih _ (hm ▸ hlt) _ _ (Nat.le_refl _) _ rfl hst))
theorem Xl9 {Q : Xl -> St -> Mu -> Prop} {μ : Mu} (b : Nat) (g : Xc7) (hl : List.length g.Channels <= 140737488355328) (hto : ∀ c ∈ (g.Channels.map fun c => (c.From, c.To)), 0 <= c.2) : ∀ (f : Nat) (ks : List (Int × Int)) (out : List Int) (nb : Nb out) (hf : out.length + f <= 1000) (hge : ∀ p ∈ ks, 0 <= p.1) (r : List Int) (h : X03e (g.Channels.map fun c => (c.From, c.To)) f ks out = some r)
    (C : ∀ (nb' : Nb r) es, X5 Tryz.prog 84 0 Q (.exit (.exit 4)) [] ⟨fr [(7, slE nb'.1 0 (List.map (aI .i64) r))], hp ([] ++ opE nb'.1 0 1 (List.map (aI .i64) r)), 1⟩ ((b, .map es) :: μ)),
    X5 Tryz.prog 84 0 Q (.loop (X5b 2 (X10 Tryz.f131))) [] ⟨fr [(1, AV.ptr 0 0 0), (2, .nils), (3, .sc (.map (some b))), (7, slE nb.1 1 (List.map (aI .i64) out))], hp ([(0, { es := [X1d false g], esz := 2 })] ++ opE nb.1 1 1 (List.map (aI .i64) out)), 2⟩ ((b, ks.map (kvE iV)) :: μ) := by
  intro f
  induction f with
  | zero => intro ks out nb hf hge r h; cases h
  | succ f ih =>
    intro ks out nb hf hge r h C
    refine X5.round ?_
    revert h
    rw [X03e]
    refine brI (fun h1 => ?_) fun h1 => ?_
    · refine brI (fun h2 => ?_) fun h2 => ?_
      · intro h
        obtain rfl := oj h
        rcases nb with ⟨_ | _, hn⟩ <;> (try obtain rfl := hn rfl)
        all_goals
          refine X0f [] ?_
          refine X5.mapLen X2 rfl rfl rfl rfl rfl rfl trivial ?_
          rw [List.length_map]
          refine X0f [.br true] ?_
          refine X5.mapRange X2 rfl rfl rfl rfl rfl rfl trivial fun q ents clock hl1 hpw hcl => ?_
          refine X0f [] ?_
        · refine wkT [] (X5.cut (X7o b q g _ nbF ents clock ks hl1 hpw hcl hge (fun seen c1 => ?_) _ #[] clock (Nat.le_refl _) (-1) rfl Xfm))
          refine X5.glue ?_
          refine X5.mapShutC hl1 hpw hcl ?_
          exact X8 [.br true] (k := wkT [(0, 1)] (C nbF _))
        · refine wkT [] (X5.cut (X7o b q g _ nbS ents clock ks hl1 hpw hcl hge (fun seen c1 => ?_) _ #[] clock (Nat.le_refl _) (-1) rfl Xfm))
          refine X5.glue ?_
          refine X5.mapShutC hl1 hpw hcl ?_
          exact X8 [.br true] (k := wkT [] (C nbS _))
      · intro h
        have hq : X0x (List.length (out ++ [X9g ks])) 8 = some () := if_pos (by simp; omega)
        rcases nb with ⟨_ | _, hn⟩ <;> (try obtain rfl := hn rfl)
        all_goals
          refine X0f [] ?_
          refine X5.mapLen X2 rfl rfl rfl rfl rfl rfl trivial ?_
          rw [List.length_map]
          refine X0f [.br true] ?_
          refine X5.mapRange X2 rfl rfl rfl rfl rfl rfl trivial fun q ents clock hl1 hpw hcl => ?_
          refine X0f [] ?_
        · refine wkT [] (X5.cut (X7o b q g _ nbF ents clock ks hl1 hpw hcl hge (fun seen c1 => ?_) _ #[] clock (Nat.le_refl _) (-1) rfl Xfm))
          refine X5.glue ?_
          refine X5.mapShutC hl1 hpw hcl ?_
          refine X0f [.br false, .no] ?_ (o := by repeat' first | refine And.intro ?_ ?_ | (refine X0g hq rfl ?_; first | (simp; done) | (simp <;> omega)) | (refine Xv hq (by decide) ?_; first | (simp; done) | (simp <;> omega)) | exact X1i)
          refine X5.mapDel (d := .int .i64) X2 rfl rfl rfl rfl rfl Tryz.underlying3 rfl rfl rfl trivial trivial rfl Xjg ?_
          rw [X05r]
          refine X0f [] ?_
          refine wkT [(1, 3)] (X5.cut (Xeb b g (X9g ks) (out ++ [X9g ks]) nbF g.Channels hl g.Channels 0 rfl _ ?_))
          refine X5.glue ?_
          exact X8 [] (k := wkT [] (ih _ _ nbF (by simp; omega) (Xjh _ _ hto (X00t hge)) _ h C))
        · refine wkT [] (X5.cut (X7o b q g _ nbS ents clock ks hl1 hpw hcl hge (fun seen c1 => ?_) _ #[] clock (Nat.le_refl _) (-1) rfl Xfm))
          refine X5.glue ?_
          refine X5.mapShutC hl1 hpw hcl ?_
          refine X0f [.br false, .no] ?_ (o := by repeat' first | refine And.intro ?_ ?_ | (refine X0g hq rfl ?_; first | (simp; done) | (simp <;> omega)) | (refine Xv hq (by decide) ?_; first | (simp; done) | (simp <;> omega)) | exact X1i)
          refine X5.mapDel (d := .int .i64) X2 rfl rfl rfl rfl rfl Tryz.underlying3 rfl rfl rfl trivial trivial rfl Xjg ?_
          rw [X05r]
          refine X0f [] ?_
          refine wkT [(1, 3)] (X5.cut (Xeb b g (X9g ks) [X9g ks] nbF g.Channels hl g.Channels 0 rfl _ ?_))
          refine X5.glue ?_
          exact X8 [] (k := wkT [] (ih _ _ nbF (by simp; omega) (Xjh _ _ hto (X00t hge)) _ h C))
    · intro h
      obtain rfl := oj h
      rcases nb with ⟨_ | _, hn⟩ <;> (try obtain rfl := hn rfl)
      all_goals
        refine X0f [] ?_
        refine X5.mapLen X2 rfl rfl rfl rfl rfl rfl trivial ?_
        rw [List.length_map]
      · exact X8 [.br false] (k := wkT [(0, 1)] (C nbF _))
      · exact X8 [.br false] (k := wkT [] (C nbS _))
instance Xl8 : PCs Tryz.prog 131 (∀ (a0 : Xc7) (r : List Int), Xk2 a0 = some r -> X15 Tryz.prog 131 [(X1d false a0)] (AV.list true (List.map (aI .i64) r))) := ⟨fun a0 r h => by
  refine X15.sym X2 X0hj (nt := 84) rfl rfl ?_ okM
  unfold Xk2 at h
  revert h
  refine bI fun u1 h1 => bI fun u2 h2 => bI fun u3 h3 => ?_
  intro h
  have q1 := X05 h1
  have q2 := X05 h2
  have hto : ∀ c ∈ (a0.Channels.map fun c => (c.From, c.To)), 0 <= c.2 := by
    intro c hc
    obtain ⟨x, hx, rfl⟩ := List.mem_map.1 hc
    unfold X0c6 at h3
    cases hb : a0.Channels.all (fun c => decide (0 <= c.To)) with
    | false => rw [hb] at h3; cases h3
    | true => exact of_decide_eq_true (List.all_eq_true.1 hb x hx)
  refine X0f [] ?_
  refine X5.mapNew rfl rfl rfl fun b => ?_
  refine X0f [] ?_
  refine wkT [] (X5.cut (Xlb b a0 (List.length a0.Ops) q1 (List.length a0.Ops) 0 (by simp) [] ?_))
  refine X5.glue ?_
  refine X0f [] ?_
  refine wkT [] (X5.cut (Xla b a0 a0.Channels q2 a0.Channels 0 rfl _ ?_))
  refine X5.glue ?_
  refine X0f [] ?_
  unfold ordL at h
  rw [List.map_map] at h
  refine wkT [] (X5.cut (Xl9 b a0 q2 hto 1000 _ [] nbS (by simp) (Xpx _ (by intro c hc; obtain ⟨x, hx, rfl⟩ := List.mem_map.1 hc; exact hto (x.From, x.To) (List.mem_map.2 ⟨x, hx, rfl⟩)) (Xte _ (Int.le_refl _) (by intro p hp; cases hp))) r h (fun nb' es => ?_)))
  refine X5.glue ?_
  rcases nb' with ⟨_ | _, hn⟩ <;> (try obtain rfl := hn rfl)
  all_goals exact X8 [] (k := fi)⟩
end Go.Av.Tryz
