/- Parts of the proof, laid together. -/
import Derived.Test.YtoggmnlkaphgcaaGreatDoorAvf
import Derived.Test.YtoggmnlkaphgcaaGreatDoorDTypesO
import Derived.Test.YtoggmnlkaphgcaaGreatDoorTabX
import Derived.Test.YtoggmnlkaphgcaaGreatDoorGlX
set_option linter.all false
namespace Go.D
noncomputable section
def ordGe (l : List GChannel) : Option Unit := bif l.all (fun c => decide (0 ≤ c.To)) then some () else none
def graph_order (g : GGraph) : Option (List Int) := (lenOk (List.length g.Ops)).bind fun _ => (lenOk (List.length g.Channels)).bind fun _ => (ordGe g.Channels).bind fun _ => ordL (List.length g.Ops) (g.Channels.map fun c => (c.From, c.To))
end
end Go.D
namespace Go.Av.Tryz
open Go.Proofs Go.D
set_option maxRecDepth 10000
set_option maxHeartbeats 4000000
theorem tmIO : TyOk Tryz.prog tyTab.find ∧ Tryz.prog.follows .mixedOrders = true := ⟨tyTab_ok, by kernel_rfl⟩
instance tmIOi : TmD Tryz.prog tyTab.find := ⟨tmIO⟩
theorem fn115 : FnOk Tryz.prog 115 Tryz.f115 (bodyOf Tryz.f115) := ⟨Tryz.func115, by kernel_rfl, rfl⟩
theorem ord_ks {ks : List (Int × Int)} : ∀ p ∈ ks.map (kvE iV), MapKept.IsKey (.int .i64) p.1 := by intro p hp; obtain ⟨z, _, rfl⟩ := List.mem_map.1 hp; rfl
theorem graph_order_L0 {Q : AExit → St → Mu → Prop} {μ : Mu} (b : Nat) (g : GGraph) (N : Nat) (hl : N ≤ 140737488355328) : ∀ (n k : Nat) (hx : k + n = N) (ks : List (Int × Int))
    (C : SemK Tryz.prog 84 0 Q (.exit (.exit 0)) [] ⟨fr [(1, AV.ptr 0 0 0), (2, .nils), (3, .sc (.map (some b)))], hp [(0, { es := [enc_GGraph false g], esz := 2 })], 1⟩ ((b, (ordIn ks (k : Int) n).map (kvE iV)) :: μ)),
    SemK Tryz.prog 84 0 Q (.loop (loopB 0 (bodyOf Tryz.f115))) [] ⟨fr [(1, AV.ptr 0 0 0), (2, .nils), (3, .sc (.map (some b))), (16, aI .i64 (N : Int)), (17, aI .i64 (k : Int))], hp [(0, { es := [enc_GGraph false g], esz := 2 })], 1⟩ ((b, ks.map (kvE iV)) :: μ) := by
  intro n
  induction n with
  | zero =>
    intro k hx ks C
    have hc : decide ((k : Int) < (N : Int)) = false := decide_eq_false (by omega)
    refine SemK.round ?_
    exact runK [.br false] (k := wkT [] C)
  | succ n ih =>
    intro k hx ks C
    have hc : decide ((k : Int) < (N : Int)) = true := decide_eq_true (by omega)
    refine SemK.round ?_
    refine runT [.br true] ?_
    refine SemK.mapUpd (d := .int .i64) tyTab_ok rfl rfl rfl rfl rfl Tryz.underlying3 rfl rfl rfl trivial trivial trivial rfl ord_ks ?_
    rw [ordSet]
    refine runT [] ?_
    exact wkT [] (ih (k + 1) (by omega) (setA (k : Int) 0 ks) (by exact C))
theorem graph_order_L1 {Q : AExit → St → Mu → Prop} {μ : Mu} (b : Nat) (g : GGraph) (l : List GChannel) (hl : List.length l ≤ 140737488355328) : ∀ (xs : List GChannel) (k : Nat) (hx : l.drop k = xs) (ks : List (Int × Int))
    (C : SemK Tryz.prog 84 0 Q (.exit (.exit 2)) [] ⟨fr [(1, AV.ptr 0 0 0), (2, .nils), (3, .sc (.map (some b)))], hp [(0, { es := [enc_GGraph false g], esz := 2 })], 1⟩ ((b, (addAll ks (xs.map (·.To))).map (kvE iV)) :: μ)),
    SemK Tryz.prog 84 0 Q (.loop (loopB 1 (bodyOf Tryz.f115))) [] ⟨fr [(1, AV.ptr 0 0 0), (2, .nils), (3, .sc (.map (some b))), (24, AV.list false (List.map enc_GChannel l)), (25, aI .i64 (List.length l : Int)), (26, aI .i64 (k : Int))], hp [(0, { es := [enc_GGraph false g], esz := 2 })], 1⟩ ((b, ks.map (kvE iV)) :: μ) := by
  intro xs
  induction xs with
  | nil =>
    intro k hx ks C
    have hk := drop_nil hx
    have hc : decide ((k : Int) < (List.length l : Int)) = false := decide_eq_false (by omega)
    refine SemK.round ?_
    exact runK [.br false] (k := wkT [] C)
  | cons x xs ih =>
    intro k hx ks C
    obtain ⟨hk, hg, hx1⟩ := drop_cons hx
    have hc : decide ((k : Int) < (List.length l : Int)) = true := decide_eq_true (by omega)
    refine SemK.round ?_
    refine runT [.br true, .el (enc_GChannel x)] ?_
    refine SemK.mapLookI (d := .int .i64) (z := .int .i64 0) tyTab_ok rfl rfl rfl rfl rfl Tryz.underlying3 (fun _ => rfl) rfl rfl rfl trivial trivial rfl ord_ks ?_
    rw [ordGet]
    refine runT [.wrap] ?_
    refine SemK.mapUpd (d := .int .i64) tyTab_ok rfl rfl rfl rfl rfl Tryz.underlying3 rfl rfl rfl trivial trivial trivial rfl ord_ks ?_
    rw [ordSet]
    refine runT [] ?_
    exact wkT [] (ih (k + 1) hx1 _ C)
theorem graph_order_L4 {Q : AExit → St → Mu → Prop} {μ : Mu} (b : Nat) (g : GGraph) (nx : Int) (out : List Int) (nb : Nb out) (l : List GChannel) (hl : List.length l ≤ 140737488355328) : ∀ (xs : List GChannel) (k : Nat) (hx : l.drop k = xs) (ks : List (Int × Int))
    (C : SemK Tryz.prog 84 0 Q (.exit (.exit 8)) [] ⟨fr [(1, AV.ptr 0 0 0), (2, .nils), (3, .sc (.map (some b))), (7, slE nb.1 1 (List.map (aI .i64) out))], hp ([(0, { es := [enc_GGraph false g], esz := 2 })] ++ opE nb.1 1 1 (List.map (aI .i64) out)), 2⟩ ((b, (ordDec nx ks (xs.map fun c => (c.From, c.To))).map (kvE iV)) :: μ)),
    SemK Tryz.prog 84 0 Q (.loop (loopB 4 (bodyOf Tryz.f115))) [] ⟨fr [(1, AV.ptr 0 0 0), (2, .nils), (3, .sc (.map (some b))), (7, slE nb.1 1 (List.map (aI .i64) out)), (8, aI .i64 nx), (67, AV.list false (List.map enc_GChannel l)), (68, aI .i64 (List.length l : Int)), (69, aI .i64 (k : Int))], hp ([(0, { es := [enc_GGraph false g], esz := 2 })] ++ opE nb.1 1 1 (List.map (aI .i64) out)), 2⟩ ((b, ks.map (kvE iV)) :: μ) := by
  intro xs
  induction xs with
  | nil =>
    intro k hx ks C
    have hk := drop_nil hx
    have hc : decide ((k : Int) < (List.length l : Int)) = false := decide_eq_false (by omega)
    refine SemK.round ?_
    rcases nb with ⟨_ | _, hn⟩ <;> (try obtain rfl := hn rfl)
    all_goals exact runK [.br false] (k := wkT [] C)
  | cons x xs ih =>
    intro k hx ks C
    obtain ⟨hk, hg, hx1⟩ := drop_cons hx
    have hc : decide ((k : Int) < (List.length l : Int)) = true := decide_eq_true (by omega)
    refine SemK.round ?_
    cases hs : decide (x.From = nx) with
    | true =>
      have C' : SemK Tryz.prog 84 0 Q (.exit (.exit 8)) [] ⟨fr [(1, AV.ptr 0 0 0), (2, .nils), (3, .sc (.map (some b))), (7, slE nb.1 1 (List.map (aI .i64) out))], hp ([(0, { es := [enc_GGraph false g], esz := 2 })] ++ opE nb.1 1 1 (List.map (aI .i64) out)), 2⟩ ((b, (ordDec nx (setA x.To (IntKind.i64.wrap (getA x.To ks - 1)) ks) (xs.map fun c => (c.From, c.To))).map (kvE iV)) :: μ) := by
        simp only [List.map_cons, ordDec, hs, cond_true] at C; exact C
      rcases nb with ⟨_ | _, hn⟩ <;> (try obtain rfl := hn rfl)
      all_goals
        refine runT [.br true, .el (enc_GChannel x), .br true] ?_
        refine SemK.mapLookI (d := .int .i64) (z := .int .i64 0) tyTab_ok rfl rfl rfl rfl rfl Tryz.underlying3 (fun _ => rfl) rfl rfl rfl trivial trivial rfl ord_ks ?_
        rw [ordGet]
        refine runT [.wrap] ?_
        refine SemK.mapUpd (d := .int .i64) tyTab_ok rfl rfl rfl rfl rfl Tryz.underlying3 rfl rfl rfl trivial trivial trivial rfl ord_ks ?_
        rw [ordSet]
        refine runT [] ?_
        exact wkT [] (ih (k + 1) hx1 _ C')
    | false =>
      have C' : SemK Tryz.prog 84 0 Q (.exit (.exit 8)) [] ⟨fr [(1, AV.ptr 0 0 0), (2, .nils), (3, .sc (.map (some b))), (7, slE nb.1 1 (List.map (aI .i64) out))], hp ([(0, { es := [enc_GGraph false g], esz := 2 })] ++ opE nb.1 1 1 (List.map (aI .i64) out)), 2⟩ ((b, (ordDec nx ks (xs.map fun c => (c.From, c.To))).map (kvE iV)) :: μ) := by
        simp only [List.map_cons, ordDec, hs, cond_false] at C; exact C
      rcases nb with ⟨_ | _, hn⟩ <;> (try obtain rfl := hn rfl)
      all_goals
        refine runT [.br true, .el (enc_GChannel x), .br false] ?_
        exact wkT [] (ih (k + 1) hx1 _ C')
theorem graph_order_L3 {Q : AExit → St → Mu → Prop} {μ : Mu} (b r : Nat) (g : GGraph) (out : List Int) (nb : Nb out) (ents : Array MapEntry) (clock : Nat) (ks : List (Int × Int)) (hl : ents.toList.map (fun e => (e.key, e.val)) = ks.map (kvE iV)) (hpw : ents.toList.Pairwise (fun x y => x.born < y.born)) (hcl : ∀ e ∈ ents.toList, e.born < clock) (hge : ∀ p ∈ ks, 0 ≤ p.1)
    (C : ∀ seen c1, SemK Tryz.prog 84 0 Q (.exit (.exit 6)) [] ⟨fr [(1, AV.ptr 0 0 0), (2, .nils), (3, .sc (.map (some b))), (7, slE nb.1 1 (List.map (aI .i64) out)), (8, aI .i64 (leastZ ks))], hp ([(0, { es := [enc_GGraph false g], esz := 2 })] ++ opE nb.1 1 1 (List.map (aI .i64) out)), 2⟩ ((r, .blk (.mapIter (some b) clock seen c1)) :: (b, .blk (.map ents clock)) :: μ)) :
    ∀ (m : Nat) (seen : Array Nat) (c1 : Nat) (hc1 : clock ≤ c1) (nx : Int) (hm : (leftOf ents seen).size = m) (hL : IsLeast nx (Seen ents seen)),
    SemK Tryz.prog 84 0 Q (.loop (loopB 3 (bodyOf Tryz.f115))) [] ⟨fr [(1, AV.ptr 0 0 0), (2, .nils), (3, .sc (.map (some b))), (7, slE nb.1 1 (List.map (aI .i64) out)), (8, aI .i64 nx), (40, .sc (.pointer (some ⟨r, 0, none⟩)))], hp ([(0, { es := [enc_GGraph false g], esz := 2 })] ++ opE nb.1 1 1 (List.map (aI .i64) out)), 2⟩ ((r, .blk (.mapIter (some b) clock seen c1)) :: (b, .blk (.map ents clock)) :: μ) := by
  intro m
  induction m using Nat.strongRecOn with
  | ind m ih =>
    intro seen c1 hc1 nx hm hL
    refine SemK.round ?_
    refine runT [] ?_
    refine SemK.mapNext rfl rfl rfl rfl trivial hcl hc1 (fun h0 => ?_) (fun e he => ?_)
    · have hn := least_done hl h0 hge hL
      subst hn
      rcases nb with ⟨_ | _, hn⟩ <;> (try obtain rfl := hn rfl)
      all_goals exact runK [.br false] (k := wkT [] (C _ _))
    · obtain ⟨⟨i, n⟩, hp, hk, hv⟩ := ent_key hl (mem_left.1 he).1
      have hS := Seen.step hpw he (i := i) (n := n) (by rw [hk, hv]; rfl)
      have hst := hL.step i n (hge _ hp) hS
      have hlt := left_lt he
      rcases nb with ⟨_ | _, hn⟩ <;> (try obtain rfl := hn rfl)
      all_goals
        refine runT [.br true] ?_
        refine SemK.mapEntryI rfl rfl rfl rfl trivial (mem_left.1 he).1 hpw ?_
        rw [hk, hv]
        cases hb : (decide (n = 0) && (decide (nx < 0) || decide (i < nx))) with
        | true =>
          rw [hb, cond_true] at hst
          exact runK [.br true] (k := wkT [] (ih _ (hm ▸ hlt) _ _ (Nat.le_refl _) _ rfl hst))
        | false =>
          rw [hb, cond_false] at hst
          exact runK [.br false] (k := wkT [] (ih _ (hm ▸ hlt) _ _ (Nat.le_refl _) _ rfl hst))
theorem graph_order_L2 {Q : AExit → St → Mu → Prop} {μ : Mu} (b : Nat) (g : GGraph) (hl : List.length g.Channels ≤ 140737488355328) (hto : ∀ c ∈ (g.Channels.map fun c => (c.From, c.To)), 0 ≤ c.2) : ∀ (f : Nat) (ks : List (Int × Int)) (out : List Int) (nb : Nb out) (hf : out.length + f ≤ 1000) (hge : ∀ p ∈ ks, 0 ≤ p.1) (r : List Int) (h : ordGo (g.Channels.map fun c => (c.From, c.To)) f ks out = some r)
    (C : ∀ (nb' : Nb r) es, SemK Tryz.prog 84 0 Q (.exit (.exit 4)) [] ⟨fr [(7, slE nb'.1 0 (List.map (aI .i64) r))], hp ([] ++ opE nb'.1 0 1 (List.map (aI .i64) r)), 1⟩ ((b, .map es) :: μ)),
    SemK Tryz.prog 84 0 Q (.loop (loopB 2 (bodyOf Tryz.f115))) [] ⟨fr [(1, AV.ptr 0 0 0), (2, .nils), (3, .sc (.map (some b))), (7, slE nb.1 1 (List.map (aI .i64) out))], hp ([(0, { es := [enc_GGraph false g], esz := 2 })] ++ opE nb.1 1 1 (List.map (aI .i64) out)), 2⟩ ((b, ks.map (kvE iV)) :: μ) := by
  intro f
  induction f with
  | zero => intro ks out nb hf hge r h; cases h
  | succ f ih =>
    intro ks out nb hf hge r h C
    refine SemK.round ?_
    revert h
    rw [ordGo]
    refine brI (fun h1 => ?_) fun h1 => ?_
    · refine brI (fun h2 => ?_) fun h2 => ?_
      · intro h
        obtain rfl := oj h
        rcases nb with ⟨_ | _, hn⟩ <;> (try obtain rfl := hn rfl)
        all_goals
          refine runT [] ?_
          refine SemK.mapLen tyTab_ok rfl rfl rfl rfl rfl rfl trivial ?_
          rw [List.length_map]
          refine runT [.br true] ?_
          refine SemK.mapRange tyTab_ok rfl rfl rfl rfl rfl rfl trivial fun q ents clock hl1 hpw hcl => ?_
          refine runT [] ?_
        · refine wkT [] (SemK.cut (graph_order_L3 b q g _ nbF ents clock ks hl1 hpw hcl hge (fun seen c1 => ?_) _ #[] clock (Nat.le_refl _) (-1) rfl least_nil))
          refine SemK.glue ?_
          refine SemK.mapShutC hl1 hpw hcl ?_
          exact runK [.br true] (k := wkT [(0, 1)] (C nbF _))
        · refine wkT [] (SemK.cut (graph_order_L3 b q g _ nbS ents clock ks hl1 hpw hcl hge (fun seen c1 => ?_) _ #[] clock (Nat.le_refl _) (-1) rfl least_nil))
          refine SemK.glue ?_
          refine SemK.mapShutC hl1 hpw hcl ?_
          exact runK [.br true] (k := wkT [] (C nbS _))
      · intro h
        have hq : capOk (List.length (out ++ [leastZ ks])) 8 = some () := if_pos (by simp; omega)
        rcases nb with ⟨_ | _, hn⟩ <;> (try obtain rfl := hn rfl)
        all_goals
          refine runT [] ?_
          refine SemK.mapLen tyTab_ok rfl rfl rfl rfl rfl rfl trivial ?_
          rw [List.length_map]
          refine runT [.br true] ?_
          refine SemK.mapRange tyTab_ok rfl rfl rfl rfl rfl rfl trivial fun q ents clock hl1 hpw hcl => ?_
          refine runT [] ?_
        · refine wkT [] (SemK.cut (graph_order_L3 b q g _ nbF ents clock ks hl1 hpw hcl hge (fun seen c1 => ?_) _ #[] clock (Nat.le_refl _) (-1) rfl least_nil))
          refine SemK.glue ?_
          refine SemK.mapShutC hl1 hpw hcl ?_
          refine runT [.br false, .no] ?_ (o := by repeat' first | refine And.intro ?_ ?_ | (refine capLe hq rfl ?_; first | (simp; done) | (simp <;> omega)) | (refine capMax hq (by decide) ?_; first | (simp; done) | (simp <;> omega)) | exact oblC)
          refine SemK.mapDel (d := .int .i64) tyTab_ok rfl rfl rfl rfl rfl Tryz.underlying3 rfl rfl rfl trivial trivial rfl ord_ks ?_
          rw [ordDel]
          refine runT [] ?_
          refine wkT [(1, 3)] (SemK.cut (graph_order_L4 b g (leastZ ks) (out ++ [leastZ ks]) nbF g.Channels hl g.Channels 0 rfl _ ?_))
          refine SemK.glue ?_
          exact runK [] (k := wkT [] (ih _ _ nbF (by simp; omega) (ordDec_ge _ _ hto (delA_ge hge)) _ h C))
        · refine wkT [] (SemK.cut (graph_order_L3 b q g _ nbS ents clock ks hl1 hpw hcl hge (fun seen c1 => ?_) _ #[] clock (Nat.le_refl _) (-1) rfl least_nil))
          refine SemK.glue ?_
          refine SemK.mapShutC hl1 hpw hcl ?_
          refine runT [.br false, .no] ?_ (o := by repeat' first | refine And.intro ?_ ?_ | (refine capLe hq rfl ?_; first | (simp; done) | (simp <;> omega)) | (refine capMax hq (by decide) ?_; first | (simp; done) | (simp <;> omega)) | exact oblC)
          refine SemK.mapDel (d := .int .i64) tyTab_ok rfl rfl rfl rfl rfl Tryz.underlying3 rfl rfl rfl trivial trivial rfl ord_ks ?_
          rw [ordDel]
          refine runT [] ?_
          refine wkT [(1, 3)] (SemK.cut (graph_order_L4 b g (leastZ ks) [leastZ ks] nbF g.Channels hl g.Channels 0 rfl _ ?_))
          refine SemK.glue ?_
          exact runK [] (k := wkT [] (ih _ _ nbF (by simp; omega) (ordDec_ge _ _ hto (delA_ge hge)) _ h C))
    · intro h
      obtain rfl := oj h
      rcases nb with ⟨_ | _, hn⟩ <;> (try obtain rfl := hn rfl)
      all_goals
        refine runT [] ?_
        refine SemK.mapLen tyTab_ok rfl rfl rfl rfl rfl rfl trivial ?_
        rw [List.length_map]
      · exact runK [.br false] (k := wkT [(0, 1)] (C nbF _))
      · exact runK [.br false] (k := wkT [] (C nbS _))
instance graph_order_ok : PCs Tryz.prog 115 (∀ (a0 : GGraph) (r : List Int), graph_order a0 = some r → Pure Tryz.prog 115 [(enc_GGraph false a0)] (AV.list true (List.map (aI .i64) r))) := ⟨fun a0 r h => by
  refine Pure.sym tyTab_ok fn115 (nt := 84) rfl rfl ?_ okM
  unfold graph_order at h
  revert h
  refine bI fun u1 h1 => bI fun u2 h2 => bI fun u3 h3 => ?_
  intro h
  have q1 := lenOk_le h1
  have q2 := lenOk_le h2
  have hto : ∀ c ∈ (a0.Channels.map fun c => (c.From, c.To)), 0 ≤ c.2 := by
    intro c hc
    obtain ⟨x, hx, rfl⟩ := List.mem_map.1 hc
    unfold ordGe at h3
    cases hb : a0.Channels.all (fun c => decide (0 ≤ c.To)) with
    | false => rw [hb] at h3; cases h3
    | true => exact of_decide_eq_true (List.all_eq_true.1 hb x hx)
  refine runT [] ?_
  refine SemK.mapNew rfl rfl rfl fun b => ?_
  refine runT [] ?_
  refine wkT [] (SemK.cut (graph_order_L0 b a0 (List.length a0.Ops) q1 (List.length a0.Ops) 0 (by simp) [] ?_))
  refine SemK.glue ?_
  refine runT [] ?_
  refine wkT [] (SemK.cut (graph_order_L1 b a0 a0.Channels q2 a0.Channels 0 rfl _ ?_))
  refine SemK.glue ?_
  refine runT [] ?_
  unfold ordL at h
  rw [List.map_map] at h
  refine wkT [] (SemK.cut (graph_order_L2 b a0 q2 hto 1000 _ [] nbS (by simp) (addAll_ge _ (by intro c hc; obtain ⟨x, hx, rfl⟩ := List.mem_map.1 hc; exact hto (x.From, x.To) (List.mem_map.2 ⟨x, hx, rfl⟩)) (ordIn_ge _ (Int.le_refl _) (by intro p hp; cases hp))) r h (fun nb' es => ?_)))
  refine SemK.glue ?_
  rcases nb' with ⟨_ | _, hn⟩ <;> (try obtain rfl := hn rfl)
  all_goals exact runK [] (k := fi)⟩
end Go.Av.Tryz
