/- From what a law's arguments read as, to abstract values; and from a pure function that answers true to the law. -/
import Derived.Test.YtioookhnoobpgaaAvFnP
import Derived.Carry
import Derived.ProofKit
import Derived.OpenShut
import Derived.Deep.Slices
namespace Go.Av

def tiles (P : Program) (tot : Nat) : Nat → List Field → Bool
  | off, [] => off == tot
  | off, f :: fs => f.offset == off && tiles P tot (off + P.cellsOf f.type) fs

def plainTy (P : Program) : Nat → Nat → Bool
  | 0, _ => false
  | n + 1, t => match P.underlying t with
    | some .bool | some (.int _) | some .string => P.cellsOf t == 1
    | some (.slice e) => P.cellsOf t == 1 && decide (0 < P.cellsOf e) && plainTy P n e
    | some (.struct fs) => tiles P (P.cellsOf t) 0 fs.toList && fs.toList.all fun f => plainTy P n f.type
    | some (.array m e) => P.cellsOf t == m * P.cellsOf e && plainTy P n e
    | _ => false

inductive Rels {α β : Type} (R : α → β → Prop) : List α → List β → Prop
  | nil : Rels R [] []
  | cons {a b as bs} (h : R a b) (hs : Rels R as bs) : Rels R (a :: as) (b :: bs)

/-- What a value of a type looks like. -/
def Shape (P : Program) : Nat → Nat → AV → Prop
  | 0, _, _ => False
  | n + 1, t, a => match P.underlying t with
    | some .bool => ∃ b, a = .sc (.bool b)
    | some (.int k) => ∃ z, a = .sc (.int k z) ∧ (Lit.int k z).wf = true
    | some .string => ∃ s, a = .sc (.string s) ∧ s.size ≤ maxLen
    | some (.slice e) => ∃ es, a = .list false es ∧ es.length ≤ maxLen ∧ ∀ x ∈ es, Shape P n e x
    | some (.struct fs) => ∃ l : List AV, a = .agg (l.flatMap AV.cells) ∧ Rels (fun f x => Shape P n f.type x) fs.toList l
    | some (.array m e) => ∃ l : List AV, a = .agg (l.flatMap AV.cells) ∧ l.length = m ∧ ∀ x ∈ l, Shape P n e x
    | _ => False

theorem mapM_some {α β : Type} {f : α → Option β} : ∀ {l : List α} {ys : List β}, l.mapM f = some ys → Rels (fun x y => f x = some y) l ys := by
  intro l
  induction l with
  | nil => intro ys h; simp at h; subst h; exact .nil
  | cons x l ih =>
    intro ys h
    simp only [List.mapM_cons, Option.bind_eq_bind, Option.bind_eq_some_iff] at h
    obtain ⟨y, hy, zs, hz, h⟩ := h
    simp at h
    subst h
    exact .cons hy (ih hz)

/-- The cells of a value, and those in which it was read. -/
structure DeepRel (c : Ctx) (l : List AV) (cs : List Value) : Prop where
  len : l.length = cs.length
  rel : ∀ (i : Nat) x v, l[i]? = some x → cs[i]? = some v → VRel c true x v ∧ v.oneCell' = true

theorem DeepRel.append {c : Ctx} {l m : List AV} {cs ds : List Value} (h : DeepRel c l cs) (k : DeepRel c m ds) : DeepRel c (l ++ m) (cs ++ ds) := by
  refine ⟨by simp [h.len, k.len], fun i x v hx hv => ?_⟩
  rw [List.getElem?_append] at hx hv
  by_cases hi : i < l.length
  · rw [if_pos hi] at hx
    rw [if_pos (by rw [← h.len]; exact hi)] at hv
    exact h.rel i x v hx hv
  · rw [if_neg hi] at hx
    rw [if_neg (by rw [← h.len]; exact hi), ← h.len] at hv
    exact k.rel _ x v hx hv

theorem DeepRel.agg {c : Ctx} {l : List AV} {cs : List Value} (h : DeepRel c l cs) : VRel c true (.agg l) (.agg cs.toArray) := by
  refine .agg (by simpa using h.len) (fun v hv => ?_) (fun i a v ha hv => (h.rel i a v ha (by simpa using hv)).1)
  obtain ⟨i, hi⟩ := List.getElem?_of_mem (by simpa using hv : v ∈ cs)
  have : i < l.length := by rw [h.len]; exact (List.getElem?_eq_some_iff.1 hi).1
  exact (h.rel i _ v (List.getElem?_eq_getElem this) hi).2

section
variable {H : Type} {enc : TypeId × Value → H} {P : Program} {w : World}

def lawCtx (w : World) : Ctx := ⟨w, pl0, fun b => b < w.heap.size, fun _ => False, w.heap.size⟩

theorem drop_take_split (cs : List Value) (off n tot : Nat) (_ : cs.length = tot) (_ : off + n ≤ tot) : cs.drop off = (cs.drop off).take n ++ cs.drop (off + n) := by
  rw [← List.drop_drop, List.take_append_drop]

theorem trod_shape : ∀ (n t : Nat), plainTy P n t = true → ∀ (fuel : Nat) (cs : List Value) (d : DataW H) (ps : List MemPlace), DataW.trod enc P w 0 (fun _ => true) true fuel t cs = some (d, ps) →
    ∃ a, Shape P n t a ∧ DeepRel (lawCtx w) a.cells cs ∧ cs.length = P.cellsOf t := by
  intro n
  induction n with
  | zero => intro t h; simp [plainTy] at h
  | succ n ih =>
    intro t hp fuel cs d ps h
    cases fuel with
    | zero => simp [DataW.trod] at h
    | succ fuel =>
    have one : ∀ {v : Value}, v.oneCell' = true → DeepRel (lawCtx w) [AV.sc v] [v] := fun {v} hv =>
      ⟨rfl, fun i x u hx hu => by cases i with
        | zero => simp at hx hu; subst hx hu; exact ⟨.sc, hv⟩
        | succ i => simp at hx⟩
    unfold plainTy at hp
    unfold Shape
    unfold DataW.trod at h
    cases hu : P.underlying t with
    | none => simp [hu] at hp
    | some td =>
      cases td with
      | bool =>
        simp only [hu] at h hp ⊢
        split at h
        all_goals first | (rename_i b hx; cases hx; simp at hp; exact ⟨.sc (.bool _), ⟨_, rfl⟩, one rfl, by simp [hp]⟩) | simp_all
      | int k =>
        simp only [hu] at h hp ⊢
        split at h <;> simp_all
        obtain ⟨⟨h1, h2⟩, h3⟩ := h
        subst h1
        exact ⟨.sc (.int _ _), ⟨_, rfl, h2⟩, one rfl⟩
      | string =>
        simp only [hu] at h hp ⊢
        split at h <;> simp_all
        obtain ⟨h1, h2⟩ := h
        exact ⟨.sc (.string _), ⟨_, rfl, h1⟩, one rfl⟩
      | slice e =>
        simp only [hu] at hp ⊢
        simp only [Bool.and_eq_true, beq_iff_eq, decide_eq_true_eq] at hp
        obtain ⟨⟨hp1, hp2⟩, hp3⟩ := hp
        have h' : DataW.trod enc P w 0 (fun _ => true) true (fuel + 1) t cs = some (d, ps) := by unfold DataW.trod; exact h
        rcases Go.Deep.open_slice hu h' with ⟨rfl, hx⟩ | ⟨a, len, cap, m, n', D, Pl, rfl, _, hlc, hcm, hm, hx, hel⟩
        · refine ⟨.list false [], ⟨[], rfl, by simp, fun x hx => by simp at hx⟩, ⟨rfl, fun i x v hx hv => ?_⟩, by simp [hp1]⟩
          cases i with
          | zero => simp [AV.cells] at hx hv; subst hx hv; exact ⟨.listNil, rfl⟩
          | succ i => simp [AV.cells] at hx
        · have hmc : len ≤ m := by rw [hm]; split <;> omega
          have each : ∀ i, i < len → ∃ x cs', Shape P n e x ∧ DeepRel (lawCtx w) x.cells cs' ∧ cs'.length = P.cellsOf e ∧ w.cells? 0 (a.add (i * P.cellsOf e)) (P.cellsOf e) = some cs' := by
            intro i hi
            obtain ⟨cs', h1, h2⟩ := hel i (by omega)
            obtain ⟨x, h3, h4, h5⟩ := ih e hp3 n' cs' _ _ h2
            exact ⟨x, cs', h3, h4, h5, h1⟩
          let F : Nat → AV := fun i => if hi : i < len then Classical.choose (each i hi) else .junk
          have hF : ∀ i, i < len → ∃ cs', Shape P n e (F i) ∧ DeepRel (lawCtx w) (F i).cells cs' ∧ cs'.length = P.cellsOf e ∧ w.cells? 0 (a.add (i * P.cellsOf e)) (P.cellsOf e) = some cs' := by
            intro i hi
            have := Classical.choose_spec (each i hi)
            simp only [F, dif_pos hi]
            exact this
          refine ⟨.list false ((List.range len).map F), ⟨_, rfl, by simp; omega, fun x hx => ?_⟩, ⟨rfl, fun i x v hx hv => ?_⟩, by simp [hp1]⟩
          · simp only [List.mem_map, List.mem_range] at hx
            obtain ⟨i, hi, rfl⟩ := hx
            obtain ⟨cs', h1, _⟩ := hF i hi
            exact h1
          · cases i with
            | succ i => simp [AV.cells] at hx
            | zero =>
              simp [AV.cells] at hx hv
              subst hx hv
              refine ⟨?_, rfl⟩
              by_cases hl0 : len = 0
              · subst hl0; exact .listNil
              · obtain ⟨blk, off, spot⟩ := a
                have hget : ∀ (i : Nat) x, ((List.range len).map F)[i]? = some x → i < len ∧ x = F i := by
                  intro i x hx
                  rw [List.getElem?_map] at hx
                  by_cases hi : i < len
                  · simp [hi] at hx; exact ⟨hi, hx.symm⟩
                  · simp [hi] at hx
                have hcells : ∀ i, i < len → ∀ k, k < P.cellsOf e → ∃ cs' v, DeepRel (lawCtx w) (F i).cells cs' ∧ cs'.length = P.cellsOf e ∧ cs'[k]? = some v ∧ w.cell? ((⟨blk, off, spot⟩ : Addr).add (i * P.cellsOf e + k)) = some v := by
                  intro i hi k hk
                  obtain ⟨cs', _, h2, h3, h4⟩ := hF i hi
                  unfold World.cells? at h4
                  rw [if_pos (Nat.zero_le _)] at h4
                  have h5 := mapM_some h4
                  have h6 : ∀ (l : List Nat) (ys : List Value), Rels (fun j v => w.cell? (((⟨blk, off, spot⟩ : Addr).add (i * P.cellsOf e)).add j) = some v) l ys → ∀ (j : Nat) (x : Nat), l[j]? = some x → ∃ v, ys[j]? = some v ∧ w.cell? (((⟨blk, off, spot⟩ : Addr).add (i * P.cellsOf e)).add x) = some v := by
                    intro l ys hr
                    induction hr with
                    | nil => intro j x hx; simp at hx
                    | cons h _ ih' =>
                      intro j x hx
                      cases j with
                      | zero => simp at hx; subst hx; exact ⟨_, rfl, h⟩
                      | succ j => simp at hx; simpa using ih' j x hx
                  obtain ⟨v, h7, h8⟩ := h6 _ _ h5 k k (by simp [hk])
                  rw [Go.Deep.add_add] at h8
                  exact ⟨cs', v, h2, h3, h7, h8⟩
                have hspot : spot = none := by
                  obtain ⟨_, v, _, _, _, hv⟩ := hcells 0 (by omega) 0 hp2
                  simp only [Nat.zero_mul, Nat.zero_add, Addr.add_zero'] at hv
                  unfold World.cell? at hv
                  split at hv
                  · cases spot with
                    | none => rfl
                    | some x => simp at hv
                  · cases hv
                subst hspot
                have hblk : blk < w.heap.size := by
                  obtain ⟨_, v, _, _, _, hv⟩ := hcells 0 (by omega) 0 hp2
                  rw [Addr.add_lit] at hv
                  exact block_lt_of_cell hv
                refine .list (esz := P.cellsOf e) (fun i k => (w.cell? ⟨blk, off + i * P.cellsOf e + k, none⟩).getD undef) ?_ (.inl ⟨rfl, hblk⟩) (by simp) (by simp; omega) ?_ ?_ ?_ ?_
                · intro h0; simp at h0; exact hl0 h0
                · intro i x hx
                  obtain ⟨hi, rfl⟩ := hget i x hx
                  obtain ⟨cs', _, h2, h3, _⟩ := hF i hi
                  rw [h2.len, h3]
                all_goals
                  intro i x k y hx hy
                  obtain ⟨hi, rfl⟩ := hget i x hx
                  have hk : k < P.cellsOf e := by
                    obtain ⟨cs', _, h2, h3, _⟩ := hF i hi
                    rw [← h3, ← h2.len]; exact (List.getElem?_eq_some_iff.1 hy).1
                  obtain ⟨cs', v, h2, h3, h4, h5⟩ := hcells i hi k hk
                  rw [Addr.add_lit, ← Nat.add_assoc] at h5
                  obtain ⟨h6, h7⟩ := h2.rel k y v hy h4
                · show w.cell? _ = _
                  rw [h5]; rfl
                · rw [h5]; exact h7
                · rw [h5]; exact h6
      | struct fs =>
        simp only [hu] at h hp ⊢
        simp only [Bool.and_eq_true, List.all_eq_true] at hp
        obtain ⟨hti, hall⟩ := hp
        split at h
        · rename_i hlen
          simp only [Option.map_eq_some_iff] at h
          obtain ⟨xs, hxs, _⟩ := h
          have hr := mapM_some hxs
          have key : ∀ (l : List Field) (off : Nat) (xs : List (DataW H × List MemPlace)), (∀ f ∈ l, plainTy P n f.type = true) → tiles P (P.cellsOf t) off l = true → off ≤ P.cellsOf t →
              Rels (fun f y => DataW.trod enc P w 0 (fun _ => true) true fuel f.type ((cs.drop f.offset).take (P.cellsOf f.type)) = some y) l xs →
              ∃ as : List AV, Rels (fun f x => Shape P n f.type x) l as ∧ DeepRel (lawCtx w) (as.flatMap AV.cells) (cs.drop off) := by
            intro l
            induction l with
            | nil =>
              intro off xs _ ht _ hr
              simp [tiles] at ht
              subst ht
              refine ⟨[], .nil, ?_, fun i x v hx => by simp at hx⟩
              simp [hlen]
            | cons f l ihl =>
              intro off xs hpl ht hle hr
              simp only [tiles, Bool.and_eq_true, beq_iff_eq] at ht
              obtain ⟨hoff, ht⟩ := ht
              cases hr with
              | cons h1 hs =>
                obtain ⟨x, h2, h3, h4⟩ := ih f.type (hpl f (List.mem_cons_self ..)) fuel _ _ _ h1
                have hle' : off + P.cellsOf f.type ≤ P.cellsOf t := by
                  simp only [List.length_take, List.length_drop, hlen, hoff] at h4
                  omega
                obtain ⟨as, h5, h6⟩ := ihl _ _ (fun g hg => hpl g (List.mem_cons_of_mem _ hg)) ht hle' hs
                refine ⟨x :: as, .cons h2 h5, ?_⟩
                rw [List.flatMap_cons, drop_take_split cs off (P.cellsOf f.type) (P.cellsOf t) hlen hle']
                rw [hoff] at h3
                exact h3.append h6
          obtain ⟨as, h1, h2⟩ := key fs.toList 0 xs hall hti (Nat.zero_le _) hr
          exact ⟨.agg (as.flatMap AV.cells), ⟨as, rfl, h1⟩, by simpa [AV.cells] using h2, hlen⟩
        · cases h
      | array m e =>
        simp only [hu] at h hp ⊢
        simp only [Bool.and_eq_true, beq_iff_eq] at hp
        obtain ⟨hce, hpe⟩ := hp
        split at h
        · rename_i hlen
          simp only [Option.map_eq_some_iff] at h
          obtain ⟨xs, hxs, _⟩ := h
          have hr := mapM_some hxs
          have key : ∀ (q j : Nat) (xs : List (DataW H × List MemPlace)), j + q = m →
              Rels (fun i y => DataW.trod enc P w 0 (fun _ => true) true fuel e ((cs.drop (i * P.cellsOf e)).take (P.cellsOf e)) = some y) (List.range' j q) xs →
              ∃ as : List AV, as.length = q ∧ (∀ x ∈ as, Shape P n e x) ∧ DeepRel (lawCtx w) (as.flatMap AV.cells) (cs.drop (j * P.cellsOf e)) := by
            intro q
            induction q with
            | zero =>
              intro j xs hj hr
              refine ⟨[], rfl, fun x hx => by simp at hx, ?_, fun i x v hx => by simp at hx⟩
              have : j = m := by omega
              subst this
              simp [hlen, hce]
            | succ q ihq =>
              intro j xs hj hr
              rw [List.range'_succ] at hr
              cases hr with
              | cons h1 hs =>
                obtain ⟨x, h2, h3, h4⟩ := ih e hpe fuel _ _ _ h1
                obtain ⟨as, h5, h6, h7⟩ := ihq (j + 1) _ (by omega) hs
                refine ⟨x :: as, by simp [h5], fun y hy => ?_, ?_⟩
                · rcases List.mem_cons.1 hy with rfl | hy
                  · exact h2
                  · exact h6 y hy
                · have hle : j * P.cellsOf e + P.cellsOf e ≤ P.cellsOf t := by
                    rw [hce]
                    have : (j + 1) * P.cellsOf e ≤ m * P.cellsOf e := Nat.mul_le_mul_right _ (by omega)
                    rw [Nat.add_mul] at this; omega
                  rw [List.flatMap_cons, drop_take_split cs (j * P.cellsOf e) (P.cellsOf e) (P.cellsOf t) hlen hle]
                  rw [Nat.add_mul, Nat.one_mul] at h7
                  exact h3.append h7
          obtain ⟨as, h1, h2, h3⟩ := key m 0 xs (by omega) (by rw [List.range_eq_range'] at hr; exact hr)
          exact ⟨.agg (as.flatMap AV.cells), ⟨as, rfl, h1, h2⟩, by simpa [AV.cells] using h3, hlen⟩
        · cases h
      | _ => simp [hu] at hp

open Go.ChangeShapes Go.RowKit

theorem shape_val {n t : Nat} {a : AV} {v : Value} {r : _root_.Go.Reach} {b : Nat} (hs : Shape P n t a) (hval : Value.okWide P w r b t v) (hd : DeepRel (lawCtx w) a.cells v.cells.toList) : VRel (lawCtx w) true a v := by
  have leaf : (∀ cs, a ≠ .agg cs) → v.oneCell' = true → VRel (lawCtx w) true a v := by
    intro ha hv
    have hc : v.cells = #[v] := by cases v <;> first | rfl | simp [Value.oneCell'] at hv
    rw [cells_of_not_agg ha, hc] at hd
    exact (hd.rel 0 a v rfl rfl).1
  have aggr : ∀ l, a = .agg l → (∃ cs, v = .agg cs) → VRel (lawCtx w) true a v := by
    rintro l rfl ⟨cs, rfl⟩
    have := hd.agg
    simp only [Value.cells, Array.toArray_toList] at this
    exact this
  cases n with
  | zero => exact hs.elim
  | succ n =>
    unfold Shape at hs
    unfold Value.okWide at hval
    cases hu : P.underlying t with
    | none => simp [hu] at hs
    | some d =>
      cases d with
      | struct fs =>
        simp only [hu] at hs hval
        obtain ⟨l, hl, _⟩ := hs
        obtain ⟨cs, hcs, _⟩ := hval
        exact aggr _ hl ⟨cs, hcs⟩
      | array m e =>
        simp only [hu] at hs hval
        obtain ⟨l, hl, _⟩ := hs
        obtain ⟨cs, hcs, _⟩ := hval
        exact aggr _ hl ⟨cs, hcs⟩
      | bool =>
        simp only [hu] at hs hval
        obtain ⟨z, rfl⟩ := hs
        refine leaf (fun cs h => by cases h) ?_
        cases v <;> first | rfl | simp [Cell.okWide, Cell.ok, hu] at hval
      | int k =>
        simp only [hu] at hs hval
        obtain ⟨z, rfl, _⟩ := hs
        refine leaf (fun cs h => by cases h) ?_
        cases v <;> first | rfl | simp [Cell.okWide, Cell.ok, hu] at hval
      | string =>
        simp only [hu] at hs hval
        obtain ⟨z, rfl, _⟩ := hs
        refine leaf (fun cs h => by cases h) ?_
        cases v <;> first | rfl | simp [Cell.okWide, Cell.ok, hu] at hval
      | slice e =>
        simp only [hu] at hs hval
        obtain ⟨z, rfl, _⟩ := hs
        refine leaf (fun cs h => by cases h) ?_
        cases v <;> first | rfl | simp [Cell.okWide, Cell.ok, hu] at hval
      | _ => simp [hu] at hs

theorem trodAll_shape {n : Nat} : ∀ (ts : List Nat) (vs : List Value) (ds : List (DataW H)) (ps : List MemPlace), (∀ t ∈ ts, plainTy P n t = true) →
    (∀ (j : Nat) t v, ts[j]? = some t → vs[j]? = some v → Value.okWide P w .any 0 t v) → DataW.TrodAll enc P w 0 (fun _ => true) true ts vs ds ps →
    ∃ as, Rels (fun t a => Shape P n t a) ts as ∧ as.length = vs.length ∧ ∀ (i : Nat) a v, as[i]? = some a → vs[i]? = some v → VRel (lawCtx w) true a v := by
  intro ts
  induction ts with
  | nil =>
    intro vs ds ps _ _ h
    cases vs with
    | nil => exact ⟨[], .nil, rfl, fun i a v ha => by simp at ha⟩
    | cons v vs => simp [DataW.TrodAll] at h
  | cons t ts ih =>
    intro vs ds ps hp hv h
    cases vs with
    | nil => simp [DataW.TrodAll] at h
    | cons v vs =>
      cases ds with
      | nil => simp [DataW.TrodAll] at h
      | cons d ds =>
        simp only [DataW.TrodAll] at h
        obtain ⟨p, q, ⟨fuel, h1⟩, h2, _⟩ := h
        obtain ⟨as, h3, h4, h5⟩ := ih vs ds q (fun u hu => hp u (List.mem_cons_of_mem _ hu)) (fun j u x hj hx => hv (j + 1) u x (by simpa using hj) (by simpa using hx)) h2
        obtain ⟨a, h6, h7, _⟩ := trod_shape n t (hp t (List.mem_cons_self ..)) fuel _ d p h1
        have h8 := shape_val h6 (hv 0 t v rfl rfl) h7
        refine ⟨a :: as, .cons h6 h3, by simp [h4], fun i x u hx hu => ?_⟩
        cases i with
        | zero => simp at hx hu; subst hx hu; exact h8
        | succ i => simp at hx hu; exact h5 i x u hx hu

theorem trodAll_stays {W W' : World} (hl : laidOutB P = true) (hb : Below W.heap.size W W') : ∀ (ts : List Nat) (vs : List Value) (ds : List (DataW H)) (ps : List MemPlace),
    (∀ t ∈ ts, P.readableRec t = true ∧ t < P.types.size) → (∀ x ∈ ps, x.block < W.heap.size) → DataW.TrodAll enc P W 0 (fun _ => true) true ts vs ds ps →
    DataW.TrodAll enc P W' 0 (fun b => decide (b < W.heap.size)) true ts vs ds ps := by
  intro ts
  induction ts with
  | nil =>
    intro vs ds ps _ _ h
    cases vs <;> cases ds <;> simp_all [DataW.TrodAll]
  | cons t ts ih =>
    intro vs ds ps hr hp h
    cases vs with
    | nil => simp [DataW.TrodAll] at h
    | cons v vs =>
      cases ds with
      | nil => simp [DataW.TrodAll] at h
      | cons d ds =>
        simp only [DataW.TrodAll] at h ⊢
        obtain ⟨p, q, h1, h2, rfl⟩ := h
        have ht := hr t (List.mem_cons_self ..)
        exact ⟨p, q, Below.trod hl ht.1 ht.2 h1 hb (fun x hx => hp x (List.mem_append_left _ hx)), ih vs ds q (fun u hu => hr u (List.mem_cons_of_mem _ hu)) (fun x hx => hp x (List.mem_append_right _ hx)) h2, rfl⟩

/-- A law whose function, called with whatever such values, answers true. -/
theorem law_contract {f : Nat} {fn : Func} {s : ChangeSpec} {n tb : Nat} (hl : laidOutB P = true) (hpl : ∀ t ∈ fn.params.toList, plainTy P n t = true)
    (hrd : ∀ t ∈ fn.params.toList, P.readableRec t = true ∧ t < P.types.size) (hres : fn.resultTypes = #[tb]) (htb : P.underlying tb = some .bool) (hsv : s.vars = [])
    (hs : ∀ ds : List (DataW H), ds.length = fn.params.size → s.fn H ds = { results := [.lit (.bool true)], args := ds })
    (hp : ∀ as, Rels (fun t a => Shape P n t a) fn.params.toList as → Pure P f as (.sc (.bool true)))
    (W : World) (base : Nat) (args : Array Value) (ds gs : List (DataW H)) (before : List MemPlace)
    (hval : ∀ (j : Nat) t v, fn.params[j]? = some t → args[j]? = some v → Value.okWide P W .any base t v)
    (hW : DataW.Whole enc P fn.params.toList s.vars false W args.toList ds gs before) :
    Calls P f args W fun e W' => ∃ v, e = .returned v ∧ s.post enc P fn false true false false W args v W' := by
  have hlt := hW.lt
  have hW0 := hW
  obtain ⟨p, q, hA, hV, rfl, hfz, hnd⟩ := hW
  rw [hsv] at hV
  obtain ⟨rfl, rfl⟩ := trodVars_none hV
  simp only [List.append_nil] at hlt hW0
  have hlen : ds.length = fn.params.size := by
    have : ∀ (ts : List Nat) (vs : List Value) (ds : List (DataW H)) (ps : List MemPlace), DataW.TrodAll enc P W 0 (fun _ => true) true ts vs ds ps → ds.length = ts.length := by
      intro ts
      induction ts with
      | nil => intro vs ds ps h; cases vs <;> cases ds <;> simp_all [DataW.TrodAll]
      | cons t ts ih =>
        intro vs ds ps h
        cases vs with
        | nil => simp [DataW.TrodAll] at h
        | cons v vs => cases ds with
          | nil => simp [DataW.TrodAll] at h
          | cons d ds => simp only [DataW.TrodAll] at h; obtain ⟨_, q, _, h2, _⟩ := h; simp [ih vs ds q h2]
    simpa using this _ _ _ _ hA
  obtain ⟨as, h1, h2, h3⟩ := trodAll_shape (n := n) fn.params.toList args.toList ds p hpl (fun j t v hj hv => by
    have := hval j t v (by simpa using hj) (by simpa using hv)
    exact Value.okWide_any_base this) hA
  have hrel : VRels (lawCtx W) true as args := ⟨by simpa using h2, fun i a v ha hv => h3 i a v ha (by simpa using hv)⟩
  refine ((hp as h1).2 W (fun b => b < W.heap.size) args (fun b hb => hb) hrel).mono ?_
  rintro e W' ⟨v, rfl, hv, hb⟩
  have hvt : v = .bool true := hv.sc_inv
  subst hvt
  refine ⟨_, rfl, ds, [], p, [], p, [], hW0, ?_, ?_, ?_, ?_, fun h => by cases h⟩
  · rw [List.append_nil, hs ds hlen, hres]
    exact trodAll_cons_mk (shut_bool htb _) trodAll_mk0
  · rw [List.append_nil, hs ds hlen]
    exact trodAll_stays hl hb _ _ _ _ hrd hlt hA
  · rw [List.append_nil, hs ds hlen, hsv]
    simp [DataW.TrodVars]
  · exact hb.frame _
end
end Go.Av
