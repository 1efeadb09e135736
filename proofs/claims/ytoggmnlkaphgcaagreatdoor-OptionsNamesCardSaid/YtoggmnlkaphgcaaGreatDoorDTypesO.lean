/- Parts of the proof, laid together. -/
import Derived.Test.YtoggmnlkaphgcaaGreatDoorGlX
import Derived.Test.YtoggmnlkaphgcaaGreatDoorAve
set_option linter.all false
namespace Go.D
structure GOp where
  Kind : Int
  N : Int
  deriving DecidableEq, Inhabited
structure GChannel where
  From : Int
  Out : Int
  To : Int
  In : Int
  Room : Int
  deriving DecidableEq, Inhabited
structure GGraph where
  Ops : (List GOp)
  Channels : (List GChannel)
  deriving DecidableEq, Inhabited
end Go.D
namespace Go.Av
open Go.D
def enc_GOp (x : GOp) : AV := .agg [(aI .u8 x.Kind), (aI .i64 x.N)]
theorem flat_GOp (x : GOp) : FlatE (enc_GOp x) := (flatC (flatC flatN))
theorem still_GOp (x : GOp) : StillE (enc_GOp x) := fun _ => rfl
theorem free_GOp (x : GOp) : FreeE (enc_GOp x) := flat_free (flat_GOp x) rfl
theorem cvf_GOp {m : Bool} {H : Heap} {x : GOp} : Cv m H (enc_GOp x) (enc_GOp x) := cv_flat (flat_GOp x)
theorem own_GOp (x : GOp) : OwnO (enc_GOp x) := own_flat (flat_GOp x)
instance fi_GOp : FlatI enc_GOp := ⟨flat_GOp, fun _ => rfl, still_GOp⟩
def enc_GChannel (x : GChannel) : AV := .agg [(aI .i64 x.From), (aI .i64 x.Out), (aI .i64 x.To), (aI .i64 x.In), (aI .i64 x.Room)]
theorem flat_GChannel (x : GChannel) : FlatE (enc_GChannel x) := (flatC (flatC (flatC (flatC (flatC flatN)))))
theorem still_GChannel (x : GChannel) : StillE (enc_GChannel x) := fun _ => rfl
theorem free_GChannel (x : GChannel) : FreeE (enc_GChannel x) := flat_free (flat_GChannel x) rfl
theorem cvf_GChannel {m : Bool} {H : Heap} {x : GChannel} : Cv m H (enc_GChannel x) (enc_GChannel x) := cv_flat (flat_GChannel x)
theorem own_GChannel (x : GChannel) : OwnO (enc_GChannel x) := own_flat (flat_GChannel x)
instance fi_GChannel : FlatI enc_GChannel := ⟨flat_GChannel, fun _ => rfl, still_GChannel⟩
def enc_GGraph (o : Bool) (x : GGraph) : AV := .agg [(AV.list o (List.map enc_GOp x.Ops)), (AV.list o (List.map enc_GChannel x.Channels))]
theorem still_GGraph (o : Bool) (x : GGraph) : StillE (enc_GGraph o x) := fun _ => rfl
theorem free_GGraph (o : Bool) (x : GGraph) : FreeE (enc_GGraph o x) := free_agg (fun _ => (allCons .list (allCons .list allNil)))
theorem cva_GGraph {H : Heap} {o : Bool} {x : GGraph} : Cv false H (enc_GGraph o x) (enc_GGraph false x) := cv_agg (Cvs.cons (cv_list (flat_map flat_GOp _)) (Cvs.cons (cv_list (flat_map flat_GChannel _)) Cvs.nil))
theorem cvt_GGraph {H : Heap} {o : Bool} {x : GGraph} : Cv true H (enc_GGraph o x) (enc_GGraph o x) := cv_agg (Cvs.cons (.listS rfl) (Cvs.cons (.listS rfl) Cvs.nil))
instance li_GGraph : ListI enc_GGraph := ⟨cva_GGraph, cvt_GGraph, fun _ _ _ => rfl, free_GGraph, still_GGraph⟩
theorem wkA {P : Prop} (h : P := by
  first
    | exact trivial
    | rfl
    | exact .sc
    | exact .list
    | exact .nils
    | exact .ref (by decide)
    | exact .ptr (by decide)
    | exact okFn0
    | (refine AV.Ok.tup ?_; repeat' first | exact allNil | refine allCons ?_ ?_ | exact .sc | exact .nils | exact .list | exact .ref (by decide) | exact .ptr (by decide))
    | (refine congrArg AV.tup ?_; repeat' first | rfl | (refine congrArg (fun z => AV.ref _ 0 z) ?_; first | rfl | omega | (simp; done) | (simp; omega)) | (show AV.ref _ 0 _ = AV.ref _ 0 _; congr 1; first | omega | (simp; done)) | (refine congrArg (fun z => AV.sc (Value.int IntKind.i64 z)) ?_; first | rfl | omega | assumption | (simp; done)) | refine congr (congrArg List.cons ?_) ?_ | (show (_ :: _ : List AV) = _ :: _; refine congr (congrArg List.cons ?_) ?_))
    | exact .fn (allCons (.ptr (by decide)) allNil)
    | exact .fn (allCons (.ptr (by decide)) (allCons (.ptr (by decide)) allNil))
    | exact .fn (allCons (.ptr (by decide)) (allCons (.ptr (by decide)) (allCons (.ptr (by decide)) allNil)))
    | assumption
    | exact (free_GOp _ _).1
    | exact (free_GChannel _ _).1
    | exact (free_GGraph true _ _).1
    | exact (free_GGraph false _ _).1
    | (refine congrArg (fun z => AV.sc (Value.int IntKind.i64 z)) ?_; first | rfl | omega | assumption | (simp; done) | (simp; omega))
    | (refine congrArg (fun z => AV.sc (Value.bool z)) ?_; first | rfl | assumption | (simp; done))
    | (refine congrArg (fun z => AV.ref _ 0 z) ?_; first | rfl | omega | (simp; done) | (simp; omega))
    | (show AV.ref _ 0 _ = AV.ref _ 0 _; congr 1; first | (simp; done) | (simp; omega))
    | (simp [slE, opE, nbF, nbT, nbS, AV.ren, List.map_take, List.map_drop]; done)
    | (simp [slE, opE, nbF, nbT, nbS, AV.ren, List.map_take, List.map_drop, *]; done)
    | (simp [AV.ren, *]; done)
    | exact wkSl rfl
    | exact okSl (by decide)
    | (refine aggV ?_; repeat' first | exact trivial | refine And.intro ?_ ?_ | rfl | exact wkSl rfl | (refine refR rfl ?_; first | rfl | (simp; done) | (simp; omega)))
    | (refine aggOk ?_; repeat' first | exact allNil | refine allCons ?_ ?_ | exact .sc | exact .list | exact .nils | exact .ref (by decide) | exact .ptr (by decide) | exact okSl (by decide) | exact okF | exact okG | exact okFn0)) : P := h
theorem wkB {P : Prop} (h : P := by
  first
    | exact trivial
    | rfl
    | decide
    | exact ⟨_, rfl, rfl, rfl⟩
    | exact okScs rfl
    | (refine ⟨_, rfl, rfl, ref1 ?_⟩; first | rfl | omega | (simp; done) | (simp; omega))
    | exact free_map free_GOp _ _
    | exact free_one (free_GOp _) _
    | exact free_cons free_GOp _ _ _
    | exact free_map free_GChannel _ _
    | exact free_one (free_GChannel _) _
    | exact free_cons free_GChannel _ _ _
    | exact free_map (free_GGraph true) _ _
    | exact free_one ((free_GGraph true) _) _
    | exact free_cons (free_GGraph true) _ _ _
    | exact free_map (free_GGraph false) _ _
    | exact free_one ((free_GGraph false) _) _
    | exact free_cons (free_GGraph false) _ _ _
    | exact free_map (fun _ => freeSc) _ _
    | exact free_one ((fun _ => freeSc) _) _
    | exact free_cons (fun _ => freeSc) _ _ _
    | exact free_map (fun _ => free_encl) _ _
    | exact free_one ((fun _ => free_encl) _) _
    | exact free_cons (fun _ => free_encl) _ _ _
    | (refine ⟨_, rfl, rfl, Eq.trans ?_ (ren_still (still_map still_GOp _) _)⟩; rfl)
    | (refine ⟨_, rfl, rfl, Eq.trans ?_ (ren_still (still_cons still_GOp _ _) _)⟩; rfl)
    | (refine ⟨_, rfl, rfl, Eq.trans ?_ (ren_still (still_map still_GChannel _) _)⟩; rfl)
    | (refine ⟨_, rfl, rfl, Eq.trans ?_ (ren_still (still_cons still_GChannel _ _) _)⟩; rfl)
    | (refine ⟨_, rfl, rfl, Eq.trans ?_ (ren_still (still_map (still_GGraph true) _) _)⟩; rfl)
    | (refine ⟨_, rfl, rfl, Eq.trans ?_ (ren_still (still_cons (still_GGraph true) _ _) _)⟩; rfl)
    | (refine ⟨_, rfl, rfl, Eq.trans ?_ (ren_still (still_map (still_GGraph false) _) _)⟩; rfl)
    | (refine ⟨_, rfl, rfl, Eq.trans ?_ (ren_still (still_cons (still_GGraph false) _ _) _)⟩; rfl)
    | (refine ⟨_, rfl, rfl, Eq.trans ?_ (ren_still (still_map (fun _ => stillSc) _) _)⟩; rfl)
    | (refine ⟨_, rfl, rfl, Eq.trans ?_ (ren_still (still_cons (fun _ => stillSc) _ _) _)⟩; rfl)
    | (refine ⟨_, rfl, rfl, Eq.trans ?_ (ren_still (still_map (fun _ => still_encl) _) _)⟩; rfl)
    | (refine ⟨_, rfl, rfl, Eq.trans ?_ (ren_still (still_cons (fun _ => still_encl) _ _) _)⟩; rfl)
    | (refine ⟨_, rfl, rfl, Eq.trans ?_ (ren_still (still_map still_GOp _) _)⟩; first | (simp; done) | (simp; rfl) | (exact Eq.symm (Eq.trans List.map_append rfl)) | (rw [List.map_append]; rfl) | (rw [List.map_set]; rfl) | (simp [*]; done) | (rw [List.map_replicate]; rfl))
    | (refine ⟨_, rfl, rfl, Eq.trans ?_ (ren_still (still_cons still_GOp _ _) _)⟩; first | (simp; done) | (simp; rfl) | (simp [*]; done))
    | (refine ⟨_, rfl, rfl, Eq.trans ?_ (ren_still (still_map still_GChannel _) _)⟩; first | (simp; done) | (simp; rfl) | (exact Eq.symm (Eq.trans List.map_append rfl)) | (rw [List.map_append]; rfl) | (rw [List.map_set]; rfl) | (simp [*]; done) | (rw [List.map_replicate]; rfl))
    | (refine ⟨_, rfl, rfl, Eq.trans ?_ (ren_still (still_cons still_GChannel _ _) _)⟩; first | (simp; done) | (simp; rfl) | (simp [*]; done))
    | (refine ⟨_, rfl, rfl, Eq.trans ?_ (ren_still (still_map (still_GGraph true) _) _)⟩; first | (simp; done) | (simp; rfl) | (exact Eq.symm (Eq.trans List.map_append rfl)) | (rw [List.map_append]; rfl) | (rw [List.map_set]; rfl) | (simp [*]; done) | (rw [List.map_replicate]; rfl))
    | (refine ⟨_, rfl, rfl, Eq.trans ?_ (ren_still (still_cons (still_GGraph true) _ _) _)⟩; first | (simp; done) | (simp; rfl) | (simp [*]; done))
    | (refine ⟨_, rfl, rfl, Eq.trans ?_ (ren_still (still_map (still_GGraph false) _) _)⟩; first | (simp; done) | (simp; rfl) | (exact Eq.symm (Eq.trans List.map_append rfl)) | (rw [List.map_append]; rfl) | (rw [List.map_set]; rfl) | (simp [*]; done) | (rw [List.map_replicate]; rfl))
    | (refine ⟨_, rfl, rfl, Eq.trans ?_ (ren_still (still_cons (still_GGraph false) _ _) _)⟩; first | (simp; done) | (simp; rfl) | (simp [*]; done))
    | (refine ⟨_, rfl, rfl, Eq.trans ?_ (ren_still (still_map (fun _ => stillSc) _) _)⟩; first | (simp; done) | (simp; rfl) | (exact Eq.symm (Eq.trans List.map_append rfl)) | (rw [List.map_append]; rfl) | (rw [List.map_set]; rfl) | (simp [*]; done) | (rw [List.map_replicate]; rfl))
    | (refine ⟨_, rfl, rfl, Eq.trans ?_ (ren_still (still_cons (fun _ => stillSc) _ _) _)⟩; first | (simp; done) | (simp; rfl) | (simp [*]; done))
    | (refine ⟨_, rfl, rfl, Eq.trans ?_ (ren_still (still_map (fun _ => still_encl) _) _)⟩; first | (simp; done) | (simp; rfl) | (exact Eq.symm (Eq.trans List.map_append rfl)) | (rw [List.map_append]; rfl) | (rw [List.map_set]; rfl) | (simp [*]; done) | (rw [List.map_replicate]; rfl))
    | (refine ⟨_, rfl, rfl, Eq.trans ?_ (ren_still (still_cons (fun _ => still_encl) _ _) _)⟩; first | (simp; done) | (simp; rfl) | (simp [*]; done))
    | (refine ⟨_, rfl, rfl, Eq.trans ?_ (ren_still (still_one (still_GOp _)) _)⟩; simp only [List.length_cons, List.length_map]; rfl)
    | (refine ⟨_, rfl, rfl, Eq.trans ?_ (ren_still (still_one (still_GChannel _)) _)⟩; simp only [List.length_cons, List.length_map]; rfl)
    | (refine ⟨_, rfl, rfl, Eq.trans ?_ (ren_still (still_one ((still_GGraph true) _)) _)⟩; simp only [List.length_cons, List.length_map]; rfl)
    | (refine ⟨_, rfl, rfl, Eq.trans ?_ (ren_still (still_one ((still_GGraph false) _)) _)⟩; simp only [List.length_cons, List.length_map]; rfl)
    | (refine ⟨_, rfl, rfl, Eq.trans ?_ (ren_still (still_one ((fun _ => stillSc) _)) _)⟩; simp only [List.length_cons, List.length_map]; rfl)
    | (refine ⟨_, rfl, rfl, Eq.trans ?_ (ren_still (still_one ((fun _ => still_encl) _)) _)⟩; simp only [List.length_cons, List.length_map]; rfl)
    | (intro e he a ha; rw [List.mem_singleton.1 he] at ha; rw [List.mem_singleton.1 ha]; first | exact .sc | exact .list | exact .nils | exact .ref (by decide) | exact .ptr (by decide) | exact okFn0 | exact .fn (allCons (.ptr (by decide)) allNil) | exact .fn (allCons (.ptr (by decide)) (allCons (.ptr (by decide)) allNil)))
    | (intro e he a ha; simp at he; subst he; simp [AV.cells] at ha; first | (subst ha; exact .sc) | (rcases ha with rfl | rfl | rfl | rfl | rfl <;> exact .sc))
    | (refine focO ?_ ?_; · first | exact okSl (by decide) | exact .ref (by decide) | exact .nils | exact .list
       · first | rfl | exact slE_cells)
    | (refine ⟨_, rfl, rfl, focR (fun _ => still_encl) (by first | rfl | (simp; done)) ?_⟩; first | rfl | (refine focC rfl ?_; first | rfl | (simp; done) | (simp; omega)) | (simp [slE, nbF, AV.ren, thL]; done))
    | (refine ⟨_, rfl, rfl, focR2 (fun _ => still_encl) (by first | rfl | (simp; done)) (by first | rfl | (simp; done)) ?_⟩; first | rfl | (refine focC rfl ?_; first | rfl | (simp; done) | (simp; omega)) | (simp [slE, nbF, AV.ren, thL]; done))
    | (refine ⟨_, rfl, rfl, aggR ?_⟩; repeat' first | exact trivial | refine And.intro ?_ ?_ | rfl | exact wkSl rfl | (refine refR rfl ?_; first | rfl | (simp; done) | (simp; omega)))
    | (refine okAgg ?_; repeat' first | exact allNil | refine allCons ?_ ?_ | exact .sc | exact .list | exact .nils | exact .ref (by decide) | exact .ptr (by decide) | exact okSl (by decide) | exact okF | exact okG | exact okFn0)) : P := h
theorem wkT {P : Program} {nt n0 : Nat} {Q : AExit → St → Mu → Prop} {cf : Cf} {K : List Kn} {μ : Mu} {L L' : List (Nat × AV)} {G G' : List (Nat × Obj)} {n n' : Nat} (θ : List (Nat × Nat)) (h : SemK P nt n0 Q cf K ⟨fr L', hp G', n'⟩ μ)
    (hb : (fixB θ n0 && injB θ (G'.map (·.1)) && Nat.ble n0 n') = true := by rfl) (hL : wkL L θ n' L' := by repeat' first | refine And.intro ?_ ?_ | exact wkA) (hG : wkG G θ n' G' := by repeat' first | refine And.intro ?_ ?_ | exact wkB) : SemK P nt n0 Q cf K ⟨fr L, hp G, n⟩ μ := SemK.weakTo θ h hb hL hG
end Go.Av
namespace Go.D
open Go.Av
def eqb_GOp (x y : GOp) : Bool := ((x.Kind == y.Kind) && ((x.N == y.N) && true))
def eqb_GChannel (x y : GChannel) : Bool := ((x.From == y.From) && ((x.Out == y.Out) && ((x.To == y.To) && ((x.In == y.In) && ((x.Room == y.Room) && true)))))
def wf_GOp (x : GOp) : Prop := wfI .u8 x.Kind ∧ wfI .i64 x.N
def wf_GChannel (x : GChannel) : Prop := wfI .i64 x.From ∧ wfI .i64 x.Out ∧ wfI .i64 x.To ∧ wfI .i64 x.In ∧ wfI .i64 x.Room
def wf_GGraph (x : GGraph) : Prop := (List.length x.Ops ≤ maxLen ∧ ∀ y ∈ x.Ops, wf_GOp y) ∧ (List.length x.Channels ≤ maxLen ∧ ∀ y ∈ x.Channels, wf_GChannel y)
end Go.D
