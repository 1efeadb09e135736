/- Printed by decomp.py: the types of the Go program, as data; their encodings. -/
import Derived.Test.YtioookhnoobpgaaAvc
set_option linter.all false
namespace Go.D
structure GRecord where
  Key : Int
  Time : Int
  Value : Int
  deriving DecidableEq, Inhabited
structure GEvent where
  Mark : Bool
  Time : Int
  Record : GRecord
  deriving DecidableEq, Inhabited
end Go.D
namespace Go.Av
open Go.D
def enc_GRecord (x : GRecord) : AV := .agg [(aI .i64 x.Key), (aI .i64 x.Time), (aI .i64 x.Value)]
theorem flat_GRecord (x : GRecord) : FlatE (enc_GRecord x) := (flatC (flatC (flatC flatN)))
theorem still_GRecord (x : GRecord) : StillE (enc_GRecord x) := fun _ => rfl
theorem free_GRecord (x : GRecord) : FreeE (enc_GRecord x) := flat_free (flat_GRecord x) rfl
theorem cvf_GRecord {m : Bool} {H : Heap} {x : GRecord} : Cv m H (enc_GRecord x) (enc_GRecord x) := cv_flat (flat_GRecord x)
theorem own_GRecord (x : GRecord) : OwnO (enc_GRecord x) := own_flat (flat_GRecord x)
def enc_GEvent (x : GEvent) : AV := .agg [(aB x.Mark), (aI .i64 x.Time), (aI .i64 x.Record.Key), (aI .i64 x.Record.Time), (aI .i64 x.Record.Value)]
theorem flat_GEvent (x : GEvent) : FlatE (enc_GEvent x) := (flatC (flatC (flatC (flatC (flatC flatN)))))
theorem still_GEvent (x : GEvent) : StillE (enc_GEvent x) := fun _ => rfl
theorem free_GEvent (x : GEvent) : FreeE (enc_GEvent x) := flat_free (flat_GEvent x) rfl
theorem cvf_GEvent {m : Bool} {H : Heap} {x : GEvent} : Cv m H (enc_GEvent x) (enc_GEvent x) := cv_flat (flat_GEvent x)
theorem own_GEvent (x : GEvent) : OwnO (enc_GEvent x) := own_flat (flat_GEvent x)
/-- A slot of a canonical state. -/
theorem wkA {P : Prop} (h : P := by
  first
    | exact trivial
    | rfl
    | exact .sc
    | exact .list
    | exact .nils
    | exact .ref (by decide)
    | exact .ptr (by decide)
    | exact okFn0
    | exact .fn (allCons (.ptr (by decide)) allNil)
    | exact .fn (allCons (.ptr (by decide)) (allCons (.ptr (by decide)) allNil))
    | exact .fn (allCons (.ptr (by decide)) (allCons (.ptr (by decide)) (allCons (.ptr (by decide)) allNil)))
    | assumption
    | exact (free_GRecord _ _).1
    | exact (free_GEvent _ _).1
    | (refine congrArg (fun z => AV.sc (Value.int IntKind.i64 z)) ?_; first | rfl | omega | assumption | (simp; done) | (simp; omega))
    | (refine congrArg (fun z => AV.sc (Value.bool z)) ?_; first | rfl | assumption | (simp; done))
    | (refine congrArg (fun z => AV.ref _ 0 z) ?_; first | rfl | omega | (simp; done) | (simp; omega))
    | (show AV.ref _ 0 _ = AV.ref _ 0 _; congr 1; (simp; done))
    | (simp [slB, AV.ren, List.map_take, List.map_drop]; done)
    | (simp [slB, AV.ren, List.map_take, List.map_drop, *]; done)
    | (rw [slB_ne (by simp [*])]; simp [AV.ren, *]; done)) : P := h
/-- An object of a canonical state. -/
theorem wkB {P : Prop} (h : P := by
  first
    | exact trivial
    | rfl
    | decide
    | exact ⟨_, rfl, rfl, rfl⟩
    | exact free_map free_GRecord _ _
    | exact free_one (free_GRecord _) _
    | exact free_cons free_GRecord _ _ _
    | exact free_map free_GEvent _ _
    | exact free_one (free_GEvent _) _
    | exact free_cons free_GEvent _ _ _
    | exact free_map (fun _ => freeSc) _ _
    | exact free_one ((fun _ => freeSc) _) _
    | exact free_cons (fun _ => freeSc) _ _ _
    | exact free_map (fun _ => free_encl) _ _
    | exact free_one ((fun _ => free_encl) _) _
    | exact free_cons (fun _ => free_encl) _ _ _
    | (refine ⟨_, rfl, rfl, Eq.trans ?_ (ren_still (still_map still_GRecord _) _)⟩; rfl)
    | (refine ⟨_, rfl, rfl, Eq.trans ?_ (ren_still (still_cons still_GRecord _ _) _)⟩; rfl)
    | (refine ⟨_, rfl, rfl, Eq.trans ?_ (ren_still (still_map still_GRecord _) _)⟩; (simp; done))
    | (refine ⟨_, rfl, rfl, Eq.trans ?_ (ren_still (still_cons still_GRecord _ _) _)⟩; (simp; done))
    | (refine ⟨_, rfl, rfl, Eq.trans ?_ (ren_still (still_map still_GRecord _) _)⟩; (simp; rfl))
    | (refine ⟨_, rfl, rfl, Eq.trans ?_ (ren_still (still_cons still_GRecord _ _) _)⟩; (simp; rfl))
    | (refine ⟨_, rfl, rfl, Eq.trans ?_ (ren_still (still_map still_GRecord _) _)⟩; (rw [List.map_append]; rfl))
    | (refine ⟨_, rfl, rfl, Eq.trans ?_ (ren_still (still_map still_GRecord _) _)⟩; (rw [List.map_set]; rfl))
    | (refine ⟨_, rfl, rfl, Eq.trans ?_ (ren_still (still_map still_GRecord _) _)⟩; (simp [*]; done))
    | (refine ⟨_, rfl, rfl, Eq.trans ?_ (ren_still (still_cons still_GRecord _ _) _)⟩; (simp [*]; done))
    | (refine ⟨_, rfl, rfl, Eq.trans ?_ (ren_still (still_map still_GEvent _) _)⟩; rfl)
    | (refine ⟨_, rfl, rfl, Eq.trans ?_ (ren_still (still_cons still_GEvent _ _) _)⟩; rfl)
    | (refine ⟨_, rfl, rfl, Eq.trans ?_ (ren_still (still_map still_GEvent _) _)⟩; (simp; done))
    | (refine ⟨_, rfl, rfl, Eq.trans ?_ (ren_still (still_cons still_GEvent _ _) _)⟩; (simp; done))
    | (refine ⟨_, rfl, rfl, Eq.trans ?_ (ren_still (still_map still_GEvent _) _)⟩; (simp; rfl))
    | (refine ⟨_, rfl, rfl, Eq.trans ?_ (ren_still (still_cons still_GEvent _ _) _)⟩; (simp; rfl))
    | (refine ⟨_, rfl, rfl, Eq.trans ?_ (ren_still (still_map still_GEvent _) _)⟩; (rw [List.map_append]; rfl))
    | (refine ⟨_, rfl, rfl, Eq.trans ?_ (ren_still (still_map still_GEvent _) _)⟩; (rw [List.map_set]; rfl))
    | (refine ⟨_, rfl, rfl, Eq.trans ?_ (ren_still (still_map still_GEvent _) _)⟩; (simp [*]; done))
    | (refine ⟨_, rfl, rfl, Eq.trans ?_ (ren_still (still_cons still_GEvent _ _) _)⟩; (simp [*]; done))
    | (refine ⟨_, rfl, rfl, Eq.trans ?_ (ren_still (still_map (fun _ => stillSc) _) _)⟩; rfl)
    | (refine ⟨_, rfl, rfl, Eq.trans ?_ (ren_still (still_cons (fun _ => stillSc) _ _) _)⟩; rfl)
    | (refine ⟨_, rfl, rfl, Eq.trans ?_ (ren_still (still_map (fun _ => stillSc) _) _)⟩; (simp; done))
    | (refine ⟨_, rfl, rfl, Eq.trans ?_ (ren_still (still_cons (fun _ => stillSc) _ _) _)⟩; (simp; done))
    | (refine ⟨_, rfl, rfl, Eq.trans ?_ (ren_still (still_map (fun _ => stillSc) _) _)⟩; (simp; rfl))
    | (refine ⟨_, rfl, rfl, Eq.trans ?_ (ren_still (still_cons (fun _ => stillSc) _ _) _)⟩; (simp; rfl))
    | (refine ⟨_, rfl, rfl, Eq.trans ?_ (ren_still (still_map (fun _ => stillSc) _) _)⟩; (rw [List.map_append]; rfl))
    | (refine ⟨_, rfl, rfl, Eq.trans ?_ (ren_still (still_map (fun _ => stillSc) _) _)⟩; (rw [List.map_set]; rfl))
    | (refine ⟨_, rfl, rfl, Eq.trans ?_ (ren_still (still_map (fun _ => stillSc) _) _)⟩; (simp [*]; done))
    | (refine ⟨_, rfl, rfl, Eq.trans ?_ (ren_still (still_cons (fun _ => stillSc) _ _) _)⟩; (simp [*]; done))
    | (refine ⟨_, rfl, rfl, Eq.trans ?_ (ren_still (still_map (fun _ => still_encl) _) _)⟩; rfl)
    | (refine ⟨_, rfl, rfl, Eq.trans ?_ (ren_still (still_cons (fun _ => still_encl) _ _) _)⟩; rfl)
    | (refine ⟨_, rfl, rfl, Eq.trans ?_ (ren_still (still_map (fun _ => still_encl) _) _)⟩; (simp; done))
    | (refine ⟨_, rfl, rfl, Eq.trans ?_ (ren_still (still_cons (fun _ => still_encl) _ _) _)⟩; (simp; done))
    | (refine ⟨_, rfl, rfl, Eq.trans ?_ (ren_still (still_map (fun _ => still_encl) _) _)⟩; (simp; rfl))
    | (refine ⟨_, rfl, rfl, Eq.trans ?_ (ren_still (still_cons (fun _ => still_encl) _ _) _)⟩; (simp; rfl))
    | (refine ⟨_, rfl, rfl, Eq.trans ?_ (ren_still (still_map (fun _ => still_encl) _) _)⟩; (rw [List.map_append]; rfl))
    | (refine ⟨_, rfl, rfl, Eq.trans ?_ (ren_still (still_map (fun _ => still_encl) _) _)⟩; (rw [List.map_set]; rfl))
    | (refine ⟨_, rfl, rfl, Eq.trans ?_ (ren_still (still_map (fun _ => still_encl) _) _)⟩; (simp [*]; done))
    | (refine ⟨_, rfl, rfl, Eq.trans ?_ (ren_still (still_cons (fun _ => still_encl) _ _) _)⟩; (simp [*]; done))
    | (refine ⟨_, rfl, rfl, Eq.trans ?_ (ren_still (still_one (still_GRecord _)) _)⟩; simp only [List.length_cons, List.length_map]; rfl)
    | (refine ⟨_, rfl, rfl, Eq.trans ?_ (ren_still (still_one (still_GEvent _)) _)⟩; simp only [List.length_cons, List.length_map]; rfl)
    | (refine ⟨_, rfl, rfl, Eq.trans ?_ (ren_still (still_one ((fun _ => stillSc) _)) _)⟩; simp only [List.length_cons, List.length_map]; rfl)
    | (refine ⟨_, rfl, rfl, Eq.trans ?_ (ren_still (still_one ((fun _ => still_encl) _)) _)⟩; simp only [List.length_cons, List.length_map]; rfl)
    | (intro e he a ha; simp at he; subst he; simp [AV.cells] at ha; first | (subst ha; exact .sc) | (rcases ha with rfl | rfl | rfl | rfl | rfl <;> exact .sc))) : P := h
end Go.Av
namespace Go.D
open Go.Av
def eqb_GRecord (x y : GRecord) : Bool := ((x.Key == y.Key) && ((x.Time == y.Time) && ((x.Value == y.Value) && true)))
def eqb_GEvent (x y : GEvent) : Bool := ((x.Mark == y.Mark) && ((x.Time == y.Time) && ((eqb_GRecord x.Record y.Record) && true)))
def wf_GRecord (x : GRecord) : Prop := wfI .i64 x.Key ∧ wfI .i64 x.Time ∧ wfI .i64 x.Value
def wf_GEvent (x : GEvent) : Prop := True ∧ wfI .i64 x.Time ∧ wf_GRecord x.Record
end Go.D
