/- Printed by decomp.py: the types of the Go program, as data; their encodings. -/
import Derived.Test.YtioookhnoobpgaaAvc
set_option linter.all false
namespace Go.D
structure GSpan where
  Start : Int
  End : Int
  deriving DecidableEq, Inhabited
structure GRow where
  Key : Int
  Span : GSpan
  Values : (V2 Int)
  deriving DecidableEq, Inhabited
structure GRecord where
  Key : Int
  Time : Int
  Value : Int
  deriving DecidableEq, Inhabited
structure GOutputs where
  Rows : (List GRow)
  Late : (List GRecord)
  deriving DecidableEq, Inhabited
end Go.D
namespace Go.Av
open Go.D
def enc_GSpan (x : GSpan) : AV := .agg [(aI .i64 x.Start), (aI .i64 x.End)]
theorem flat_GSpan (x : GSpan) : FlatE (enc_GSpan x) := (flatC (flatC flatN))
theorem still_GSpan (x : GSpan) : StillE (enc_GSpan x) := fun _ => rfl
theorem free_GSpan (x : GSpan) : FreeE (enc_GSpan x) := flat_free (flat_GSpan x) rfl
theorem cvf_GSpan {m : Bool} {H : Heap} {x : GSpan} : Cv m H (enc_GSpan x) (enc_GSpan x) := cv_flat (flat_GSpan x)
theorem own_GSpan (x : GSpan) : OwnO (enc_GSpan x) := own_flat (flat_GSpan x)
def encv_V2i64 (x : (V2 Int)) : AV := .agg [(aI .i64 x.e0), (aI .i64 x.e1)]
theorem flat_V2i64 (x : (V2 Int)) : FlatE (encv_V2i64 x) := (flatC (flatC flatN))
theorem still_V2i64 (x : (V2 Int)) : StillE (encv_V2i64 x) := fun _ => rfl
theorem free_V2i64 (x : (V2 Int)) : FreeE (encv_V2i64 x) := flat_free (flat_V2i64 x) rfl
theorem cvf_V2i64 {m : Bool} {H : Heap} {x : (V2 Int)} : Cv m H (encv_V2i64 x) (encv_V2i64 x) := cv_flat (flat_V2i64 x)
theorem own_V2i64 (x : (V2 Int)) : OwnO (encv_V2i64 x) := own_flat (flat_V2i64 x)
def enc_GRow (x : GRow) : AV := .agg [(aI .i64 x.Key), (aI .i64 x.Span.Start), (aI .i64 x.Span.End), (aI .i64 x.Values.e0), (aI .i64 x.Values.e1)]
theorem flat_GRow (x : GRow) : FlatE (enc_GRow x) := (flatC (flatC (flatC (flatC (flatC flatN)))))
theorem still_GRow (x : GRow) : StillE (enc_GRow x) := fun _ => rfl
theorem free_GRow (x : GRow) : FreeE (enc_GRow x) := flat_free (flat_GRow x) rfl
theorem cvf_GRow {m : Bool} {H : Heap} {x : GRow} : Cv m H (enc_GRow x) (enc_GRow x) := cv_flat (flat_GRow x)
theorem own_GRow (x : GRow) : OwnO (enc_GRow x) := own_flat (flat_GRow x)
def enc_GRecord (x : GRecord) : AV := .agg [(aI .i64 x.Key), (aI .i64 x.Time), (aI .i64 x.Value)]
theorem flat_GRecord (x : GRecord) : FlatE (enc_GRecord x) := (flatC (flatC (flatC flatN)))
theorem still_GRecord (x : GRecord) : StillE (enc_GRecord x) := fun _ => rfl
theorem free_GRecord (x : GRecord) : FreeE (enc_GRecord x) := flat_free (flat_GRecord x) rfl
theorem cvf_GRecord {m : Bool} {H : Heap} {x : GRecord} : Cv m H (enc_GRecord x) (enc_GRecord x) := cv_flat (flat_GRecord x)
theorem own_GRecord (x : GRecord) : OwnO (enc_GRecord x) := own_flat (flat_GRecord x)
def enc_GOutputs (o : Bool) (x : GOutputs) : AV := .agg [(AV.list o (List.map enc_GRow x.Rows)), (AV.list o (List.map enc_GRecord x.Late))]
theorem still_GOutputs (o : Bool) (x : GOutputs) : StillE (enc_GOutputs o x) := fun _ => rfl
theorem free_GOutputs (o : Bool) (x : GOutputs) : FreeE (enc_GOutputs o x) := free_agg (fun _ => (allCons .list (allCons .list allNil)))
theorem cva_GOutputs {H : Heap} {o : Bool} {x : GOutputs} : Cv false H (enc_GOutputs o x) (enc_GOutputs false x) := cv_agg (Cvs.cons (cv_list (flat_map flat_GRow _)) (Cvs.cons (cv_list (flat_map flat_GRecord _)) Cvs.nil))
theorem cvt_GOutputs {H : Heap} {o : Bool} {x : GOutputs} : Cv true H (enc_GOutputs o x) (enc_GOutputs o x) := cv_agg (Cvs.cons (.listS rfl) (Cvs.cons (.listS rfl) Cvs.nil))
/-- A slot of a canonical state. -/
theorem wkA {P : Prop} (h : P := by
  first
    | exact trivial
    | rfl
    | exact .sc
    | exact .list
    | exact .nils
    | exact .ref (by decide)
    | exact .ptr (by decide)
    | exact okFn0
    | (refine AV.Ok.tup ?_; repeat' first | exact allNil | refine allCons ?_ ?_ | exact .sc | exact .nils | exact .list | exact .ref (by decide) | exact .ptr (by decide))
    | (refine congrArg AV.tup ?_; repeat' first | rfl | (refine congrArg (fun z => AV.ref _ 0 z) ?_; first | rfl | omega | (simp; done) | (simp; omega)) | (show AV.ref _ 0 _ = AV.ref _ 0 _; congr 1; first | omega | (simp; done)) | (refine congrArg (fun z => AV.sc (Value.int IntKind.i64 z)) ?_; first | rfl | omega | assumption | (simp; done)) | refine congr (congrArg List.cons ?_) ?_ | (show (_ :: _ : List AV) = _ :: _; refine congr (congrArg List.cons ?_) ?_))
    | exact .fn (allCons (.ptr (by decide)) allNil)
    | exact .fn (allCons (.ptr (by decide)) (allCons (.ptr (by decide)) allNil))
    | exact .fn (allCons (.ptr (by decide)) (allCons (.ptr (by decide)) (allCons (.ptr (by decide)) allNil)))
    | assumption
    | exact (free_GSpan _ _).1
    | exact (free_V2i64 _ _).1
    | exact (free_GRow _ _).1
    | exact (free_GRecord _ _).1
    | exact (free_GOutputs true _ _).1
    | exact (free_GOutputs false _ _).1
    | (refine congrArg (fun z => AV.sc (Value.int IntKind.i64 z)) ?_; first | rfl | omega | assumption | (simp; done) | (simp; omega))
    | (refine congrArg (fun z => AV.sc (Value.bool z)) ?_; first | rfl | assumption | (simp; done))
    | (refine congrArg (fun z => AV.ref _ 0 z) ?_; first | rfl | omega | (simp; done) | (simp; omega))
    | (show AV.ref _ 0 _ = AV.ref _ 0 _; congr 1; (simp; done))
    | (simp [slE, opE, nbF, nbT, AV.ren, List.map_take, List.map_drop]; done)
    | (simp [slE, opE, nbF, nbT, AV.ren, List.map_take, List.map_drop, *]; done)
    | (simp [AV.ren, *]; done)) : P := h
/-- An object of a canonical state. -/
theorem wkB {P : Prop} (h : P := by
  first
    | exact trivial
    | rfl
    | decide
    | exact ⟨_, rfl, rfl, rfl⟩
    | (refine ⟨_, rfl, rfl, ref1 ?_⟩; first | rfl | omega | (simp; done) | (simp; omega))
    | exact free_map free_GSpan _ _
    | exact free_one (free_GSpan _) _
    | exact free_cons free_GSpan _ _ _
    | exact free_map free_V2i64 _ _
    | exact free_one (free_V2i64 _) _
    | exact free_cons free_V2i64 _ _ _
    | exact free_map free_GRow _ _
    | exact free_one (free_GRow _) _
    | exact free_cons free_GRow _ _ _
    | exact free_map free_GRecord _ _
    | exact free_one (free_GRecord _) _
    | exact free_cons free_GRecord _ _ _
    | exact free_map (free_GOutputs true) _ _
    | exact free_one ((free_GOutputs true) _) _
    | exact free_cons (free_GOutputs true) _ _ _
    | exact free_map (free_GOutputs false) _ _
    | exact free_one ((free_GOutputs false) _) _
    | exact free_cons (free_GOutputs false) _ _ _
    | exact free_map (fun _ => freeSc) _ _
    | exact free_one ((fun _ => freeSc) _) _
    | exact free_cons (fun _ => freeSc) _ _ _
    | exact free_map (fun _ => free_encl) _ _
    | exact free_one ((fun _ => free_encl) _) _
    | exact free_cons (fun _ => free_encl) _ _ _
    | (refine ⟨_, rfl, rfl, Eq.trans ?_ (ren_still (still_map still_GSpan _) _)⟩; rfl)
    | (refine ⟨_, rfl, rfl, Eq.trans ?_ (ren_still (still_cons still_GSpan _ _) _)⟩; rfl)
    | (refine ⟨_, rfl, rfl, Eq.trans ?_ (ren_still (still_map still_GSpan _) _)⟩; (simp; done))
    | (refine ⟨_, rfl, rfl, Eq.trans ?_ (ren_still (still_cons still_GSpan _ _) _)⟩; (simp; done))
    | (refine ⟨_, rfl, rfl, Eq.trans ?_ (ren_still (still_map still_GSpan _) _)⟩; (simp; rfl))
    | (refine ⟨_, rfl, rfl, Eq.trans ?_ (ren_still (still_cons still_GSpan _ _) _)⟩; (simp; rfl))
    | (refine ⟨_, rfl, rfl, Eq.trans ?_ (ren_still (still_map still_GSpan _) _)⟩; (rw [List.map_append]; rfl))
    | (refine ⟨_, rfl, rfl, Eq.trans ?_ (ren_still (still_map still_GSpan _) _)⟩; (rw [List.map_set]; rfl))
    | (refine ⟨_, rfl, rfl, Eq.trans ?_ (ren_still (still_map still_GSpan _) _)⟩; (simp [*]; done))
    | (refine ⟨_, rfl, rfl, Eq.trans ?_ (ren_still (still_cons still_GSpan _ _) _)⟩; (simp [*]; done))
    | (refine ⟨_, rfl, rfl, Eq.trans ?_ (ren_still (still_map still_GSpan _) _)⟩; (rw [List.map_replicate]; rfl))
    | (refine ⟨_, rfl, rfl, Eq.trans ?_ (ren_still (still_map still_V2i64 _) _)⟩; rfl)
    | (refine ⟨_, rfl, rfl, Eq.trans ?_ (ren_still (still_cons still_V2i64 _ _) _)⟩; rfl)
    | (refine ⟨_, rfl, rfl, Eq.trans ?_ (ren_still (still_map still_V2i64 _) _)⟩; (simp; done))
    | (refine ⟨_, rfl, rfl, Eq.trans ?_ (ren_still (still_cons still_V2i64 _ _) _)⟩; (simp; done))
    | (refine ⟨_, rfl, rfl, Eq.trans ?_ (ren_still (still_map still_V2i64 _) _)⟩; (simp; rfl))
    | (refine ⟨_, rfl, rfl, Eq.trans ?_ (ren_still (still_cons still_V2i64 _ _) _)⟩; (simp; rfl))
    | (refine ⟨_, rfl, rfl, Eq.trans ?_ (ren_still (still_map still_V2i64 _) _)⟩; (rw [List.map_append]; rfl))
    | (refine ⟨_, rfl, rfl, Eq.trans ?_ (ren_still (still_map still_V2i64 _) _)⟩; (rw [List.map_set]; rfl))
    | (refine ⟨_, rfl, rfl, Eq.trans ?_ (ren_still (still_map still_V2i64 _) _)⟩; (simp [*]; done))
    | (refine ⟨_, rfl, rfl, Eq.trans ?_ (ren_still (still_cons still_V2i64 _ _) _)⟩; (simp [*]; done))
    | (refine ⟨_, rfl, rfl, Eq.trans ?_ (ren_still (still_map still_V2i64 _) _)⟩; (rw [List.map_replicate]; rfl))
    | (refine ⟨_, rfl, rfl, Eq.trans ?_ (ren_still (still_map still_GRow _) _)⟩; rfl)
    | (refine ⟨_, rfl, rfl, Eq.trans ?_ (ren_still (still_cons still_GRow _ _) _)⟩; rfl)
    | (refine ⟨_, rfl, rfl, Eq.trans ?_ (ren_still (still_map still_GRow _) _)⟩; (simp; done))
    | (refine ⟨_, rfl, rfl, Eq.trans ?_ (ren_still (still_cons still_GRow _ _) _)⟩; (simp; done))
    | (refine ⟨_, rfl, rfl, Eq.trans ?_ (ren_still (still_map still_GRow _) _)⟩; (simp; rfl))
    | (refine ⟨_, rfl, rfl, Eq.trans ?_ (ren_still (still_cons still_GRow _ _) _)⟩; (simp; rfl))
    | (refine ⟨_, rfl, rfl, Eq.trans ?_ (ren_still (still_map still_GRow _) _)⟩; (rw [List.map_append]; rfl))
    | (refine ⟨_, rfl, rfl, Eq.trans ?_ (ren_still (still_map still_GRow _) _)⟩; (rw [List.map_set]; rfl))
    | (refine ⟨_, rfl, rfl, Eq.trans ?_ (ren_still (still_map still_GRow _) _)⟩; (simp [*]; done))
    | (refine ⟨_, rfl, rfl, Eq.trans ?_ (ren_still (still_cons still_GRow _ _) _)⟩; (simp [*]; done))
    | (refine ⟨_, rfl, rfl, Eq.trans ?_ (ren_still (still_map still_GRow _) _)⟩; (rw [List.map_replicate]; rfl))
    | (refine ⟨_, rfl, rfl, Eq.trans ?_ (ren_still (still_map still_GRecord _) _)⟩; rfl)
    | (refine ⟨_, rfl, rfl, Eq.trans ?_ (ren_still (still_cons still_GRecord _ _) _)⟩; rfl)
    | (refine ⟨_, rfl, rfl, Eq.trans ?_ (ren_still (still_map still_GRecord _) _)⟩; (simp; done))
    | (refine ⟨_, rfl, rfl, Eq.trans ?_ (ren_still (still_cons still_GRecord _ _) _)⟩; (simp; done))
    | (refine ⟨_, rfl, rfl, Eq.trans ?_ (ren_still (still_map still_GRecord _) _)⟩; (simp; rfl))
    | (refine ⟨_, rfl, rfl, Eq.trans ?_ (ren_still (still_cons still_GRecord _ _) _)⟩; (simp; rfl))
    | (refine ⟨_, rfl, rfl, Eq.trans ?_ (ren_still (still_map still_GRecord _) _)⟩; (rw [List.map_append]; rfl))
    | (refine ⟨_, rfl, rfl, Eq.trans ?_ (ren_still (still_map still_GRecord _) _)⟩; (rw [List.map_set]; rfl))
    | (refine ⟨_, rfl, rfl, Eq.trans ?_ (ren_still (still_map still_GRecord _) _)⟩; (simp [*]; done))
    | (refine ⟨_, rfl, rfl, Eq.trans ?_ (ren_still (still_cons still_GRecord _ _) _)⟩; (simp [*]; done))
    | (refine ⟨_, rfl, rfl, Eq.trans ?_ (ren_still (still_map still_GRecord _) _)⟩; (rw [List.map_replicate]; rfl))
    | (refine ⟨_, rfl, rfl, Eq.trans ?_ (ren_still (still_map (still_GOutputs true) _) _)⟩; rfl)
    | (refine ⟨_, rfl, rfl, Eq.trans ?_ (ren_still (still_cons (still_GOutputs true) _ _) _)⟩; rfl)
    | (refine ⟨_, rfl, rfl, Eq.trans ?_ (ren_still (still_map (still_GOutputs true) _) _)⟩; (simp; done))
    | (refine ⟨_, rfl, rfl, Eq.trans ?_ (ren_still (still_cons (still_GOutputs true) _ _) _)⟩; (simp; done))
    | (refine ⟨_, rfl, rfl, Eq.trans ?_ (ren_still (still_map (still_GOutputs true) _) _)⟩; (simp; rfl))
    | (refine ⟨_, rfl, rfl, Eq.trans ?_ (ren_still (still_cons (still_GOutputs true) _ _) _)⟩; (simp; rfl))
    | (refine ⟨_, rfl, rfl, Eq.trans ?_ (ren_still (still_map (still_GOutputs true) _) _)⟩; (rw [List.map_append]; rfl))
    | (refine ⟨_, rfl, rfl, Eq.trans ?_ (ren_still (still_map (still_GOutputs true) _) _)⟩; (rw [List.map_set]; rfl))
    | (refine ⟨_, rfl, rfl, Eq.trans ?_ (ren_still (still_map (still_GOutputs true) _) _)⟩; (simp [*]; done))
    | (refine ⟨_, rfl, rfl, Eq.trans ?_ (ren_still (still_cons (still_GOutputs true) _ _) _)⟩; (simp [*]; done))
    | (refine ⟨_, rfl, rfl, Eq.trans ?_ (ren_still (still_map (still_GOutputs true) _) _)⟩; (rw [List.map_replicate]; rfl))
    | (refine ⟨_, rfl, rfl, Eq.trans ?_ (ren_still (still_map (still_GOutputs false) _) _)⟩; rfl)
    | (refine ⟨_, rfl, rfl, Eq.trans ?_ (ren_still (still_cons (still_GOutputs false) _ _) _)⟩; rfl)
    | (refine ⟨_, rfl, rfl, Eq.trans ?_ (ren_still (still_map (still_GOutputs false) _) _)⟩; (simp; done))
    | (refine ⟨_, rfl, rfl, Eq.trans ?_ (ren_still (still_cons (still_GOutputs false) _ _) _)⟩; (simp; done))
    | (refine ⟨_, rfl, rfl, Eq.trans ?_ (ren_still (still_map (still_GOutputs false) _) _)⟩; (simp; rfl))
    | (refine ⟨_, rfl, rfl, Eq.trans ?_ (ren_still (still_cons (still_GOutputs false) _ _) _)⟩; (simp; rfl))
    | (refine ⟨_, rfl, rfl, Eq.trans ?_ (ren_still (still_map (still_GOutputs false) _) _)⟩; (rw [List.map_append]; rfl))
    | (refine ⟨_, rfl, rfl, Eq.trans ?_ (ren_still (still_map (still_GOutputs false) _) _)⟩; (rw [List.map_set]; rfl))
    | (refine ⟨_, rfl, rfl, Eq.trans ?_ (ren_still (still_map (still_GOutputs false) _) _)⟩; (simp [*]; done))
    | (refine ⟨_, rfl, rfl, Eq.trans ?_ (ren_still (still_cons (still_GOutputs false) _ _) _)⟩; (simp [*]; done))
    | (refine ⟨_, rfl, rfl, Eq.trans ?_ (ren_still (still_map (still_GOutputs false) _) _)⟩; (rw [List.map_replicate]; rfl))
    | (refine ⟨_, rfl, rfl, Eq.trans ?_ (ren_still (still_map (fun _ => stillSc) _) _)⟩; rfl)
    | (refine ⟨_, rfl, rfl, Eq.trans ?_ (ren_still (still_cons (fun _ => stillSc) _ _) _)⟩; rfl)
    | (refine ⟨_, rfl, rfl, Eq.trans ?_ (ren_still (still_map (fun _ => stillSc) _) _)⟩; (simp; done))
    | (refine ⟨_, rfl, rfl, Eq.trans ?_ (ren_still (still_cons (fun _ => stillSc) _ _) _)⟩; (simp; done))
    | (refine ⟨_, rfl, rfl, Eq.trans ?_ (ren_still (still_map (fun _ => stillSc) _) _)⟩; (simp; rfl))
    | (refine ⟨_, rfl, rfl, Eq.trans ?_ (ren_still (still_cons (fun _ => stillSc) _ _) _)⟩; (simp; rfl))
    | (refine ⟨_, rfl, rfl, Eq.trans ?_ (ren_still (still_map (fun _ => stillSc) _) _)⟩; (rw [List.map_append]; rfl))
    | (refine ⟨_, rfl, rfl, Eq.trans ?_ (ren_still (still_map (fun _ => stillSc) _) _)⟩; (rw [List.map_set]; rfl))
    | (refine ⟨_, rfl, rfl, Eq.trans ?_ (ren_still (still_map (fun _ => stillSc) _) _)⟩; (simp [*]; done))
    | (refine ⟨_, rfl, rfl, Eq.trans ?_ (ren_still (still_cons (fun _ => stillSc) _ _) _)⟩; (simp [*]; done))
    | (refine ⟨_, rfl, rfl, Eq.trans ?_ (ren_still (still_map (fun _ => stillSc) _) _)⟩; (rw [List.map_replicate]; rfl))
    | (refine ⟨_, rfl, rfl, Eq.trans ?_ (ren_still (still_map (fun _ => still_encl) _) _)⟩; rfl)
    | (refine ⟨_, rfl, rfl, Eq.trans ?_ (ren_still (still_cons (fun _ => still_encl) _ _) _)⟩; rfl)
    | (refine ⟨_, rfl, rfl, Eq.trans ?_ (ren_still (still_map (fun _ => still_encl) _) _)⟩; (simp; done))
    | (refine ⟨_, rfl, rfl, Eq.trans ?_ (ren_still (still_cons (fun _ => still_encl) _ _) _)⟩; (simp; done))
    | (refine ⟨_, rfl, rfl, Eq.trans ?_ (ren_still (still_map (fun _ => still_encl) _) _)⟩; (simp; rfl))
    | (refine ⟨_, rfl, rfl, Eq.trans ?_ (ren_still (still_cons (fun _ => still_encl) _ _) _)⟩; (simp; rfl))
    | (refine ⟨_, rfl, rfl, Eq.trans ?_ (ren_still (still_map (fun _ => still_encl) _) _)⟩; (rw [List.map_append]; rfl))
    | (refine ⟨_, rfl, rfl, Eq.trans ?_ (ren_still (still_map (fun _ => still_encl) _) _)⟩; (rw [List.map_set]; rfl))
    | (refine ⟨_, rfl, rfl, Eq.trans ?_ (ren_still (still_map (fun _ => still_encl) _) _)⟩; (simp [*]; done))
    | (refine ⟨_, rfl, rfl, Eq.trans ?_ (ren_still (still_cons (fun _ => still_encl) _ _) _)⟩; (simp [*]; done))
    | (refine ⟨_, rfl, rfl, Eq.trans ?_ (ren_still (still_map (fun _ => still_encl) _) _)⟩; (rw [List.map_replicate]; rfl))
    | (refine ⟨_, rfl, rfl, Eq.trans ?_ (ren_still (still_one (still_GSpan _)) _)⟩; simp only [List.length_cons, List.length_map]; rfl)
    | (refine ⟨_, rfl, rfl, Eq.trans ?_ (ren_still (still_one (still_V2i64 _)) _)⟩; simp only [List.length_cons, List.length_map]; rfl)
    | (refine ⟨_, rfl, rfl, Eq.trans ?_ (ren_still (still_one (still_GRow _)) _)⟩; simp only [List.length_cons, List.length_map]; rfl)
    | (refine ⟨_, rfl, rfl, Eq.trans ?_ (ren_still (still_one (still_GRecord _)) _)⟩; simp only [List.length_cons, List.length_map]; rfl)
    | (refine ⟨_, rfl, rfl, Eq.trans ?_ (ren_still (still_one ((still_GOutputs true) _)) _)⟩; simp only [List.length_cons, List.length_map]; rfl)
    | (refine ⟨_, rfl, rfl, Eq.trans ?_ (ren_still (still_one ((still_GOutputs false) _)) _)⟩; simp only [List.length_cons, List.length_map]; rfl)
    | (refine ⟨_, rfl, rfl, Eq.trans ?_ (ren_still (still_one ((fun _ => stillSc) _)) _)⟩; simp only [List.length_cons, List.length_map]; rfl)
    | (refine ⟨_, rfl, rfl, Eq.trans ?_ (ren_still (still_one ((fun _ => still_encl) _)) _)⟩; simp only [List.length_cons, List.length_map]; rfl)
    | (intro e he a ha; rw [List.mem_singleton.1 he] at ha; rw [List.mem_singleton.1 ha]; first | exact .sc | exact .list | exact .nils | exact .ref (by decide) | exact .ptr (by decide) | exact okFn0)
    | (intro e he a ha; simp at he; subst he; simp [AV.cells] at ha; first | (subst ha; exact .sc) | (rcases ha with rfl | rfl | rfl | rfl | rfl <;> exact .sc))) : P := h
end Go.Av
namespace Go.D
open Go.Av
def eqb_GSpan (x y : GSpan) : Bool := ((x.Start == y.Start) && ((x.End == y.End) && true))
def eqb_V2i64 (x y : (V2 Int)) : Bool := ((x.e0 == y.e0) && ((x.e1 == y.e1) && true))
def eqb_GRow (x y : GRow) : Bool := ((x.Key == y.Key) && ((eqb_GSpan x.Span y.Span) && ((eqb_V2i64 x.Values y.Values) && true)))
def eqb_GRecord (x y : GRecord) : Bool := ((x.Key == y.Key) && ((x.Time == y.Time) && ((x.Value == y.Value) && true)))
def wf_GSpan (x : GSpan) : Prop := wfI .i64 x.Start ∧ wfI .i64 x.End
def wf_V2i64 (x : (V2 Int)) : Prop := wfI .i64 x.e0 ∧ wfI .i64 x.e1
def wf_GRow (x : GRow) : Prop := wfI .i64 x.Key ∧ wf_GSpan x.Span ∧ wf_V2i64 x.Values
def wf_GRecord (x : GRecord) : Prop := wfI .i64 x.Key ∧ wfI .i64 x.Time ∧ wfI .i64 x.Value
def wf_GOutputs (x : GOutputs) : Prop := (List.length x.Rows ≤ maxLen ∧ ∀ y ∈ x.Rows, wf_GRow y) ∧ (List.length x.Late ≤ maxLen ∧ ∀ y ∈ x.Late, wf_GRecord y)
end Go.D
