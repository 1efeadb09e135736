/- Printed by decomp.py: the types of the Go program, as data; their encodings. -/
import Derived.Test.YtneciiakpbfnjaaGreatAvc
set_option linter.all false
namespace Go.D
structure GOp where
  Kind : Int
  N : Int
  deriving DecidableEq, Inhabited
structure GRecord where
  Key : Int
  Time : Int
  Value : Int
  deriving DecidableEq, Inhabited
structure GSpan where
  Start : Int
  End : Int
  deriving DecidableEq, Inhabited
structure GRow where
  Key : Int
  Span : GSpan
  Values : (V2 Int)
  deriving DecidableEq, Inhabited
structure GMessage where
  Kind : Int
  Record : GRecord
  Time : Int
  Row : GRow
  deriving DecidableEq, Inhabited
structure GSend where
  Out : Int
  Message : GMessage
  deriving DecidableEq, Inhabited
structure GAccum where
  Count : Int
  Sum : Int
  Min : Int
  Max : Int
  deriving DecidableEq, Inhabited
structure GEntry where
  Key : Int
  Span : GSpan
  Values : (V2 GAccum)
  deriving DecidableEq, Inhabited
structure GEvent where
  Mark : Bool
  Time : Int
  Record : GRecord
  deriving DecidableEq, Inhabited
structure GTask where
  Op : GOp
  Turn : Int
  Pending : (List GSend)
  Marks : (List Int)
  Store : (List GEntry)
  Events : (List GEvent)
  Rows : (List GRow)
  Late : (List GRecord)
  deriving DecidableEq, Inhabited
structure GNode where
  Kind : Int
  N : Int
  A : Int
  B : Int
  At : Int
  deriving DecidableEq, Inhabited
structure GWindow where
  Kind : Int
  Size : Int
  Every : Int
  deriving DecidableEq, Inhabited
structure GQuery where
  Agg : Int
  Arg : (List GNode)
  Sources : (List Int)
  Join : Bool
  Where : (List GNode)
  Window : GWindow
  ByKey : Bool
  Late : Int
  deriving DecidableEq, Inhabited
structure Gnodes_top where
  at_ : Int
  size : Int
  depth : Int
  deriving DecidableEq, Inhabited
end Go.D
namespace Go.Av
open Go.D
def enc_GOp (x : GOp) : AV := .agg [(aI .u8 x.Kind), (aI .i64 x.N)]
theorem flat_GOp (x : GOp) : FlatE (enc_GOp x) := (flatC (flatC flatN))
theorem still_GOp (x : GOp) : StillE (enc_GOp x) := fun _ => rfl
theorem free_GOp (x : GOp) : FreeE (enc_GOp x) := flat_free (flat_GOp x) rfl
theorem cvf_GOp {m : Bool} {H : Heap} {x : GOp} : Cv m H (enc_GOp x) (enc_GOp x) := cv_flat (flat_GOp x)
theorem own_GOp (x : GOp) : OwnO (enc_GOp x) := own_flat (flat_GOp x)
def enc_GRecord (x : GRecord) : AV := .agg [(aI .i64 x.Key), (aI .i64 x.Time), (aI .i64 x.Value)]
theorem flat_GRecord (x : GRecord) : FlatE (enc_GRecord x) := (flatC (flatC (flatC flatN)))
theorem still_GRecord (x : GRecord) : StillE (enc_GRecord x) := fun _ => rfl
theorem free_GRecord (x : GRecord) : FreeE (enc_GRecord x) := flat_free (flat_GRecord x) rfl
theorem cvf_GRecord {m : Bool} {H : Heap} {x : GRecord} : Cv m H (enc_GRecord x) (enc_GRecord x) := cv_flat (flat_GRecord x)
theorem own_GRecord (x : GRecord) : OwnO (enc_GRecord x) := own_flat (flat_GRecord x)
def enc_GSpan (x : GSpan) : AV := .agg [(aI .i64 x.Start), (aI .i64 x.End)]
theorem flat_GSpan (x : GSpan) : FlatE (enc_GSpan x) := (flatC (flatC flatN))
theorem still_GSpan (x : GSpan) : StillE (enc_GSpan x) := fun _ => rfl
theorem free_GSpan (x : GSpan) : FreeE (enc_GSpan x) := flat_free (flat_GSpan x) rfl
theorem cvf_GSpan {m : Bool} {H : Heap} {x : GSpan} : Cv m H (enc_GSpan x) (enc_GSpan x) := cv_flat (flat_GSpan x)
theorem own_GSpan (x : GSpan) : OwnO (enc_GSpan x) := own_flat (flat_GSpan x)
def encv_V2i64 (x : (V2 Int)) : AV := .agg [(aI .i64 x.e0), (aI .i64 x.e1)]
theorem flat_V2i64 (x : (V2 Int)) : FlatE (encv_V2i64 x) := (flatC (flatC flatN))
theorem still_V2i64 (x : (V2 Int)) : StillE (encv_V2i64 x) := fun _ => rfl
theorem free_V2i64 (x : (V2 Int)) : FreeE (encv_V2i64 x) := flat_free (flat_V2i64 x) rfl
theorem cvf_V2i64 {m : Bool} {H : Heap} {x : (V2 Int)} : Cv m H (encv_V2i64 x) (encv_V2i64 x) := cv_flat (flat_V2i64 x)
theorem own_V2i64 (x : (V2 Int)) : OwnO (encv_V2i64 x) := own_flat (flat_V2i64 x)
def enc_GRow (x : GRow) : AV := .agg [(aI .i64 x.Key), (aI .i64 x.Span.Start), (aI .i64 x.Span.End), (aI .i64 x.Values.e0), (aI .i64 x.Values.e1)]
theorem flat_GRow (x : GRow) : FlatE (enc_GRow x) := (flatC (flatC (flatC (flatC (flatC flatN)))))
theorem still_GRow (x : GRow) : StillE (enc_GRow x) := fun _ => rfl
theorem free_GRow (x : GRow) : FreeE (enc_GRow x) := flat_free (flat_GRow x) rfl
theorem cvf_GRow {m : Bool} {H : Heap} {x : GRow} : Cv m H (enc_GRow x) (enc_GRow x) := cv_flat (flat_GRow x)
theorem own_GRow (x : GRow) : OwnO (enc_GRow x) := own_flat (flat_GRow x)
def enc_GMessage (x : GMessage) : AV := .agg [(aI .u8 x.Kind), (aI .i64 x.Record.Key), (aI .i64 x.Record.Time), (aI .i64 x.Record.Value), (aI .i64 x.Time), (aI .i64 x.Row.Key), (aI .i64 x.Row.Span.Start), (aI .i64 x.Row.Span.End), (aI .i64 x.Row.Values.e0), (aI .i64 x.Row.Values.e1)]
theorem flat_GMessage (x : GMessage) : FlatE (enc_GMessage x) := (flatC (flatC (flatC (flatC (flatC (flatC (flatC (flatC (flatC (flatC flatN))))))))))
theorem still_GMessage (x : GMessage) : StillE (enc_GMessage x) := fun _ => rfl
theorem free_GMessage (x : GMessage) : FreeE (enc_GMessage x) := flat_free (flat_GMessage x) rfl
theorem cvf_GMessage {m : Bool} {H : Heap} {x : GMessage} : Cv m H (enc_GMessage x) (enc_GMessage x) := cv_flat (flat_GMessage x)
theorem own_GMessage (x : GMessage) : OwnO (enc_GMessage x) := own_flat (flat_GMessage x)
def enc_GSend (x : GSend) : AV := .agg [(aI .i64 x.Out), (aI .u8 x.Message.Kind), (aI .i64 x.Message.Record.Key), (aI .i64 x.Message.Record.Time), (aI .i64 x.Message.Record.Value), (aI .i64 x.Message.Time), (aI .i64 x.Message.Row.Key), (aI .i64 x.Message.Row.Span.Start), (aI .i64 x.Message.Row.Span.End), (aI .i64 x.Message.Row.Values.e0), (aI .i64 x.Message.Row.Values.e1)]
theorem flat_GSend (x : GSend) : FlatE (enc_GSend x) := (flatC (flatC (flatC (flatC (flatC (flatC (flatC (flatC (flatC (flatC (flatC flatN)))))))))))
theorem still_GSend (x : GSend) : StillE (enc_GSend x) := fun _ => rfl
theorem free_GSend (x : GSend) : FreeE (enc_GSend x) := flat_free (flat_GSend x) rfl
theorem cvf_GSend {m : Bool} {H : Heap} {x : GSend} : Cv m H (enc_GSend x) (enc_GSend x) := cv_flat (flat_GSend x)
theorem own_GSend (x : GSend) : OwnO (enc_GSend x) := own_flat (flat_GSend x)
def enc_GAccum (x : GAccum) : AV := .agg [(aI .i64 x.Count), (aI .i64 x.Sum), (aI .i64 x.Min), (aI .i64 x.Max)]
theorem flat_GAccum (x : GAccum) : FlatE (enc_GAccum x) := (flatC (flatC (flatC (flatC flatN))))
theorem still_GAccum (x : GAccum) : StillE (enc_GAccum x) := fun _ => rfl
theorem free_GAccum (x : GAccum) : FreeE (enc_GAccum x) := flat_free (flat_GAccum x) rfl
theorem cvf_GAccum {m : Bool} {H : Heap} {x : GAccum} : Cv m H (enc_GAccum x) (enc_GAccum x) := cv_flat (flat_GAccum x)
theorem own_GAccum (x : GAccum) : OwnO (enc_GAccum x) := own_flat (flat_GAccum x)
def encv_V2GAccum (x : (V2 GAccum)) : AV := .agg [(aI .i64 x.e0.Count), (aI .i64 x.e0.Sum), (aI .i64 x.e0.Min), (aI .i64 x.e0.Max), (aI .i64 x.e1.Count), (aI .i64 x.e1.Sum), (aI .i64 x.e1.Min), (aI .i64 x.e1.Max)]
theorem flat_V2GAccum (x : (V2 GAccum)) : FlatE (encv_V2GAccum x) := (flatC (flatC (flatC (flatC (flatC (flatC (flatC (flatC flatN))))))))
theorem still_V2GAccum (x : (V2 GAccum)) : StillE (encv_V2GAccum x) := fun _ => rfl
theorem free_V2GAccum (x : (V2 GAccum)) : FreeE (encv_V2GAccum x) := flat_free (flat_V2GAccum x) rfl
theorem cvf_V2GAccum {m : Bool} {H : Heap} {x : (V2 GAccum)} : Cv m H (encv_V2GAccum x) (encv_V2GAccum x) := cv_flat (flat_V2GAccum x)
theorem own_V2GAccum (x : (V2 GAccum)) : OwnO (encv_V2GAccum x) := own_flat (flat_V2GAccum x)
def enc_GEntry (x : GEntry) : AV := .agg [(aI .i64 x.Key), (aI .i64 x.Span.Start), (aI .i64 x.Span.End), (aI .i64 x.Values.e0.Count), (aI .i64 x.Values.e0.Sum), (aI .i64 x.Values.e0.Min), (aI .i64 x.Values.e0.Max), (aI .i64 x.Values.e1.Count), (aI .i64 x.Values.e1.Sum), (aI .i64 x.Values.e1.Min), (aI .i64 x.Values.e1.Max)]
theorem flat_GEntry (x : GEntry) : FlatE (enc_GEntry x) := (flatC (flatC (flatC (flatC (flatC (flatC (flatC (flatC (flatC (flatC (flatC flatN)))))))))))
theorem still_GEntry (x : GEntry) : StillE (enc_GEntry x) := fun _ => rfl
theorem free_GEntry (x : GEntry) : FreeE (enc_GEntry x) := flat_free (flat_GEntry x) rfl
theorem cvf_GEntry {m : Bool} {H : Heap} {x : GEntry} : Cv m H (enc_GEntry x) (enc_GEntry x) := cv_flat (flat_GEntry x)
theorem own_GEntry (x : GEntry) : OwnO (enc_GEntry x) := own_flat (flat_GEntry x)
def enc_GEvent (x : GEvent) : AV := .agg [(aB x.Mark), (aI .i64 x.Time), (aI .i64 x.Record.Key), (aI .i64 x.Record.Time), (aI .i64 x.Record.Value)]
theorem flat_GEvent (x : GEvent) : FlatE (enc_GEvent x) := (flatC (flatC (flatC (flatC (flatC flatN)))))
theorem still_GEvent (x : GEvent) : StillE (enc_GEvent x) := fun _ => rfl
theorem free_GEvent (x : GEvent) : FreeE (enc_GEvent x) := flat_free (flat_GEvent x) rfl
theorem cvf_GEvent {m : Bool} {H : Heap} {x : GEvent} : Cv m H (enc_GEvent x) (enc_GEvent x) := cv_flat (flat_GEvent x)
theorem own_GEvent (x : GEvent) : OwnO (enc_GEvent x) := own_flat (flat_GEvent x)
def enc_GTask (o : Bool) (x : GTask) : AV := .agg [(aI .u8 x.Op.Kind), (aI .i64 x.Op.N), (aI .i64 x.Turn), (AV.list o (List.map enc_GSend x.Pending)), (AV.list o (List.map (aI .i64) x.Marks)), (AV.list o (List.map enc_GEntry x.Store)), (AV.list o (List.map enc_GEvent x.Events)), (AV.list o (List.map enc_GRow x.Rows)), (AV.list o (List.map enc_GRecord x.Late))]
theorem still_GTask (o : Bool) (x : GTask) : StillE (enc_GTask o x) := fun _ => rfl
theorem free_GTask (o : Bool) (x : GTask) : FreeE (enc_GTask o x) := free_agg (fun _ => (allCons .sc (allCons .sc (allCons .sc (allCons .list (allCons .list (allCons .list (allCons .list (allCons .list (allCons .list allNil))))))))))
theorem cva_GTask {H : Heap} {o : Bool} {x : GTask} : Cv false H (enc_GTask o x) (enc_GTask false x) := cv_agg (Cvs.cons .sc (Cvs.cons .sc (Cvs.cons .sc (Cvs.cons (cv_list (flat_map flat_GSend _)) (Cvs.cons (cv_list (flat_map (fun _ => flatSc) _)) (Cvs.cons (cv_list (flat_map flat_GEntry _)) (Cvs.cons (cv_list (flat_map flat_GEvent _)) (Cvs.cons (cv_list (flat_map flat_GRow _)) (Cvs.cons (cv_list (flat_map flat_GRecord _)) Cvs.nil)))))))))
theorem cvt_GTask {H : Heap} {o : Bool} {x : GTask} : Cv true H (enc_GTask o x) (enc_GTask o x) := cv_agg (Cvs.cons .sc (Cvs.cons .sc (Cvs.cons .sc (Cvs.cons (.listS rfl) (Cvs.cons (.listS rfl) (Cvs.cons (.listS rfl) (Cvs.cons (.listS rfl) (Cvs.cons (.listS rfl) (Cvs.cons (.listS rfl) Cvs.nil)))))))))
def enc_GNode (x : GNode) : AV := .agg [(aI .u8 x.Kind), (aI .i64 x.N), (aI .i64 x.A), (aI .i64 x.B), (aI .i64 x.At)]
theorem flat_GNode (x : GNode) : FlatE (enc_GNode x) := (flatC (flatC (flatC (flatC (flatC flatN)))))
theorem still_GNode (x : GNode) : StillE (enc_GNode x) := fun _ => rfl
theorem free_GNode (x : GNode) : FreeE (enc_GNode x) := flat_free (flat_GNode x) rfl
theorem cvf_GNode {m : Bool} {H : Heap} {x : GNode} : Cv m H (enc_GNode x) (enc_GNode x) := cv_flat (flat_GNode x)
theorem own_GNode (x : GNode) : OwnO (enc_GNode x) := own_flat (flat_GNode x)
def enc_GWindow (x : GWindow) : AV := .agg [(aI .u8 x.Kind), (aI .i64 x.Size), (aI .i64 x.Every)]
theorem flat_GWindow (x : GWindow) : FlatE (enc_GWindow x) := (flatC (flatC (flatC flatN)))
theorem still_GWindow (x : GWindow) : StillE (enc_GWindow x) := fun _ => rfl
theorem free_GWindow (x : GWindow) : FreeE (enc_GWindow x) := flat_free (flat_GWindow x) rfl
theorem cvf_GWindow {m : Bool} {H : Heap} {x : GWindow} : Cv m H (enc_GWindow x) (enc_GWindow x) := cv_flat (flat_GWindow x)
theorem own_GWindow (x : GWindow) : OwnO (enc_GWindow x) := own_flat (flat_GWindow x)
def enc_GQuery (o : Bool) (x : GQuery) : AV := .agg [(aI .u8 x.Agg), (AV.list o (List.map enc_GNode x.Arg)), (AV.list o (List.map (aI .i64) x.Sources)), (aB x.Join), (AV.list o (List.map enc_GNode x.Where)), (aI .u8 x.Window.Kind), (aI .i64 x.Window.Size), (aI .i64 x.Window.Every), (aB x.ByKey), (aI .u8 x.Late)]
theorem still_GQuery (o : Bool) (x : GQuery) : StillE (enc_GQuery o x) := fun _ => rfl
theorem free_GQuery (o : Bool) (x : GQuery) : FreeE (enc_GQuery o x) := free_agg (fun _ => (allCons .sc (allCons .list (allCons .list (allCons .sc (allCons .list (allCons .sc (allCons .sc (allCons .sc (allCons .sc (allCons .sc allNil)))))))))))
theorem cva_GQuery {H : Heap} {o : Bool} {x : GQuery} : Cv false H (enc_GQuery o x) (enc_GQuery false x) := cv_agg (Cvs.cons .sc (Cvs.cons (cv_list (flat_map flat_GNode _)) (Cvs.cons (cv_list (flat_map (fun _ => flatSc) _)) (Cvs.cons .sc (Cvs.cons (cv_list (flat_map flat_GNode _)) (Cvs.cons .sc (Cvs.cons .sc (Cvs.cons .sc (Cvs.cons .sc (Cvs.cons .sc Cvs.nil))))))))))
theorem cvt_GQuery {H : Heap} {o : Bool} {x : GQuery} : Cv true H (enc_GQuery o x) (enc_GQuery o x) := cv_agg (Cvs.cons .sc (Cvs.cons (.listS rfl) (Cvs.cons (.listS rfl) (Cvs.cons .sc (Cvs.cons (.listS rfl) (Cvs.cons .sc (Cvs.cons .sc (Cvs.cons .sc (Cvs.cons .sc (Cvs.cons .sc Cvs.nil))))))))))
def enc_Gnodes_top (x : Gnodes_top) : AV := .agg [(aI .i64 x.at_), (aI .i64 x.size), (aI .i64 x.depth)]
theorem flat_Gnodes_top (x : Gnodes_top) : FlatE (enc_Gnodes_top x) := (flatC (flatC (flatC flatN)))
theorem still_Gnodes_top (x : Gnodes_top) : StillE (enc_Gnodes_top x) := fun _ => rfl
theorem free_Gnodes_top (x : Gnodes_top) : FreeE (enc_Gnodes_top x) := flat_free (flat_Gnodes_top x) rfl
theorem cvf_Gnodes_top {m : Bool} {H : Heap} {x : Gnodes_top} : Cv m H (enc_Gnodes_top x) (enc_Gnodes_top x) := cv_flat (flat_Gnodes_top x)
theorem own_Gnodes_top (x : Gnodes_top) : OwnO (enc_Gnodes_top x) := own_flat (flat_Gnodes_top x)
def encv_V2b (x : (V2 Bool)) : AV := .agg [(aB x.e0), (aB x.e1)]
theorem flat_V2b (x : (V2 Bool)) : FlatE (encv_V2b x) := (flatC (flatC flatN))
theorem still_V2b (x : (V2 Bool)) : StillE (encv_V2b x) := fun _ => rfl
theorem free_V2b (x : (V2 Bool)) : FreeE (encv_V2b x) := flat_free (flat_V2b x) rfl
theorem cvf_V2b {m : Bool} {H : Heap} {x : (V2 Bool)} : Cv m H (encv_V2b x) (encv_V2b x) := cv_flat (flat_V2b x)
theorem own_V2b (x : (V2 Bool)) : OwnO (encv_V2b x) := own_flat (flat_V2b x)
/-- A slot of a canonical state. -/
theorem wkA {P : Prop} (h : P := by
  first
    | exact trivial
    | rfl
    | exact .sc
    | exact .list
    | exact .nils
    | exact .ref (by decide)
    | exact .ptr (by decide)
    | exact okFn0
    | (refine AV.Ok.tup ?_; repeat' first | exact allNil | refine allCons ?_ ?_ | exact .sc | exact .nils | exact .list | exact .ref (by decide) | exact .ptr (by decide))
    | (refine congrArg AV.tup ?_; repeat' first | rfl | (refine congrArg (fun z => AV.ref _ 0 z) ?_; first | rfl | omega | (simp; done) | (simp; omega)) | (show AV.ref _ 0 _ = AV.ref _ 0 _; congr 1; first | omega | (simp; done)) | (refine congrArg (fun z => AV.sc (Value.int IntKind.i64 z)) ?_; first | rfl | omega | assumption | (simp; done)) | refine congr (congrArg List.cons ?_) ?_ | (show (_ :: _ : List AV) = _ :: _; refine congr (congrArg List.cons ?_) ?_))
    | exact .fn (allCons (.ptr (by decide)) allNil)
    | exact .fn (allCons (.ptr (by decide)) (allCons (.ptr (by decide)) allNil))
    | exact .fn (allCons (.ptr (by decide)) (allCons (.ptr (by decide)) (allCons (.ptr (by decide)) allNil)))
    | assumption
    | exact (free_GOp _ _).1
    | exact (free_GRecord _ _).1
    | exact (free_GSpan _ _).1
    | exact (free_V2i64 _ _).1
    | exact (free_GRow _ _).1
    | exact (free_GMessage _ _).1
    | exact (free_GSend _ _).1
    | exact (free_GAccum _ _).1
    | exact (free_V2GAccum _ _).1
    | exact (free_GEntry _ _).1
    | exact (free_GEvent _ _).1
    | exact (free_GTask true _ _).1
    | exact (free_GTask false _ _).1
    | exact (free_GNode _ _).1
    | exact (free_GWindow _ _).1
    | exact (free_GQuery true _ _).1
    | exact (free_GQuery false _ _).1
    | exact (free_Gnodes_top _ _).1
    | exact (free_V2b _ _).1
    | (refine congrArg (fun z => AV.sc (Value.int IntKind.i64 z)) ?_; first | rfl | omega | assumption | (simp; done) | (simp; omega))
    | (refine congrArg (fun z => AV.sc (Value.bool z)) ?_; first | rfl | assumption | (simp; done))
    | (refine congrArg (fun z => AV.ref _ 0 z) ?_; first | rfl | omega | (simp; done) | (simp; omega))
    | (show AV.ref _ 0 _ = AV.ref _ 0 _; congr 1; (simp; done))
    | (simp [slE, opE, nbF, nbT, AV.ren, List.map_take, List.map_drop]; done)
    | (simp [slE, opE, nbF, nbT, AV.ren, List.map_take, List.map_drop, *]; done)
    | (simp [AV.ren, *]; done)) : P := h
theorem wkR0 {P : Prop} (h : P := by
  first
    | exact free_map free_GOp _ _
    | exact free_one (free_GOp _) _
    | exact free_cons free_GOp _ _ _
    | exact free_map free_GRecord _ _
    | exact free_one (free_GRecord _) _
    | exact free_cons free_GRecord _ _ _
    | exact free_map free_GSpan _ _
    | exact free_one (free_GSpan _) _
    | exact free_cons free_GSpan _ _ _
    | exact free_map free_V2i64 _ _
    | exact free_one (free_V2i64 _) _
    | exact free_cons free_V2i64 _ _ _
    | exact free_map free_GRow _ _
    | exact free_one (free_GRow _) _
    | exact free_cons free_GRow _ _ _
    | exact free_map free_GMessage _ _
    | exact free_one (free_GMessage _) _
    | exact free_cons free_GMessage _ _ _
    | exact free_map free_GSend _ _
    | exact free_one (free_GSend _) _
    | exact free_cons free_GSend _ _ _
    | exact free_map free_GAccum _ _
    | exact free_one (free_GAccum _) _
    | exact free_cons free_GAccum _ _ _
    | exact free_map free_V2GAccum _ _
    | exact free_one (free_V2GAccum _) _
    | exact free_cons free_V2GAccum _ _ _
    | exact free_map free_GEntry _ _
    | exact free_one (free_GEntry _) _
    | exact free_cons free_GEntry _ _ _
    | exact free_map free_GEvent _ _
    | exact free_one (free_GEvent _) _
    | exact free_cons free_GEvent _ _ _
    | exact free_map (free_GTask true) _ _
    | exact free_one ((free_GTask true) _) _
    | exact free_cons (free_GTask true) _ _ _
    | exact free_map (free_GTask false) _ _
    | exact free_one ((free_GTask false) _) _
    | exact free_cons (free_GTask false) _ _ _
    | exact free_map free_GNode _ _
    | exact free_one (free_GNode _) _
    | exact free_cons free_GNode _ _ _
    | exact free_map free_GWindow _ _
    | exact free_one (free_GWindow _) _
    | exact free_cons free_GWindow _ _ _
    | exact free_map (free_GQuery true) _ _
    | exact free_one ((free_GQuery true) _) _
    | exact free_cons (free_GQuery true) _ _ _
    | exact free_map (free_GQuery false) _ _
    | exact free_one ((free_GQuery false) _) _
    | exact free_cons (free_GQuery false) _ _ _
    | exact free_map free_Gnodes_top _ _
    | exact free_one (free_Gnodes_top _) _
    | exact free_cons free_Gnodes_top _ _ _
    | exact free_map free_V2b _ _
    | exact free_one (free_V2b _) _
    | exact free_cons free_V2b _ _ _
    | exact free_map (fun _ => freeSc) _ _
    | exact free_one ((fun _ => freeSc) _) _
    | exact free_cons (fun _ => freeSc) _ _ _
    | exact free_map (fun _ => free_encl) _ _
    | exact free_one ((fun _ => free_encl) _) _
    | exact free_cons (fun _ => free_encl) _ _ _
    | (refine ⟨_, rfl, rfl, Eq.trans ?_ (ren_still (still_map still_GOp _) _)⟩; rfl)
    | (refine ⟨_, rfl, rfl, Eq.trans ?_ (ren_still (still_cons still_GOp _ _) _)⟩; rfl)
    | (refine ⟨_, rfl, rfl, Eq.trans ?_ (ren_still (still_map still_GOp _) _)⟩; (simp; done))
    | (refine ⟨_, rfl, rfl, Eq.trans ?_ (ren_still (still_cons still_GOp _ _) _)⟩; (simp; done))
    | (refine ⟨_, rfl, rfl, Eq.trans ?_ (ren_still (still_map still_GOp _) _)⟩; (simp; rfl))
    | (refine ⟨_, rfl, rfl, Eq.trans ?_ (ren_still (still_cons still_GOp _ _) _)⟩; (simp; rfl))
    | (refine ⟨_, rfl, rfl, Eq.trans ?_ (ren_still (still_map still_GOp _) _)⟩; (rw [List.map_append]; rfl))
    | (refine ⟨_, rfl, rfl, Eq.trans ?_ (ren_still (still_map still_GOp _) _)⟩; (rw [List.map_set]; rfl))
    | (refine ⟨_, rfl, rfl, Eq.trans ?_ (ren_still (still_map still_GOp _) _)⟩; (simp [*]; done))
    | (refine ⟨_, rfl, rfl, Eq.trans ?_ (ren_still (still_cons still_GOp _ _) _)⟩; (simp [*]; done))
    | (refine ⟨_, rfl, rfl, Eq.trans ?_ (ren_still (still_map still_GOp _) _)⟩; (rw [List.map_replicate]; rfl))
    | (refine ⟨_, rfl, rfl, Eq.trans ?_ (ren_still (still_map still_GRecord _) _)⟩; rfl)
    | (refine ⟨_, rfl, rfl, Eq.trans ?_ (ren_still (still_cons still_GRecord _ _) _)⟩; rfl)
    | (refine ⟨_, rfl, rfl, Eq.trans ?_ (ren_still (still_map still_GRecord _) _)⟩; (simp; done))
    | (refine ⟨_, rfl, rfl, Eq.trans ?_ (ren_still (still_cons still_GRecord _ _) _)⟩; (simp; done))
    | (refine ⟨_, rfl, rfl, Eq.trans ?_ (ren_still (still_map still_GRecord _) _)⟩; (simp; rfl))
    | (refine ⟨_, rfl, rfl, Eq.trans ?_ (ren_still (still_cons still_GRecord _ _) _)⟩; (simp; rfl))
    | (refine ⟨_, rfl, rfl, Eq.trans ?_ (ren_still (still_map still_GRecord _) _)⟩; (rw [List.map_append]; rfl))
    | (refine ⟨_, rfl, rfl, Eq.trans ?_ (ren_still (still_map still_GRecord _) _)⟩; (rw [List.map_set]; rfl))
    | (refine ⟨_, rfl, rfl, Eq.trans ?_ (ren_still (still_map still_GRecord _) _)⟩; (simp [*]; done))
    | (refine ⟨_, rfl, rfl, Eq.trans ?_ (ren_still (still_cons still_GRecord _ _) _)⟩; (simp [*]; done))
    | (refine ⟨_, rfl, rfl, Eq.trans ?_ (ren_still (still_map still_GRecord _) _)⟩; (rw [List.map_replicate]; rfl))
    | (refine ⟨_, rfl, rfl, Eq.trans ?_ (ren_still (still_map still_GSpan _) _)⟩; rfl)
    | (refine ⟨_, rfl, rfl, Eq.trans ?_ (ren_still (still_cons still_GSpan _ _) _)⟩; rfl)
    | (refine ⟨_, rfl, rfl, Eq.trans ?_ (ren_still (still_map still_GSpan _) _)⟩; (simp; done))
    | (refine ⟨_, rfl, rfl, Eq.trans ?_ (ren_still (still_cons still_GSpan _ _) _)⟩; (simp; done))
    | (refine ⟨_, rfl, rfl, Eq.trans ?_ (ren_still (still_map still_GSpan _) _)⟩; (simp; rfl))
    | (refine ⟨_, rfl, rfl, Eq.trans ?_ (ren_still (still_cons still_GSpan _ _) _)⟩; (simp; rfl))
    | (refine ⟨_, rfl, rfl, Eq.trans ?_ (ren_still (still_map still_GSpan _) _)⟩; (rw [List.map_append]; rfl))
    | (refine ⟨_, rfl, rfl, Eq.trans ?_ (ren_still (still_map still_GSpan _) _)⟩; (rw [List.map_set]; rfl))
    | (refine ⟨_, rfl, rfl, Eq.trans ?_ (ren_still (still_map still_GSpan _) _)⟩; (simp [*]; done))
    | (refine ⟨_, rfl, rfl, Eq.trans ?_ (ren_still (still_cons still_GSpan _ _) _)⟩; (simp [*]; done))
    | (refine ⟨_, rfl, rfl, Eq.trans ?_ (ren_still (still_map still_GSpan _) _)⟩; (rw [List.map_replicate]; rfl))
    | (refine ⟨_, rfl, rfl, Eq.trans ?_ (ren_still (still_map still_V2i64 _) _)⟩; rfl)
    | (refine ⟨_, rfl, rfl, Eq.trans ?_ (ren_still (still_cons still_V2i64 _ _) _)⟩; rfl)
    | (refine ⟨_, rfl, rfl, Eq.trans ?_ (ren_still (still_map still_V2i64 _) _)⟩; (simp; done))
    | (refine ⟨_, rfl, rfl, Eq.trans ?_ (ren_still (still_cons still_V2i64 _ _) _)⟩; (simp; done))
    | (refine ⟨_, rfl, rfl, Eq.trans ?_ (ren_still (still_map still_V2i64 _) _)⟩; (simp; rfl))
    | (refine ⟨_, rfl, rfl, Eq.trans ?_ (ren_still (still_cons still_V2i64 _ _) _)⟩; (simp; rfl))
    | (refine ⟨_, rfl, rfl, Eq.trans ?_ (ren_still (still_map still_V2i64 _) _)⟩; (rw [List.map_append]; rfl))
    | (refine ⟨_, rfl, rfl, Eq.trans ?_ (ren_still (still_map still_V2i64 _) _)⟩; (rw [List.map_set]; rfl))
    | (refine ⟨_, rfl, rfl, Eq.trans ?_ (ren_still (still_map still_V2i64 _) _)⟩; (simp [*]; done))
    | (refine ⟨_, rfl, rfl, Eq.trans ?_ (ren_still (still_cons still_V2i64 _ _) _)⟩; (simp [*]; done))
    | (refine ⟨_, rfl, rfl, Eq.trans ?_ (ren_still (still_map still_V2i64 _) _)⟩; (rw [List.map_replicate]; rfl))
    | (refine ⟨_, rfl, rfl, Eq.trans ?_ (ren_still (still_map still_GRow _) _)⟩; rfl)
    | (refine ⟨_, rfl, rfl, Eq.trans ?_ (ren_still (still_cons still_GRow _ _) _)⟩; rfl)
    | (refine ⟨_, rfl, rfl, Eq.trans ?_ (ren_still (still_map still_GRow _) _)⟩; (simp; done))
    | (refine ⟨_, rfl, rfl, Eq.trans ?_ (ren_still (still_cons still_GRow _ _) _)⟩; (simp; done))
    | (refine ⟨_, rfl, rfl, Eq.trans ?_ (ren_still (still_map still_GRow _) _)⟩; (simp; rfl))
    | (refine ⟨_, rfl, rfl, Eq.trans ?_ (ren_still (still_cons still_GRow _ _) _)⟩; (simp; rfl))
    | (refine ⟨_, rfl, rfl, Eq.trans ?_ (ren_still (still_map still_GRow _) _)⟩; (rw [List.map_append]; rfl))
    | (refine ⟨_, rfl, rfl, Eq.trans ?_ (ren_still (still_map still_GRow _) _)⟩; (rw [List.map_set]; rfl))
    | (refine ⟨_, rfl, rfl, Eq.trans ?_ (ren_still (still_map still_GRow _) _)⟩; (simp [*]; done))
    | (refine ⟨_, rfl, rfl, Eq.trans ?_ (ren_still (still_cons still_GRow _ _) _)⟩; (simp [*]; done))
    | (refine ⟨_, rfl, rfl, Eq.trans ?_ (ren_still (still_map still_GRow _) _)⟩; (rw [List.map_replicate]; rfl))
    | (refine ⟨_, rfl, rfl, Eq.trans ?_ (ren_still (still_map still_GMessage _) _)⟩; rfl)
    | (refine ⟨_, rfl, rfl, Eq.trans ?_ (ren_still (still_cons still_GMessage _ _) _)⟩; rfl)) : P := h
theorem wkR1 {P : Prop} (h : P := by
  first
    | (refine ⟨_, rfl, rfl, Eq.trans ?_ (ren_still (still_map still_GMessage _) _)⟩; (simp; done))
    | (refine ⟨_, rfl, rfl, Eq.trans ?_ (ren_still (still_cons still_GMessage _ _) _)⟩; (simp; done))
    | (refine ⟨_, rfl, rfl, Eq.trans ?_ (ren_still (still_map still_GMessage _) _)⟩; (simp; rfl))
    | (refine ⟨_, rfl, rfl, Eq.trans ?_ (ren_still (still_cons still_GMessage _ _) _)⟩; (simp; rfl))
    | (refine ⟨_, rfl, rfl, Eq.trans ?_ (ren_still (still_map still_GMessage _) _)⟩; (rw [List.map_append]; rfl))
    | (refine ⟨_, rfl, rfl, Eq.trans ?_ (ren_still (still_map still_GMessage _) _)⟩; (rw [List.map_set]; rfl))
    | (refine ⟨_, rfl, rfl, Eq.trans ?_ (ren_still (still_map still_GMessage _) _)⟩; (simp [*]; done))
    | (refine ⟨_, rfl, rfl, Eq.trans ?_ (ren_still (still_cons still_GMessage _ _) _)⟩; (simp [*]; done))
    | (refine ⟨_, rfl, rfl, Eq.trans ?_ (ren_still (still_map still_GMessage _) _)⟩; (rw [List.map_replicate]; rfl))
    | (refine ⟨_, rfl, rfl, Eq.trans ?_ (ren_still (still_map still_GSend _) _)⟩; rfl)
    | (refine ⟨_, rfl, rfl, Eq.trans ?_ (ren_still (still_cons still_GSend _ _) _)⟩; rfl)
    | (refine ⟨_, rfl, rfl, Eq.trans ?_ (ren_still (still_map still_GSend _) _)⟩; (simp; done))
    | (refine ⟨_, rfl, rfl, Eq.trans ?_ (ren_still (still_cons still_GSend _ _) _)⟩; (simp; done))
    | (refine ⟨_, rfl, rfl, Eq.trans ?_ (ren_still (still_map still_GSend _) _)⟩; (simp; rfl))
    | (refine ⟨_, rfl, rfl, Eq.trans ?_ (ren_still (still_cons still_GSend _ _) _)⟩; (simp; rfl))
    | (refine ⟨_, rfl, rfl, Eq.trans ?_ (ren_still (still_map still_GSend _) _)⟩; (rw [List.map_append]; rfl))
    | (refine ⟨_, rfl, rfl, Eq.trans ?_ (ren_still (still_map still_GSend _) _)⟩; (rw [List.map_set]; rfl))
    | (refine ⟨_, rfl, rfl, Eq.trans ?_ (ren_still (still_map still_GSend _) _)⟩; (simp [*]; done))
    | (refine ⟨_, rfl, rfl, Eq.trans ?_ (ren_still (still_cons still_GSend _ _) _)⟩; (simp [*]; done))
    | (refine ⟨_, rfl, rfl, Eq.trans ?_ (ren_still (still_map still_GSend _) _)⟩; (rw [List.map_replicate]; rfl))
    | (refine ⟨_, rfl, rfl, Eq.trans ?_ (ren_still (still_map still_GAccum _) _)⟩; rfl)
    | (refine ⟨_, rfl, rfl, Eq.trans ?_ (ren_still (still_cons still_GAccum _ _) _)⟩; rfl)
    | (refine ⟨_, rfl, rfl, Eq.trans ?_ (ren_still (still_map still_GAccum _) _)⟩; (simp; done))
    | (refine ⟨_, rfl, rfl, Eq.trans ?_ (ren_still (still_cons still_GAccum _ _) _)⟩; (simp; done))
    | (refine ⟨_, rfl, rfl, Eq.trans ?_ (ren_still (still_map still_GAccum _) _)⟩; (simp; rfl))
    | (refine ⟨_, rfl, rfl, Eq.trans ?_ (ren_still (still_cons still_GAccum _ _) _)⟩; (simp; rfl))
    | (refine ⟨_, rfl, rfl, Eq.trans ?_ (ren_still (still_map still_GAccum _) _)⟩; (rw [List.map_append]; rfl))
    | (refine ⟨_, rfl, rfl, Eq.trans ?_ (ren_still (still_map still_GAccum _) _)⟩; (rw [List.map_set]; rfl))
    | (refine ⟨_, rfl, rfl, Eq.trans ?_ (ren_still (still_map still_GAccum _) _)⟩; (simp [*]; done))
    | (refine ⟨_, rfl, rfl, Eq.trans ?_ (ren_still (still_cons still_GAccum _ _) _)⟩; (simp [*]; done))
    | (refine ⟨_, rfl, rfl, Eq.trans ?_ (ren_still (still_map still_GAccum _) _)⟩; (rw [List.map_replicate]; rfl))
    | (refine ⟨_, rfl, rfl, Eq.trans ?_ (ren_still (still_map still_V2GAccum _) _)⟩; rfl)
    | (refine ⟨_, rfl, rfl, Eq.trans ?_ (ren_still (still_cons still_V2GAccum _ _) _)⟩; rfl)
    | (refine ⟨_, rfl, rfl, Eq.trans ?_ (ren_still (still_map still_V2GAccum _) _)⟩; (simp; done))
    | (refine ⟨_, rfl, rfl, Eq.trans ?_ (ren_still (still_cons still_V2GAccum _ _) _)⟩; (simp; done))
    | (refine ⟨_, rfl, rfl, Eq.trans ?_ (ren_still (still_map still_V2GAccum _) _)⟩; (simp; rfl))
    | (refine ⟨_, rfl, rfl, Eq.trans ?_ (ren_still (still_cons still_V2GAccum _ _) _)⟩; (simp; rfl))
    | (refine ⟨_, rfl, rfl, Eq.trans ?_ (ren_still (still_map still_V2GAccum _) _)⟩; (rw [List.map_append]; rfl))
    | (refine ⟨_, rfl, rfl, Eq.trans ?_ (ren_still (still_map still_V2GAccum _) _)⟩; (rw [List.map_set]; rfl))
    | (refine ⟨_, rfl, rfl, Eq.trans ?_ (ren_still (still_map still_V2GAccum _) _)⟩; (simp [*]; done))
    | (refine ⟨_, rfl, rfl, Eq.trans ?_ (ren_still (still_cons still_V2GAccum _ _) _)⟩; (simp [*]; done))
    | (refine ⟨_, rfl, rfl, Eq.trans ?_ (ren_still (still_map still_V2GAccum _) _)⟩; (rw [List.map_replicate]; rfl))
    | (refine ⟨_, rfl, rfl, Eq.trans ?_ (ren_still (still_map still_GEntry _) _)⟩; rfl)
    | (refine ⟨_, rfl, rfl, Eq.trans ?_ (ren_still (still_cons still_GEntry _ _) _)⟩; rfl)
    | (refine ⟨_, rfl, rfl, Eq.trans ?_ (ren_still (still_map still_GEntry _) _)⟩; (simp; done))
    | (refine ⟨_, rfl, rfl, Eq.trans ?_ (ren_still (still_cons still_GEntry _ _) _)⟩; (simp; done))
    | (refine ⟨_, rfl, rfl, Eq.trans ?_ (ren_still (still_map still_GEntry _) _)⟩; (simp; rfl))
    | (refine ⟨_, rfl, rfl, Eq.trans ?_ (ren_still (still_cons still_GEntry _ _) _)⟩; (simp; rfl))
    | (refine ⟨_, rfl, rfl, Eq.trans ?_ (ren_still (still_map still_GEntry _) _)⟩; (rw [List.map_append]; rfl))
    | (refine ⟨_, rfl, rfl, Eq.trans ?_ (ren_still (still_map still_GEntry _) _)⟩; (rw [List.map_set]; rfl))
    | (refine ⟨_, rfl, rfl, Eq.trans ?_ (ren_still (still_map still_GEntry _) _)⟩; (simp [*]; done))
    | (refine ⟨_, rfl, rfl, Eq.trans ?_ (ren_still (still_cons still_GEntry _ _) _)⟩; (simp [*]; done))
    | (refine ⟨_, rfl, rfl, Eq.trans ?_ (ren_still (still_map still_GEntry _) _)⟩; (rw [List.map_replicate]; rfl))
    | (refine ⟨_, rfl, rfl, Eq.trans ?_ (ren_still (still_map still_GEvent _) _)⟩; rfl)
    | (refine ⟨_, rfl, rfl, Eq.trans ?_ (ren_still (still_cons still_GEvent _ _) _)⟩; rfl)
    | (refine ⟨_, rfl, rfl, Eq.trans ?_ (ren_still (still_map still_GEvent _) _)⟩; (simp; done))
    | (refine ⟨_, rfl, rfl, Eq.trans ?_ (ren_still (still_cons still_GEvent _ _) _)⟩; (simp; done))
    | (refine ⟨_, rfl, rfl, Eq.trans ?_ (ren_still (still_map still_GEvent _) _)⟩; (simp; rfl))
    | (refine ⟨_, rfl, rfl, Eq.trans ?_ (ren_still (still_cons still_GEvent _ _) _)⟩; (simp; rfl))
    | (refine ⟨_, rfl, rfl, Eq.trans ?_ (ren_still (still_map still_GEvent _) _)⟩; (rw [List.map_append]; rfl))
    | (refine ⟨_, rfl, rfl, Eq.trans ?_ (ren_still (still_map still_GEvent _) _)⟩; (rw [List.map_set]; rfl))
    | (refine ⟨_, rfl, rfl, Eq.trans ?_ (ren_still (still_map still_GEvent _) _)⟩; (simp [*]; done))
    | (refine ⟨_, rfl, rfl, Eq.trans ?_ (ren_still (still_cons still_GEvent _ _) _)⟩; (simp [*]; done))
    | (refine ⟨_, rfl, rfl, Eq.trans ?_ (ren_still (still_map still_GEvent _) _)⟩; (rw [List.map_replicate]; rfl))
    | (refine ⟨_, rfl, rfl, Eq.trans ?_ (ren_still (still_map (still_GTask true) _) _)⟩; rfl)
    | (refine ⟨_, rfl, rfl, Eq.trans ?_ (ren_still (still_cons (still_GTask true) _ _) _)⟩; rfl)
    | (refine ⟨_, rfl, rfl, Eq.trans ?_ (ren_still (still_map (still_GTask true) _) _)⟩; (simp; done))
    | (refine ⟨_, rfl, rfl, Eq.trans ?_ (ren_still (still_cons (still_GTask true) _ _) _)⟩; (simp; done))
    | (refine ⟨_, rfl, rfl, Eq.trans ?_ (ren_still (still_map (still_GTask true) _) _)⟩; (simp; rfl))
    | (refine ⟨_, rfl, rfl, Eq.trans ?_ (ren_still (still_cons (still_GTask true) _ _) _)⟩; (simp; rfl))
    | (refine ⟨_, rfl, rfl, Eq.trans ?_ (ren_still (still_map (still_GTask true) _) _)⟩; (rw [List.map_append]; rfl))
    | (refine ⟨_, rfl, rfl, Eq.trans ?_ (ren_still (still_map (still_GTask true) _) _)⟩; (rw [List.map_set]; rfl))
    | (refine ⟨_, rfl, rfl, Eq.trans ?_ (ren_still (still_map (still_GTask true) _) _)⟩; (simp [*]; done))
    | (refine ⟨_, rfl, rfl, Eq.trans ?_ (ren_still (still_cons (still_GTask true) _ _) _)⟩; (simp [*]; done))
    | (refine ⟨_, rfl, rfl, Eq.trans ?_ (ren_still (still_map (still_GTask true) _) _)⟩; (rw [List.map_replicate]; rfl))
    | (refine ⟨_, rfl, rfl, Eq.trans ?_ (ren_still (still_map (still_GTask false) _) _)⟩; rfl)
    | (refine ⟨_, rfl, rfl, Eq.trans ?_ (ren_still (still_cons (still_GTask false) _ _) _)⟩; rfl)
    | (refine ⟨_, rfl, rfl, Eq.trans ?_ (ren_still (still_map (still_GTask false) _) _)⟩; (simp; done))
    | (refine ⟨_, rfl, rfl, Eq.trans ?_ (ren_still (still_cons (still_GTask false) _ _) _)⟩; (simp; done))
    | (refine ⟨_, rfl, rfl, Eq.trans ?_ (ren_still (still_map (still_GTask false) _) _)⟩; (simp; rfl))
    | (refine ⟨_, rfl, rfl, Eq.trans ?_ (ren_still (still_cons (still_GTask false) _ _) _)⟩; (simp; rfl))
    | (refine ⟨_, rfl, rfl, Eq.trans ?_ (ren_still (still_map (still_GTask false) _) _)⟩; (rw [List.map_append]; rfl))
    | (refine ⟨_, rfl, rfl, Eq.trans ?_ (ren_still (still_map (still_GTask false) _) _)⟩; (rw [List.map_set]; rfl))
    | (refine ⟨_, rfl, rfl, Eq.trans ?_ (ren_still (still_map (still_GTask false) _) _)⟩; (simp [*]; done))
    | (refine ⟨_, rfl, rfl, Eq.trans ?_ (ren_still (still_cons (still_GTask false) _ _) _)⟩; (simp [*]; done))
    | (refine ⟨_, rfl, rfl, Eq.trans ?_ (ren_still (still_map (still_GTask false) _) _)⟩; (rw [List.map_replicate]; rfl))
    | (refine ⟨_, rfl, rfl, Eq.trans ?_ (ren_still (still_map still_GNode _) _)⟩; rfl)
    | (refine ⟨_, rfl, rfl, Eq.trans ?_ (ren_still (still_cons still_GNode _ _) _)⟩; rfl)
    | (refine ⟨_, rfl, rfl, Eq.trans ?_ (ren_still (still_map still_GNode _) _)⟩; (simp; done))
    | (refine ⟨_, rfl, rfl, Eq.trans ?_ (ren_still (still_cons still_GNode _ _) _)⟩; (simp; done))
    | (refine ⟨_, rfl, rfl, Eq.trans ?_ (ren_still (still_map still_GNode _) _)⟩; (simp; rfl))
    | (refine ⟨_, rfl, rfl, Eq.trans ?_ (ren_still (still_cons still_GNode _ _) _)⟩; (simp; rfl))
    | (refine ⟨_, rfl, rfl, Eq.trans ?_ (ren_still (still_map still_GNode _) _)⟩; (rw [List.map_append]; rfl))
    | (refine ⟨_, rfl, rfl, Eq.trans ?_ (ren_still (still_map still_GNode _) _)⟩; (rw [List.map_set]; rfl))
    | (refine ⟨_, rfl, rfl, Eq.trans ?_ (ren_still (still_map still_GNode _) _)⟩; (simp [*]; done))
    | (refine ⟨_, rfl, rfl, Eq.trans ?_ (ren_still (still_cons still_GNode _ _) _)⟩; (simp [*]; done))
    | (refine ⟨_, rfl, rfl, Eq.trans ?_ (ren_still (still_map still_GNode _) _)⟩; (rw [List.map_replicate]; rfl))
    | (refine ⟨_, rfl, rfl, Eq.trans ?_ (ren_still (still_map still_GWindow _) _)⟩; rfl)
    | (refine ⟨_, rfl, rfl, Eq.trans ?_ (ren_still (still_cons still_GWindow _ _) _)⟩; rfl)
    | (refine ⟨_, rfl, rfl, Eq.trans ?_ (ren_still (still_map still_GWindow _) _)⟩; (simp; done))
    | (refine ⟨_, rfl, rfl, Eq.trans ?_ (ren_still (still_cons still_GWindow _ _) _)⟩; (simp; done))
    | (refine ⟨_, rfl, rfl, Eq.trans ?_ (ren_still (still_map still_GWindow _) _)⟩; (simp; rfl))
    | (refine ⟨_, rfl, rfl, Eq.trans ?_ (ren_still (still_cons still_GWindow _ _) _)⟩; (simp; rfl))
    | (refine ⟨_, rfl, rfl, Eq.trans ?_ (ren_still (still_map still_GWindow _) _)⟩; (rw [List.map_append]; rfl))
    | (refine ⟨_, rfl, rfl, Eq.trans ?_ (ren_still (still_map still_GWindow _) _)⟩; (rw [List.map_set]; rfl))
    | (refine ⟨_, rfl, rfl, Eq.trans ?_ (ren_still (still_map still_GWindow _) _)⟩; (simp [*]; done))
    | (refine ⟨_, rfl, rfl, Eq.trans ?_ (ren_still (still_cons still_GWindow _ _) _)⟩; (simp [*]; done))
    | (refine ⟨_, rfl, rfl, Eq.trans ?_ (ren_still (still_map still_GWindow _) _)⟩; (rw [List.map_replicate]; rfl))
    | (refine ⟨_, rfl, rfl, Eq.trans ?_ (ren_still (still_map (still_GQuery true) _) _)⟩; rfl)
    | (refine ⟨_, rfl, rfl, Eq.trans ?_ (ren_still (still_cons (still_GQuery true) _ _) _)⟩; rfl)
    | (refine ⟨_, rfl, rfl, Eq.trans ?_ (ren_still (still_map (still_GQuery true) _) _)⟩; (simp; done))
    | (refine ⟨_, rfl, rfl, Eq.trans ?_ (ren_still (still_cons (still_GQuery true) _ _) _)⟩; (simp; done))
    | (refine ⟨_, rfl, rfl, Eq.trans ?_ (ren_still (still_map (still_GQuery true) _) _)⟩; (simp; rfl))
    | (refine ⟨_, rfl, rfl, Eq.trans ?_ (ren_still (still_cons (still_GQuery true) _ _) _)⟩; (simp; rfl))
    | (refine ⟨_, rfl, rfl, Eq.trans ?_ (ren_still (still_map (still_GQuery true) _) _)⟩; (rw [List.map_append]; rfl))
    | (refine ⟨_, rfl, rfl, Eq.trans ?_ (ren_still (still_map (still_GQuery true) _) _)⟩; (rw [List.map_set]; rfl))
    | (refine ⟨_, rfl, rfl, Eq.trans ?_ (ren_still (still_map (still_GQuery true) _) _)⟩; (simp [*]; done))
    | (refine ⟨_, rfl, rfl, Eq.trans ?_ (ren_still (still_cons (still_GQuery true) _ _) _)⟩; (simp [*]; done))
    | (refine ⟨_, rfl, rfl, Eq.trans ?_ (ren_still (still_map (still_GQuery true) _) _)⟩; (rw [List.map_replicate]; rfl))
    | (refine ⟨_, rfl, rfl, Eq.trans ?_ (ren_still (still_map (still_GQuery false) _) _)⟩; rfl)) : P := h
theorem wkR2 {P : Prop} (h : P := by
  first
    | (refine ⟨_, rfl, rfl, Eq.trans ?_ (ren_still (still_cons (still_GQuery false) _ _) _)⟩; rfl)
    | (refine ⟨_, rfl, rfl, Eq.trans ?_ (ren_still (still_map (still_GQuery false) _) _)⟩; (simp; done))
    | (refine ⟨_, rfl, rfl, Eq.trans ?_ (ren_still (still_cons (still_GQuery false) _ _) _)⟩; (simp; done))
    | (refine ⟨_, rfl, rfl, Eq.trans ?_ (ren_still (still_map (still_GQuery false) _) _)⟩; (simp; rfl))
    | (refine ⟨_, rfl, rfl, Eq.trans ?_ (ren_still (still_cons (still_GQuery false) _ _) _)⟩; (simp; rfl))
    | (refine ⟨_, rfl, rfl, Eq.trans ?_ (ren_still (still_map (still_GQuery false) _) _)⟩; (rw [List.map_append]; rfl))
    | (refine ⟨_, rfl, rfl, Eq.trans ?_ (ren_still (still_map (still_GQuery false) _) _)⟩; (rw [List.map_set]; rfl))
    | (refine ⟨_, rfl, rfl, Eq.trans ?_ (ren_still (still_map (still_GQuery false) _) _)⟩; (simp [*]; done))
    | (refine ⟨_, rfl, rfl, Eq.trans ?_ (ren_still (still_cons (still_GQuery false) _ _) _)⟩; (simp [*]; done))
    | (refine ⟨_, rfl, rfl, Eq.trans ?_ (ren_still (still_map (still_GQuery false) _) _)⟩; (rw [List.map_replicate]; rfl))
    | (refine ⟨_, rfl, rfl, Eq.trans ?_ (ren_still (still_map still_Gnodes_top _) _)⟩; rfl)
    | (refine ⟨_, rfl, rfl, Eq.trans ?_ (ren_still (still_cons still_Gnodes_top _ _) _)⟩; rfl)
    | (refine ⟨_, rfl, rfl, Eq.trans ?_ (ren_still (still_map still_Gnodes_top _) _)⟩; (simp; done))
    | (refine ⟨_, rfl, rfl, Eq.trans ?_ (ren_still (still_cons still_Gnodes_top _ _) _)⟩; (simp; done))
    | (refine ⟨_, rfl, rfl, Eq.trans ?_ (ren_still (still_map still_Gnodes_top _) _)⟩; (simp; rfl))
    | (refine ⟨_, rfl, rfl, Eq.trans ?_ (ren_still (still_cons still_Gnodes_top _ _) _)⟩; (simp; rfl))
    | (refine ⟨_, rfl, rfl, Eq.trans ?_ (ren_still (still_map still_Gnodes_top _) _)⟩; (rw [List.map_append]; rfl))
    | (refine ⟨_, rfl, rfl, Eq.trans ?_ (ren_still (still_map still_Gnodes_top _) _)⟩; (rw [List.map_set]; rfl))
    | (refine ⟨_, rfl, rfl, Eq.trans ?_ (ren_still (still_map still_Gnodes_top _) _)⟩; (simp [*]; done))
    | (refine ⟨_, rfl, rfl, Eq.trans ?_ (ren_still (still_cons still_Gnodes_top _ _) _)⟩; (simp [*]; done))
    | (refine ⟨_, rfl, rfl, Eq.trans ?_ (ren_still (still_map still_Gnodes_top _) _)⟩; (rw [List.map_replicate]; rfl))
    | (refine ⟨_, rfl, rfl, Eq.trans ?_ (ren_still (still_map still_V2b _) _)⟩; rfl)
    | (refine ⟨_, rfl, rfl, Eq.trans ?_ (ren_still (still_cons still_V2b _ _) _)⟩; rfl)
    | (refine ⟨_, rfl, rfl, Eq.trans ?_ (ren_still (still_map still_V2b _) _)⟩; (simp; done))
    | (refine ⟨_, rfl, rfl, Eq.trans ?_ (ren_still (still_cons still_V2b _ _) _)⟩; (simp; done))
    | (refine ⟨_, rfl, rfl, Eq.trans ?_ (ren_still (still_map still_V2b _) _)⟩; (simp; rfl))
    | (refine ⟨_, rfl, rfl, Eq.trans ?_ (ren_still (still_cons still_V2b _ _) _)⟩; (simp; rfl))
    | (refine ⟨_, rfl, rfl, Eq.trans ?_ (ren_still (still_map still_V2b _) _)⟩; (rw [List.map_append]; rfl))
    | (refine ⟨_, rfl, rfl, Eq.trans ?_ (ren_still (still_map still_V2b _) _)⟩; (rw [List.map_set]; rfl))
    | (refine ⟨_, rfl, rfl, Eq.trans ?_ (ren_still (still_map still_V2b _) _)⟩; (simp [*]; done))
    | (refine ⟨_, rfl, rfl, Eq.trans ?_ (ren_still (still_cons still_V2b _ _) _)⟩; (simp [*]; done))
    | (refine ⟨_, rfl, rfl, Eq.trans ?_ (ren_still (still_map still_V2b _) _)⟩; (rw [List.map_replicate]; rfl))
    | (refine ⟨_, rfl, rfl, Eq.trans ?_ (ren_still (still_map (fun _ => stillSc) _) _)⟩; rfl)
    | (refine ⟨_, rfl, rfl, Eq.trans ?_ (ren_still (still_cons (fun _ => stillSc) _ _) _)⟩; rfl)
    | (refine ⟨_, rfl, rfl, Eq.trans ?_ (ren_still (still_map (fun _ => stillSc) _) _)⟩; (simp; done))
    | (refine ⟨_, rfl, rfl, Eq.trans ?_ (ren_still (still_cons (fun _ => stillSc) _ _) _)⟩; (simp; done))
    | (refine ⟨_, rfl, rfl, Eq.trans ?_ (ren_still (still_map (fun _ => stillSc) _) _)⟩; (simp; rfl))
    | (refine ⟨_, rfl, rfl, Eq.trans ?_ (ren_still (still_cons (fun _ => stillSc) _ _) _)⟩; (simp; rfl))
    | (refine ⟨_, rfl, rfl, Eq.trans ?_ (ren_still (still_map (fun _ => stillSc) _) _)⟩; (rw [List.map_append]; rfl))
    | (refine ⟨_, rfl, rfl, Eq.trans ?_ (ren_still (still_map (fun _ => stillSc) _) _)⟩; (rw [List.map_set]; rfl))
    | (refine ⟨_, rfl, rfl, Eq.trans ?_ (ren_still (still_map (fun _ => stillSc) _) _)⟩; (simp [*]; done))
    | (refine ⟨_, rfl, rfl, Eq.trans ?_ (ren_still (still_cons (fun _ => stillSc) _ _) _)⟩; (simp [*]; done))
    | (refine ⟨_, rfl, rfl, Eq.trans ?_ (ren_still (still_map (fun _ => stillSc) _) _)⟩; (rw [List.map_replicate]; rfl))
    | (refine ⟨_, rfl, rfl, Eq.trans ?_ (ren_still (still_map (fun _ => still_encl) _) _)⟩; rfl)
    | (refine ⟨_, rfl, rfl, Eq.trans ?_ (ren_still (still_cons (fun _ => still_encl) _ _) _)⟩; rfl)
    | (refine ⟨_, rfl, rfl, Eq.trans ?_ (ren_still (still_map (fun _ => still_encl) _) _)⟩; (simp; done))
    | (refine ⟨_, rfl, rfl, Eq.trans ?_ (ren_still (still_cons (fun _ => still_encl) _ _) _)⟩; (simp; done))
    | (refine ⟨_, rfl, rfl, Eq.trans ?_ (ren_still (still_map (fun _ => still_encl) _) _)⟩; (simp; rfl))
    | (refine ⟨_, rfl, rfl, Eq.trans ?_ (ren_still (still_cons (fun _ => still_encl) _ _) _)⟩; (simp; rfl))
    | (refine ⟨_, rfl, rfl, Eq.trans ?_ (ren_still (still_map (fun _ => still_encl) _) _)⟩; (rw [List.map_append]; rfl))
    | (refine ⟨_, rfl, rfl, Eq.trans ?_ (ren_still (still_map (fun _ => still_encl) _) _)⟩; (rw [List.map_set]; rfl))
    | (refine ⟨_, rfl, rfl, Eq.trans ?_ (ren_still (still_map (fun _ => still_encl) _) _)⟩; (simp [*]; done))
    | (refine ⟨_, rfl, rfl, Eq.trans ?_ (ren_still (still_cons (fun _ => still_encl) _ _) _)⟩; (simp [*]; done))
    | (refine ⟨_, rfl, rfl, Eq.trans ?_ (ren_still (still_map (fun _ => still_encl) _) _)⟩; (rw [List.map_replicate]; rfl))
    | (refine ⟨_, rfl, rfl, Eq.trans ?_ (ren_still (still_one (still_GOp _)) _)⟩; simp only [List.length_cons, List.length_map]; rfl)
    | (refine ⟨_, rfl, rfl, Eq.trans ?_ (ren_still (still_one (still_GRecord _)) _)⟩; simp only [List.length_cons, List.length_map]; rfl)
    | (refine ⟨_, rfl, rfl, Eq.trans ?_ (ren_still (still_one (still_GSpan _)) _)⟩; simp only [List.length_cons, List.length_map]; rfl)
    | (refine ⟨_, rfl, rfl, Eq.trans ?_ (ren_still (still_one (still_V2i64 _)) _)⟩; simp only [List.length_cons, List.length_map]; rfl)
    | (refine ⟨_, rfl, rfl, Eq.trans ?_ (ren_still (still_one (still_GRow _)) _)⟩; simp only [List.length_cons, List.length_map]; rfl)
    | (refine ⟨_, rfl, rfl, Eq.trans ?_ (ren_still (still_one (still_GMessage _)) _)⟩; simp only [List.length_cons, List.length_map]; rfl)
    | (refine ⟨_, rfl, rfl, Eq.trans ?_ (ren_still (still_one (still_GSend _)) _)⟩; simp only [List.length_cons, List.length_map]; rfl)
    | (refine ⟨_, rfl, rfl, Eq.trans ?_ (ren_still (still_one (still_GAccum _)) _)⟩; simp only [List.length_cons, List.length_map]; rfl)
    | (refine ⟨_, rfl, rfl, Eq.trans ?_ (ren_still (still_one (still_V2GAccum _)) _)⟩; simp only [List.length_cons, List.length_map]; rfl)
    | (refine ⟨_, rfl, rfl, Eq.trans ?_ (ren_still (still_one (still_GEntry _)) _)⟩; simp only [List.length_cons, List.length_map]; rfl)
    | (refine ⟨_, rfl, rfl, Eq.trans ?_ (ren_still (still_one (still_GEvent _)) _)⟩; simp only [List.length_cons, List.length_map]; rfl)
    | (refine ⟨_, rfl, rfl, Eq.trans ?_ (ren_still (still_one ((still_GTask true) _)) _)⟩; simp only [List.length_cons, List.length_map]; rfl)
    | (refine ⟨_, rfl, rfl, Eq.trans ?_ (ren_still (still_one ((still_GTask false) _)) _)⟩; simp only [List.length_cons, List.length_map]; rfl)
    | (refine ⟨_, rfl, rfl, Eq.trans ?_ (ren_still (still_one (still_GNode _)) _)⟩; simp only [List.length_cons, List.length_map]; rfl)
    | (refine ⟨_, rfl, rfl, Eq.trans ?_ (ren_still (still_one (still_GWindow _)) _)⟩; simp only [List.length_cons, List.length_map]; rfl)
    | (refine ⟨_, rfl, rfl, Eq.trans ?_ (ren_still (still_one ((still_GQuery true) _)) _)⟩; simp only [List.length_cons, List.length_map]; rfl)
    | (refine ⟨_, rfl, rfl, Eq.trans ?_ (ren_still (still_one ((still_GQuery false) _)) _)⟩; simp only [List.length_cons, List.length_map]; rfl)
    | (refine ⟨_, rfl, rfl, Eq.trans ?_ (ren_still (still_one (still_Gnodes_top _)) _)⟩; simp only [List.length_cons, List.length_map]; rfl)
    | (refine ⟨_, rfl, rfl, Eq.trans ?_ (ren_still (still_one (still_V2b _)) _)⟩; simp only [List.length_cons, List.length_map]; rfl)
    | (refine ⟨_, rfl, rfl, Eq.trans ?_ (ren_still (still_one ((fun _ => stillSc) _)) _)⟩; simp only [List.length_cons, List.length_map]; rfl)
    | (refine ⟨_, rfl, rfl, Eq.trans ?_ (ren_still (still_one ((fun _ => still_encl) _)) _)⟩; simp only [List.length_cons, List.length_map]; rfl)) : P := h
/-- An object of a canonical state. -/
theorem wkB {P : Prop} (h : P := by
  first
    | exact trivial
    | rfl
    | decide
    | exact ⟨_, rfl, rfl, rfl⟩
    | (refine ⟨_, rfl, rfl, ref1 ?_⟩; first | rfl | omega | (simp; done) | (simp; omega))
    | exact wkR0
    | exact wkR1
    | exact wkR2
    | (intro e he a ha; rw [List.mem_singleton.1 he] at ha; rw [List.mem_singleton.1 ha]; first | exact .sc | exact .list | exact .nils | exact .ref (by decide) | exact .ptr (by decide) | exact okFn0)
    | (intro e he a ha; simp at he; subst he; simp [AV.cells] at ha; first | (subst ha; exact .sc) | (rcases ha with rfl | rfl | rfl | rfl | rfl <;> exact .sc))) : P := h
/-- 'SemK.weakTo', its obligations met. -/
theorem wkT {P : Program} {nt n0 : Nat} {Q : AExit → St → Mu → Prop} {cf : Cf} {K : List Kn} {μ : Mu} {L L' : List (Nat × AV)} {G G' : List (Nat × Obj)} {n n' : Nat} (θ : List (Nat × Nat)) (h : SemK P nt n0 Q cf K ⟨fr L', hp G', n'⟩ μ)
    (hb : (fixB θ n0 && injB θ (G'.map (·.1)) && Nat.ble n0 n') = true := by rfl) (hL : wkL L θ n' L' := by repeat' first | refine And.intro ?_ ?_ | exact wkA) (hG : wkG G θ n' G' := by repeat' first | refine And.intro ?_ ?_ | exact wkB) : SemK P nt n0 Q cf K ⟨fr L, hp G, n⟩ μ := SemK.weakTo θ h hb hL hG
/-- 'run_to', its obligations met. -/
theorem runT {P : Program} {T : Ty} {nt n0 : Nat} {μ : Mu} {Q : AExit → St → Mu → Prop} {cf cf' : Cf} {K K' : List Kn} {L L' : List (Nat × AV)} {G G' : List (Nat × Obj)} {n n' : Nat} {hs' : List Hint} {ps' : List Prop} (hT : TyOk P T ∧ P.follows .mixedOrders = true) (hs : List Hint)
    (k : SemK P nt n0 Q cf' K' ⟨fr L', hp G', n'⟩ μ) (h : runS P T nt 4000 cf K L G n hs [] = some (cf', K', L', G', n', hs', ps') := by exact rfl) (hp' : allP ps' := by repeat' first | refine And.intro ?_ ?_ | exact oblA) : SemK P nt n0 Q cf K ⟨fr L, hp G, n⟩ μ := run_to hT 4000 hs h hp' k
end Go.Av
namespace Go.D
open Go.Av
def eqb_GOp (x y : GOp) : Bool := ((x.Kind == y.Kind) && ((x.N == y.N) && true))
def eqb_GRecord (x y : GRecord) : Bool := ((x.Key == y.Key) && ((x.Time == y.Time) && ((x.Value == y.Value) && true)))
def eqb_GSpan (x y : GSpan) : Bool := ((x.Start == y.Start) && ((x.End == y.End) && true))
def eqb_V2i64 (x y : (V2 Int)) : Bool := ((x.e0 == y.e0) && ((x.e1 == y.e1) && true))
def eqb_GRow (x y : GRow) : Bool := ((x.Key == y.Key) && ((eqb_GSpan x.Span y.Span) && ((eqb_V2i64 x.Values y.Values) && true)))
def eqb_GMessage (x y : GMessage) : Bool := ((x.Kind == y.Kind) && ((eqb_GRecord x.Record y.Record) && ((x.Time == y.Time) && ((eqb_GRow x.Row y.Row) && true))))
def eqb_GSend (x y : GSend) : Bool := ((x.Out == y.Out) && ((eqb_GMessage x.Message y.Message) && true))
def eqb_GAccum (x y : GAccum) : Bool := ((x.Count == y.Count) && ((x.Sum == y.Sum) && ((x.Min == y.Min) && ((x.Max == y.Max) && true))))
def eqb_V2GAccum (x y : (V2 GAccum)) : Bool := ((eqb_GAccum x.e0 y.e0) && ((eqb_GAccum x.e1 y.e1) && true))
def eqb_GEntry (x y : GEntry) : Bool := ((x.Key == y.Key) && ((eqb_GSpan x.Span y.Span) && ((eqb_V2GAccum x.Values y.Values) && true)))
def eqb_GEvent (x y : GEvent) : Bool := ((x.Mark == y.Mark) && ((x.Time == y.Time) && ((eqb_GRecord x.Record y.Record) && true)))
def eqb_GNode (x y : GNode) : Bool := ((x.Kind == y.Kind) && ((x.N == y.N) && ((x.A == y.A) && ((x.B == y.B) && ((x.At == y.At) && true)))))
def eqb_GWindow (x y : GWindow) : Bool := ((x.Kind == y.Kind) && ((x.Size == y.Size) && ((x.Every == y.Every) && true)))
def eqb_Gnodes_top (x y : Gnodes_top) : Bool := ((x.at_ == y.at_) && ((x.size == y.size) && ((x.depth == y.depth) && true)))
def eqb_V2b (x y : (V2 Bool)) : Bool := ((x.e0 == y.e0) && ((x.e1 == y.e1) && true))
def wf_GOp (x : GOp) : Prop := wfI .u8 x.Kind ∧ wfI .i64 x.N
def wf_GRecord (x : GRecord) : Prop := wfI .i64 x.Key ∧ wfI .i64 x.Time ∧ wfI .i64 x.Value
def wf_GSpan (x : GSpan) : Prop := wfI .i64 x.Start ∧ wfI .i64 x.End
def wf_V2i64 (x : (V2 Int)) : Prop := wfI .i64 x.e0 ∧ wfI .i64 x.e1
def wf_GRow (x : GRow) : Prop := wfI .i64 x.Key ∧ wf_GSpan x.Span ∧ wf_V2i64 x.Values
def wf_GMessage (x : GMessage) : Prop := wfI .u8 x.Kind ∧ wf_GRecord x.Record ∧ wfI .i64 x.Time ∧ wf_GRow x.Row
def wf_GSend (x : GSend) : Prop := wfI .i64 x.Out ∧ wf_GMessage x.Message
def wf_GAccum (x : GAccum) : Prop := wfI .i64 x.Count ∧ wfI .i64 x.Sum ∧ wfI .i64 x.Min ∧ wfI .i64 x.Max
def wf_V2GAccum (x : (V2 GAccum)) : Prop := wf_GAccum x.e0 ∧ wf_GAccum x.e1
def wf_GEntry (x : GEntry) : Prop := wfI .i64 x.Key ∧ wf_GSpan x.Span ∧ wf_V2GAccum x.Values
def wf_GEvent (x : GEvent) : Prop := True ∧ wfI .i64 x.Time ∧ wf_GRecord x.Record
def wf_GTask (x : GTask) : Prop := wf_GOp x.Op ∧ wfI .i64 x.Turn ∧ (List.length x.Pending ≤ maxLen ∧ ∀ y ∈ x.Pending, wf_GSend y) ∧ (List.length x.Marks ≤ maxLen ∧ ∀ y ∈ x.Marks, wfI .i64 y) ∧ (List.length x.Store ≤ maxLen ∧ ∀ y ∈ x.Store, wf_GEntry y) ∧ (List.length x.Events ≤ maxLen ∧ ∀ y ∈ x.Events, wf_GEvent y) ∧ (List.length x.Rows ≤ maxLen ∧ ∀ y ∈ x.Rows, wf_GRow y) ∧ (List.length x.Late ≤ maxLen ∧ ∀ y ∈ x.Late, wf_GRecord y)
def wf_GNode (x : GNode) : Prop := wfI .u8 x.Kind ∧ wfI .i64 x.N ∧ wfI .i64 x.A ∧ wfI .i64 x.B ∧ wfI .i64 x.At
def wf_GWindow (x : GWindow) : Prop := wfI .u8 x.Kind ∧ wfI .i64 x.Size ∧ wfI .i64 x.Every
def wf_GQuery (x : GQuery) : Prop := wfI .u8 x.Agg ∧ (List.length x.Arg ≤ maxLen ∧ ∀ y ∈ x.Arg, wf_GNode y) ∧ (List.length x.Sources ≤ maxLen ∧ ∀ y ∈ x.Sources, wfI .i64 y) ∧ True ∧ (List.length x.Where ≤ maxLen ∧ ∀ y ∈ x.Where, wf_GNode y) ∧ wf_GWindow x.Window ∧ True ∧ wfI .u8 x.Late
def wf_Gnodes_top (x : Gnodes_top) : Prop := wfI .i64 x.at_ ∧ wfI .i64 x.size ∧ wfI .i64 x.depth
def wf_V2b (x : (V2 Bool)) : Prop := True ∧ True
end Go.D
