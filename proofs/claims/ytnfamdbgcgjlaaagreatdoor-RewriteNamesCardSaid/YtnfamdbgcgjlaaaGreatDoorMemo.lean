/- Parts of the proof, laid together. -/
import Derived.Test.YtnfamdbgcgjlaaaGreatDoorAve
import Derived.Test.YtnfamdbgcgjlaaaGreatDoorAvd
import Derived.Test.YtnfamdbgcgjlaaaGreatDoorTabX
import Derived.Test.YtnfamdbgcgjlaaaGreatDoorGlX
import Derived.Test.YtnfamdbgcgjlaaaGreatDoorBld
set_option linter.all false
set_option maxRecDepth 1000000
namespace Go.Av.Tryz
open Go.Av Go.Av.X Go.Proofs Go.D
set_option maxHeartbeats 4000000
section
attribute [local instance] Go.Proofs.Tryz.gl0
theorem noX_ok : ExtOk Tryz.prog (fun _ => none) := fun _ _ h => by cases h
theorem noM_ok : MemoOk Tryz.prog (Tab.leaf : Tab Memo).find := memoOk_tab trivial
theorem mixed_ok : Tryz.prog.follows .mixedOrders = true := by kernel_rfl
theorem tx_1 : ∀ w, Calls Tryz.prog 28 #[.int .i64 (1)] w fun e w2 => e = .returned (.string ⟨⟨[49]⟩⟩) ∧ Go.RowKit.Below w.heap.size w w2 := fun w => Go.Proofs.Tryz.num_at (run_pureM mixed_ok noX_ok tyTab_ok fnTab_ok noM_ok (fuel := 3000) (d := 200) (by kernel_rfl)) w
theorem tx_0 : ∀ w, Calls Tryz.prog 28 #[.int .i64 (0)] w fun e w2 => e = .returned (.string ⟨⟨[48]⟩⟩) ∧ Go.RowKit.Below w.heap.size w w2 := fun w => Go.Proofs.Tryz.num_at (run_pureM mixed_ok noX_ok tyTab_ok fnTab_ok noM_ok (fuel := 3000) (d := 200) (by kernel_rfl)) w
theorem tx_5 : ∀ w, Calls Tryz.prog 28 #[.int .i64 (5)] w fun e w2 => e = .returned (.string ⟨⟨[53]⟩⟩) ∧ Go.RowKit.Below w.heap.size w w2 := fun w => Go.Proofs.Tryz.num_at (run_pureM mixed_ok noX_ok tyTab_ok fnTab_ok noM_ok (fuel := 3000) (d := 200) (by kernel_rfl)) w
theorem tx_6 : ∀ w, Calls Tryz.prog 28 #[.int .i64 (6)] w fun e w2 => e = .returned (.string ⟨⟨[54]⟩⟩) ∧ Go.RowKit.Below w.heap.size w w2 := fun w => Go.Proofs.Tryz.num_at (run_pureM mixed_ok noX_ok tyTab_ok fnTab_ok noM_ok (fuel := 3000) (d := 200) (by kernel_rfl)) w
end
noncomputable def Xt (f : Nat) : Option (List AV → Option AV) := bif Nat.beq f 155 then some ixG else none
theorem X_ok : ExtOk Tryz.prog Xt := by
  intro f g h
  unfold Xt at h
  cases hb : Nat.beq f 155 with
  | true => rw [hb, cond_true] at h; cases h; rw [Nat.eq_of_beq_eq_true hb]; exact ixG_ok Tryz.func155 (by kernel_rfl) (by kernel_rfl) (by kernel_rfl) (by kernel_rfl)
  | false =>
  rw [hb, cond_false] at h
  cases h
theorem tmI0 : TyOk Tryz.prog tyTab.find ∧ Tryz.prog.follows .mixedOrders = true := ⟨tyTab_ok, by kernel_rfl⟩
instance tmI : TmD Tryz.prog tyTab.find := ⟨tmI0⟩
def clauses_distinct_int (l : List Int) : Option Int := (lenOk (List.length l)).bind fun _ => some ((distinctL [] l).length : Int)
theorem Me_ok : MemoOk Tryz.prog (Tab.leaf : Tab Memo).find := memoOk_tab trivial
noncomputable def v0 : AV := .sc (.string ⟨⟨[115, 101, 108, 101, 99, 116, 32, 99, 111, 117, 110, 116, 40, 42, 41, 32, 102, 114, 111, 109, 32, 97, 32, 119, 104, 101, 114, 101, 32, 118, 32, 62, 32, 49, 32, 119, 105, 110, 100, 111, 119, 32, 115, 108, 105, 100, 101, 32, 54, 32, 101, 118, 101, 114, 121, 32, 53]⟩⟩)
noncomputable def v1 : AV := .agg [.sc (.int .u8 2), .sc (.string ⟨⟨[115, 101, 108, 101, 99, 116]⟩⟩), .sc (.int .i64 0)]
noncomputable def v2 : AV := .agg [.sc (.int .u8 2), .sc (.string ⟨⟨[99, 111, 117, 110, 116]⟩⟩), .sc (.int .i64 7)]
noncomputable def v3 : AV := .agg [.sc (.int .u8 2), .sc (.string ⟨⟨[102, 114, 111, 109]⟩⟩), .sc (.int .i64 16)]
noncomputable def v4 : AV := .agg [.sc (.int .u8 2), .sc (.string ⟨⟨[119, 104, 101, 114, 101]⟩⟩), .sc (.int .i64 23)]
noncomputable def v5 : AV := .agg [.sc (.int .u8 2), .sc (.string ⟨⟨[119, 105, 110, 100, 111, 119]⟩⟩), .sc (.int .i64 35)]
noncomputable def v6 : AV := .agg [.sc (.int .u8 2), .sc (.string ⟨⟨[115, 108, 105, 100, 101]⟩⟩), .sc (.int .i64 42)]
noncomputable def v7 : AV := .agg [.sc (.int .u8 2), .sc (.string ⟨⟨[101, 118, 101, 114, 121]⟩⟩), .sc (.int .i64 50)]
noncomputable def v8 : AV := .agg [.sc (.int .u8 4), .sc (.int .i64 0), .sc (.int .i64 0), .sc (.int .i64 0), .sc (.int .i64 29)]
noncomputable def v9 : AV := .agg [.sc (.int .u8 1), .sc (.int .i64 1), .sc (.int .i64 0), .sc (.int .i64 0), .sc (.int .i64 33)]
noncomputable def v10 : AV := .agg [.sc (.int .u8 14), .sc (.int .i64 0), .sc (.int .i64 0), .sc (.int .i64 1), .sc (.int .i64 31)]
noncomputable def v11 : AV := .list true [v8, v9, v10]
noncomputable def v12 : AV := .agg [.sc (.int .u8 1), .list true [], .list true [.sc (.int .i64 0)], .sc (.bool false), v11, .sc (.int .u8 2), .sc (.int .i64 6), .sc (.int .i64 5), .sc (.bool false), .sc (.int .u8 1)]
noncomputable def v13 : AV := .list false [v8, v9, v10]
noncomputable def v14 : AV := .agg [.sc (.int .u8 1), .list false [], .list false [.sc (.int .i64 0)], .sc (.bool false), v13, .sc (.int .u8 2), .sc (.int .i64 6), .sc (.int .i64 5), .sc (.bool false), .sc (.int .u8 1)]
noncomputable def v15 : AV := .tup [v12, .sc (.bool false), .sc (.int .i64 0)]
noncomputable def v16 : AV := .sc (.string ⟨⟨[115, 101, 108, 101, 99, 116, 32, 99, 111, 117, 110, 116, 40, 42, 41, 32, 102, 114, 111, 109, 32, 97, 32, 119, 104, 101, 114, 101, 32, 49, 32, 62, 32, 50, 32, 119, 105, 110, 100, 111, 119, 32, 115, 101, 115, 115, 105, 111, 110, 32, 54]⟩⟩)
noncomputable def v17 : AV := .agg [.sc (.int .u8 2), .sc (.string ⟨⟨[115, 101, 115, 115, 105, 111, 110]⟩⟩), .sc (.int .i64 42)]
noncomputable def v18 : AV := .agg [.sc (.int .u8 1), .sc (.int .i64 1), .sc (.int .i64 0), .sc (.int .i64 0), .sc (.int .i64 29)]
noncomputable def v19 : AV := .agg [.sc (.int .u8 1), .sc (.int .i64 2), .sc (.int .i64 0), .sc (.int .i64 0), .sc (.int .i64 33)]
noncomputable def v20 : AV := .list true [v18, v19, v10]
noncomputable def v21 : AV := .list false [v18, v19, v10]
noncomputable def v22 : AV := .agg [.sc (.int .u8 1), .sc (.int .i64 0), .sc (.int .i64 0), .sc (.int .i64 0), .sc (.int .i64 31)]
noncomputable def v23 : AV := .agg [.sc (.int .u8 17), .sc (.int .i64 0), .sc (.int .i64 0), .sc (.int .i64 1), .sc (.int .i64 31)]
noncomputable def v24 : AV := .list true [v22, v22, v23]
noncomputable def v25 : AV := .tup [v24, .sc (.int .i64 0)]
noncomputable def v26 : AV := .agg [.sc (.int .u8 1), .list false [], .list false [.sc (.int .i64 0)], .sc (.bool false), v21, .sc (.int .u8 3), .sc (.int .i64 6), .sc (.int .i64 0), .sc (.bool false), .sc (.int .u8 1)]
noncomputable def v27 : AV := .agg [.sc (.int .u8 1), .list true [], .list true [.sc (.int .i64 0)], .sc (.bool false), v24, .sc (.int .u8 3), .sc (.int .i64 6), .sc (.int .i64 0), .sc (.bool false), .sc (.int .u8 1)]
noncomputable def v28 : AV := .list false [v22, v22, v23]
noncomputable def v29 : AV := .sc (.string ⟨⟨[115, 101, 108, 101, 99, 116, 32, 99, 111, 117, 110, 116, 40, 42, 41, 32, 102, 114, 111, 109, 32, 97, 32, 119, 104, 101, 114, 101, 32, 48, 32, 33, 61, 32, 48, 32, 119, 105, 110, 100, 111, 119, 32, 115, 101, 115, 115, 105, 111, 110, 32, 54]⟩⟩)
noncomputable def v30 : AV := .sc (.string ⟨⟨[115, 101, 108, 101, 99, 116, 32, 109, 97, 120, 40, 48, 32, 45, 32, 53, 41, 32, 102, 114, 111, 109, 32, 97, 32, 106, 111, 105, 110, 32, 98, 32, 119, 105, 110, 100, 111, 119, 32, 116, 117, 109, 98, 108, 101, 32, 54]⟩⟩)
noncomputable def v31 : AV := .agg [.sc (.int .u8 2), .sc (.string ⟨⟨[109, 97, 120]⟩⟩), .sc (.int .i64 7)]
noncomputable def v32 : AV := .agg [.sc (.int .u8 2), .sc (.string ⟨⟨[102, 114, 111, 109]⟩⟩), .sc (.int .i64 18)]
noncomputable def v33 : AV := .agg [.sc (.int .u8 2), .sc (.string ⟨⟨[106, 111, 105, 110]⟩⟩), .sc (.int .i64 25)]
noncomputable def v34 : AV := .agg [.sc (.int .u8 2), .sc (.string ⟨⟨[119, 105, 110, 100, 111, 119]⟩⟩), .sc (.int .i64 32)]
noncomputable def v35 : AV := .agg [.sc (.int .u8 2), .sc (.string ⟨⟨[116, 117, 109, 98, 108, 101]⟩⟩), .sc (.int .i64 39)]
noncomputable def v36 : AV := .agg [.sc (.int .u8 1), .sc (.int .i64 0), .sc (.int .i64 0), .sc (.int .i64 0), .sc (.int .i64 11)]
noncomputable def v37 : AV := .agg [.sc (.int .u8 1), .sc (.int .i64 5), .sc (.int .i64 0), .sc (.int .i64 0), .sc (.int .i64 15)]
noncomputable def v38 : AV := .agg [.sc (.int .u8 9), .sc (.int .i64 0), .sc (.int .i64 0), .sc (.int .i64 1), .sc (.int .i64 13)]
noncomputable def v39 : AV := .list true [v36, v37, v38]
noncomputable def v40 : AV := .list false [v36, v37, v38]
noncomputable def v41 : AV := .agg [.sc (.int .u8 1), .sc (.int .i64 5), .sc (.int .i64 0), .sc (.int .i64 0), .sc (.int .i64 13)]
noncomputable def v42 : AV := .agg [.sc (.int .u8 5), .sc (.int .i64 0), .sc (.int .i64 0), .sc (.int .i64 0), .sc (.int .i64 13)]
noncomputable def v43 : AV := .list true [v41, v42]
noncomputable def v44 : AV := .tup [v43, .sc (.int .i64 0)]
noncomputable def v45 : AV := .agg [.sc (.int .u8 4), v40, .list false [.sc (.int .i64 0), .sc (.int .i64 1)], .sc (.bool true), .list false [], .sc (.int .u8 1), .sc (.int .i64 6), .sc (.int .i64 0), .sc (.bool false), .sc (.int .u8 1)]
noncomputable def v46 : AV := .agg [.sc (.int .u8 4), v43, .list true [.sc (.int .i64 0), .sc (.int .i64 1)], .sc (.bool true), .list true [], .sc (.int .u8 1), .sc (.int .i64 6), .sc (.int .i64 0), .sc (.bool false), .sc (.int .u8 1)]
noncomputable def v47 : AV := .list false [v41, v42]
noncomputable def v48 : AV := .sc (.string ⟨⟨[115, 101, 108, 101, 99, 116, 32, 109, 97, 120, 40, 45, 53, 41, 32, 102, 114, 111, 109, 32, 97, 32, 106, 111, 105, 110, 32, 98, 32, 119, 105, 110, 100, 111, 119, 32, 116, 117, 109, 98, 108, 101, 32, 54]⟩⟩)
noncomputable def v49 : AV := .sc (.string ⟨⟨[115, 101, 108, 101, 99, 116, 32, 109, 105, 110, 40, 49, 32, 43, 32, 50, 41, 32, 102, 114, 111, 109, 32, 97, 32, 119, 104, 101, 114, 101, 32, 49, 32, 61, 32, 49, 32, 119, 105, 110, 100, 111, 119, 32, 115, 108, 105, 100, 101, 32, 52, 32, 101, 118, 101, 114, 121, 32, 52, 32, 98, 121, 32, 107, 101, 121, 32, 108, 97, 116, 101, 32, 115, 105, 100, 101]⟩⟩)
noncomputable def v50 : AV := .agg [.sc (.int .u8 2), .sc (.string ⟨⟨[109, 105, 110]⟩⟩), .sc (.int .i64 7)]
noncomputable def v51 : AV := .agg [.sc (.int .u8 2), .sc (.string ⟨⟨[119, 104, 101, 114, 101]⟩⟩), .sc (.int .i64 25)]
noncomputable def v52 : AV := .agg [.sc (.int .u8 2), .sc (.string ⟨⟨[119, 105, 110, 100, 111, 119]⟩⟩), .sc (.int .i64 37)]
noncomputable def v53 : AV := .agg [.sc (.int .u8 2), .sc (.string ⟨⟨[115, 108, 105, 100, 101]⟩⟩), .sc (.int .i64 44)]
noncomputable def v54 : AV := .agg [.sc (.int .u8 2), .sc (.string ⟨⟨[101, 118, 101, 114, 121]⟩⟩), .sc (.int .i64 52)]
noncomputable def v55 : AV := .agg [.sc (.int .u8 2), .sc (.string ⟨⟨[98, 121]⟩⟩), .sc (.int .i64 60)]
noncomputable def v56 : AV := .agg [.sc (.int .u8 2), .sc (.string ⟨⟨[107, 101, 121]⟩⟩), .sc (.int .i64 63)]
noncomputable def v57 : AV := .agg [.sc (.int .u8 2), .sc (.string ⟨⟨[108, 97, 116, 101]⟩⟩), .sc (.int .i64 67)]
noncomputable def v58 : AV := .agg [.sc (.int .u8 2), .sc (.string ⟨⟨[115, 105, 100, 101]⟩⟩), .sc (.int .i64 72)]
noncomputable def v59 : AV := .list false [v1, v50, .agg [.sc (.int .u8 3), .sc (.string ⟨⟨[40]⟩⟩), .sc (.int .i64 10)], .agg [.sc (.int .u8 1), .sc (.string ⟨⟨[49]⟩⟩), .sc (.int .i64 11)], .agg [.sc (.int .u8 3), .sc (.string ⟨⟨[43]⟩⟩), .sc (.int .i64 13)], .agg [.sc (.int .u8 1), .sc (.string ⟨⟨[50]⟩⟩), .sc (.int .i64 15)], .agg [.sc (.int .u8 3), .sc (.string ⟨⟨[41]⟩⟩), .sc (.int .i64 16)], v32, .agg [.sc (.int .u8 2), .sc (.string ⟨⟨[97]⟩⟩), .sc (.int .i64 23)], v51, .agg [.sc (.int .u8 1), .sc (.string ⟨⟨[49]⟩⟩), .sc (.int .i64 31)], .agg [.sc (.int .u8 3), .sc (.string ⟨⟨[61]⟩⟩), .sc (.int .i64 33)], .agg [.sc (.int .u8 1), .sc (.string ⟨⟨[49]⟩⟩), .sc (.int .i64 35)], v52, v53, .agg [.sc (.int .u8 1), .sc (.string ⟨⟨[52]⟩⟩), .sc (.int .i64 50)], v54, .agg [.sc (.int .u8 1), .sc (.string ⟨⟨[52]⟩⟩), .sc (.int .i64 58)], v55, v56, v57, v58]
noncomputable def v60 : AV := .agg [.sc (.int .u8 1), .sc (.int .i64 1), .sc (.int .i64 0), .sc (.int .i64 0), .sc (.int .i64 11)]
noncomputable def v61 : AV := .agg [.sc (.int .u8 1), .sc (.int .i64 2), .sc (.int .i64 0), .sc (.int .i64 0), .sc (.int .i64 15)]
noncomputable def v62 : AV := .agg [.sc (.int .u8 8), .sc (.int .i64 0), .sc (.int .i64 0), .sc (.int .i64 1), .sc (.int .i64 13)]
noncomputable def v63 : AV := .list true [v60, v61, v62]
noncomputable def v64 : AV := .agg [.sc (.int .u8 1), .sc (.int .i64 1), .sc (.int .i64 0), .sc (.int .i64 0), .sc (.int .i64 31)]
noncomputable def v65 : AV := .agg [.sc (.int .u8 1), .sc (.int .i64 1), .sc (.int .i64 0), .sc (.int .i64 0), .sc (.int .i64 35)]
noncomputable def v66 : AV := .agg [.sc (.int .u8 16), .sc (.int .i64 0), .sc (.int .i64 0), .sc (.int .i64 1), .sc (.int .i64 33)]
noncomputable def v67 : AV := .list true [v64, v65, v66]
noncomputable def v68 : AV := .list false [v60, v61, v62]
noncomputable def v69 : AV := .list false [v64, v65, v66]
noncomputable def v70 : AV := .agg [.sc (.int .u8 1), .sc (.int .i64 0), .sc (.int .i64 0), .sc (.int .i64 0), .sc (.int .i64 33)]
noncomputable def v71 : AV := .sc (.string ⟨⟨[115, 101, 108, 101, 99, 116, 32, 115, 117, 109, 40, 118, 32, 43, 32, 40, 50, 32, 42, 32, 51, 41, 41, 32, 102, 114, 111, 109, 32, 97, 32, 119, 104, 101, 114, 101, 32, 49, 32, 60, 32, 50, 32, 119, 105, 110, 100, 111, 119, 32, 115, 108, 105, 100, 101, 32, 53, 32, 101, 118, 101, 114, 121, 32, 53]⟩⟩)
noncomputable def v72 : AV := .agg [.sc (.int .u8 2), .sc (.string ⟨⟨[115, 117, 109]⟩⟩), .sc (.int .i64 7)]
noncomputable def v73 : AV := .agg [.sc (.int .u8 2), .sc (.string ⟨⟨[102, 114, 111, 109]⟩⟩), .sc (.int .i64 24)]
noncomputable def v74 : AV := .agg [.sc (.int .u8 2), .sc (.string ⟨⟨[119, 104, 101, 114, 101]⟩⟩), .sc (.int .i64 31)]
noncomputable def v75 : AV := .agg [.sc (.int .u8 2), .sc (.string ⟨⟨[119, 105, 110, 100, 111, 119]⟩⟩), .sc (.int .i64 43)]
noncomputable def v76 : AV := .agg [.sc (.int .u8 2), .sc (.string ⟨⟨[115, 108, 105, 100, 101]⟩⟩), .sc (.int .i64 50)]
noncomputable def v77 : AV := .agg [.sc (.int .u8 2), .sc (.string ⟨⟨[101, 118, 101, 114, 121]⟩⟩), .sc (.int .i64 58)]
noncomputable def v78 : AV := .agg [.sc (.int .u8 4), .sc (.int .i64 0), .sc (.int .i64 0), .sc (.int .i64 0), .sc (.int .i64 11)]
noncomputable def v79 : AV := .agg [.sc (.int .u8 1), .sc (.int .i64 2), .sc (.int .i64 0), .sc (.int .i64 0), .sc (.int .i64 16)]
noncomputable def v80 : AV := .agg [.sc (.int .u8 1), .sc (.int .i64 3), .sc (.int .i64 0), .sc (.int .i64 0), .sc (.int .i64 20)]
noncomputable def v81 : AV := .list false [v79, v80, .agg [.sc (.int .u8 7), .sc (.int .i64 0), .sc (.int .i64 0), .sc (.int .i64 1), .sc (.int .i64 18)]]
noncomputable def v82 : AV := .agg [.sc (.int .u8 7), .sc (.int .i64 0), .sc (.int .i64 1), .sc (.int .i64 2), .sc (.int .i64 18)]
noncomputable def v83 : AV := .agg [.sc (.int .u8 8), .sc (.int .i64 0), .sc (.int .i64 0), .sc (.int .i64 3), .sc (.int .i64 13)]
noncomputable def v84 : AV := .list true [v78, v79, v80, v82, v83]
noncomputable def v85 : AV := .list false [v1, v72, .agg [.sc (.int .u8 3), .sc (.string ⟨⟨[40]⟩⟩), .sc (.int .i64 10)], .agg [.sc (.int .u8 2), .sc (.string ⟨⟨[118]⟩⟩), .sc (.int .i64 11)], .agg [.sc (.int .u8 3), .sc (.string ⟨⟨[43]⟩⟩), .sc (.int .i64 13)], .agg [.sc (.int .u8 3), .sc (.string ⟨⟨[40]⟩⟩), .sc (.int .i64 15)], .agg [.sc (.int .u8 1), .sc (.string ⟨⟨[50]⟩⟩), .sc (.int .i64 16)], .agg [.sc (.int .u8 3), .sc (.string ⟨⟨[42]⟩⟩), .sc (.int .i64 18)], .agg [.sc (.int .u8 1), .sc (.string ⟨⟨[51]⟩⟩), .sc (.int .i64 20)], .agg [.sc (.int .u8 3), .sc (.string ⟨⟨[41]⟩⟩), .sc (.int .i64 21)], .agg [.sc (.int .u8 3), .sc (.string ⟨⟨[41]⟩⟩), .sc (.int .i64 22)], v73, .agg [.sc (.int .u8 2), .sc (.string ⟨⟨[97]⟩⟩), .sc (.int .i64 29)], v74, .agg [.sc (.int .u8 1), .sc (.string ⟨⟨[49]⟩⟩), .sc (.int .i64 37)], .agg [.sc (.int .u8 3), .sc (.string ⟨⟨[60]⟩⟩), .sc (.int .i64 39)], .agg [.sc (.int .u8 1), .sc (.string ⟨⟨[50]⟩⟩), .sc (.int .i64 41)], v75, v76, .agg [.sc (.int .u8 1), .sc (.string ⟨⟨[53]⟩⟩), .sc (.int .i64 56)], v77, .agg [.sc (.int .u8 1), .sc (.string ⟨⟨[53]⟩⟩), .sc (.int .i64 64)]]
noncomputable def v86 : AV := .agg [.sc (.int .u8 1), .sc (.int .i64 1), .sc (.int .i64 0), .sc (.int .i64 0), .sc (.int .i64 37)]
noncomputable def v87 : AV := .agg [.sc (.int .u8 1), .sc (.int .i64 2), .sc (.int .i64 0), .sc (.int .i64 0), .sc (.int .i64 41)]
noncomputable def v88 : AV := .agg [.sc (.int .u8 12), .sc (.int .i64 0), .sc (.int .i64 0), .sc (.int .i64 1), .sc (.int .i64 39)]
noncomputable def v89 : AV := .list true [v86, v87, v88]
noncomputable def v90 : AV := .list false [v78, v79, v80, v82, v83]
noncomputable def v91 : AV := .list false [v86, v87, v88]
noncomputable def v92 : AV := .agg [.sc (.int .u8 2), v90, .list false [.sc (.int .i64 0)], .sc (.bool false), v91, .sc (.int .u8 2), .sc (.int .i64 5), .sc (.int .i64 5), .sc (.bool false), .sc (.int .u8 1)]
noncomputable def v93 : AV := .agg [.sc (.int .u8 1), .sc (.int .i64 6), .sc (.int .i64 0), .sc (.int .i64 0), .sc (.int .i64 18)]
noncomputable def v94 : AV := .list true [v78, v93, v62]
noncomputable def v95 : AV := .tup [v94, .sc (.int .i64 0)]
noncomputable def v96 : AV := .agg [.sc (.int .u8 1), .sc (.int .i64 0), .sc (.int .i64 0), .sc (.int .i64 0), .sc (.int .i64 39)]
noncomputable def v97 : AV := .agg [.sc (.int .u8 16), .sc (.int .i64 0), .sc (.int .i64 0), .sc (.int .i64 1), .sc (.int .i64 39)]
noncomputable def v98 : AV := .list false [v78, v93, v62]
noncomputable def v99 : AV := .list false [v96, v96, v97]
noncomputable def v100 : AV := .agg [.sc (.int .u8 2), v94, .list true [.sc (.int .i64 0)], .sc (.bool false), .list true [], .sc (.int .u8 1), .sc (.int .i64 5), .sc (.int .i64 0), .sc (.bool false), .sc (.int .u8 1)]
noncomputable def v101 : AV := .sc (.string ⟨⟨[115, 101, 108, 101, 99, 116, 32, 115, 117, 109, 40, 118, 32, 43, 32, 54, 41, 32, 102, 114, 111, 109, 32, 97, 32, 119, 105, 110, 100, 111, 119, 32, 116, 117, 109, 98, 108, 101, 32, 53]⟩⟩)
noncomputable def a_m0 : List AV := [.sc (.string ⟨⟨[99, 111, 117, 110, 116]⟩⟩)]
noncomputable def r_m0 : AV := .sc (.bool true)
noncomputable def a_m1 : List AV := [.sc (.string ⟨⟨[97]⟩⟩)]
noncomputable def r_m1 : AV := .sc (.bool true)
noncomputable def a_m2 : List AV := [.sc (.string ⟨⟨[118]⟩⟩)]
noncomputable def r_m2 : AV := .sc (.bool true)
noncomputable def a_m3 : List AV := [.sc (.string ⟨⟨[115, 108, 105, 100, 101]⟩⟩)]
noncomputable def r_m3 : AV := .sc (.bool true)
noncomputable def a_m4 : List AV := [.sc (.string ⟨⟨[101, 118, 101, 114, 121]⟩⟩)]
noncomputable def r_m4 : AV := .sc (.bool true)
noncomputable def a_m5 : List AV := [v0]
noncomputable def r_m5 : AV := .tup [.list true [v1, v2, .agg [.sc (.int .u8 3), .sc (.string ⟨⟨[40]⟩⟩), .sc (.int .i64 12)], .agg [.sc (.int .u8 3), .sc (.string ⟨⟨[42]⟩⟩), .sc (.int .i64 13)], .agg [.sc (.int .u8 3), .sc (.string ⟨⟨[41]⟩⟩), .sc (.int .i64 14)], v3, .agg [.sc (.int .u8 2), .sc (.string ⟨⟨[97]⟩⟩), .sc (.int .i64 21)], v4, .agg [.sc (.int .u8 2), .sc (.string ⟨⟨[118]⟩⟩), .sc (.int .i64 29)], .agg [.sc (.int .u8 3), .sc (.string ⟨⟨[62]⟩⟩), .sc (.int .i64 31)], .agg [.sc (.int .u8 1), .sc (.string ⟨⟨[49]⟩⟩), .sc (.int .i64 33)], v5, v6, .agg [.sc (.int .u8 1), .sc (.string ⟨⟨[54]⟩⟩), .sc (.int .i64 48)], v7, .agg [.sc (.int .u8 1), .sc (.string ⟨⟨[53]⟩⟩), .sc (.int .i64 56)]], .sc (.int .i64 57), .sc (.int .i64 0)]
noncomputable def a_m6 : List AV := [.list false [v1, v2, .agg [.sc (.int .u8 3), .sc (.string ⟨⟨[40]⟩⟩), .sc (.int .i64 12)], .agg [.sc (.int .u8 3), .sc (.string ⟨⟨[42]⟩⟩), .sc (.int .i64 13)], .agg [.sc (.int .u8 3), .sc (.string ⟨⟨[41]⟩⟩), .sc (.int .i64 14)], v3, .agg [.sc (.int .u8 2), .sc (.string ⟨⟨[97]⟩⟩), .sc (.int .i64 21)], v4, .agg [.sc (.int .u8 2), .sc (.string ⟨⟨[118]⟩⟩), .sc (.int .i64 29)], .agg [.sc (.int .u8 3), .sc (.string ⟨⟨[62]⟩⟩), .sc (.int .i64 31)], .agg [.sc (.int .u8 1), .sc (.string ⟨⟨[49]⟩⟩), .sc (.int .i64 33)], v5, v6, .agg [.sc (.int .u8 1), .sc (.string ⟨⟨[54]⟩⟩), .sc (.int .i64 48)], v7, .agg [.sc (.int .u8 1), .sc (.string ⟨⟨[53]⟩⟩), .sc (.int .i64 56)]], .sc (.int .i64 8)]
noncomputable def r_m6 : AV := .tup [v11, .sc (.int .i64 11), .sc (.int .i64 0)]
noncomputable def a_m7 : List AV := [v0]
noncomputable def r_m7 : AV := .tup [v12, .sc (.int .i64 57), .sc (.int .i64 0)]
noncomputable def a_m8 : List AV := [.list false [.sc (.int .i64 0)]]
noncomputable def r_m8 : AV := .sc (.int .i64 1)
noncomputable def a_m9 : List AV := [.list false []]
noncomputable def r_m9 : AV := .nils
noncomputable def a_m10 : List AV := [v13]
noncomputable def r_m10 : AV := .tup [v11, .sc (.int .i64 0)]
noncomputable def a_m11 : List AV := [v14, .sc (.int .i64 1)]
noncomputable def r_m11 : AV := v15
noncomputable def a_m12 : List AV := [v14, .sc (.int .i64 2)]
noncomputable def r_m12 : AV := v15
noncomputable def a_m13 : List AV := [v14]
noncomputable def r_m13 : AV := .tup [v12, .sc (.int .i64 0)]
noncomputable def a_m14 : List AV := [v13]
noncomputable def r_m14 : AV := .tup [.sc (.string ⟨⟨[118, 32, 62, 32, 49]⟩⟩), .sc (.int .i64 0)]
noncomputable def a_m15 : List AV := [.list false [.sc (.string ⟨⟨[115, 101, 108, 101, 99, 116]⟩⟩), .sc (.string ⟨⟨[99, 111, 117, 110, 116, 40, 42, 41]⟩⟩), .sc (.string ⟨⟨[102, 114, 111, 109]⟩⟩), .sc (.string ⟨⟨[97]⟩⟩), .sc (.string ⟨⟨[119, 104, 101, 114, 101]⟩⟩), .sc (.string ⟨⟨[118, 32, 62, 32, 49]⟩⟩), .sc (.string ⟨⟨[119, 105, 110, 100, 111, 119]⟩⟩), .sc (.string ⟨⟨[115, 108, 105, 100, 101]⟩⟩), .sc (.string ⟨⟨[54]⟩⟩), .sc (.string ⟨⟨[101, 118, 101, 114, 121]⟩⟩), .sc (.string ⟨⟨[53]⟩⟩)], .sc (.string ⟨⟨[32]⟩⟩)]
noncomputable def r_m15 : AV := v0
noncomputable def a_m16 : List AV := [v0, v0]
noncomputable def r_m16 : AV := .sc (.bool true)
noncomputable def a_m17 : List AV := [.sc (.string ⟨⟨[115, 101, 115, 115, 105, 111, 110]⟩⟩)]
noncomputable def r_m17 : AV := .sc (.bool true)
noncomputable def a_m18 : List AV := [v16]
noncomputable def r_m18 : AV := .tup [.list true [v1, v2, .agg [.sc (.int .u8 3), .sc (.string ⟨⟨[40]⟩⟩), .sc (.int .i64 12)], .agg [.sc (.int .u8 3), .sc (.string ⟨⟨[42]⟩⟩), .sc (.int .i64 13)], .agg [.sc (.int .u8 3), .sc (.string ⟨⟨[41]⟩⟩), .sc (.int .i64 14)], v3, .agg [.sc (.int .u8 2), .sc (.string ⟨⟨[97]⟩⟩), .sc (.int .i64 21)], v4, .agg [.sc (.int .u8 1), .sc (.string ⟨⟨[49]⟩⟩), .sc (.int .i64 29)], .agg [.sc (.int .u8 3), .sc (.string ⟨⟨[62]⟩⟩), .sc (.int .i64 31)], .agg [.sc (.int .u8 1), .sc (.string ⟨⟨[50]⟩⟩), .sc (.int .i64 33)], v5, v17, .agg [.sc (.int .u8 1), .sc (.string ⟨⟨[54]⟩⟩), .sc (.int .i64 50)]], .sc (.int .i64 51), .sc (.int .i64 0)]
noncomputable def a_m19 : List AV := [.list false [v1, v2, .agg [.sc (.int .u8 3), .sc (.string ⟨⟨[40]⟩⟩), .sc (.int .i64 12)], .agg [.sc (.int .u8 3), .sc (.string ⟨⟨[42]⟩⟩), .sc (.int .i64 13)], .agg [.sc (.int .u8 3), .sc (.string ⟨⟨[41]⟩⟩), .sc (.int .i64 14)], v3, .agg [.sc (.int .u8 2), .sc (.string ⟨⟨[97]⟩⟩), .sc (.int .i64 21)], v4, .agg [.sc (.int .u8 1), .sc (.string ⟨⟨[49]⟩⟩), .sc (.int .i64 29)], .agg [.sc (.int .u8 3), .sc (.string ⟨⟨[62]⟩⟩), .sc (.int .i64 31)], .agg [.sc (.int .u8 1), .sc (.string ⟨⟨[50]⟩⟩), .sc (.int .i64 33)], v5, v17, .agg [.sc (.int .u8 1), .sc (.string ⟨⟨[54]⟩⟩), .sc (.int .i64 50)]], .sc (.int .i64 8)]
noncomputable def r_m19 : AV := .tup [v20, .sc (.int .i64 11), .sc (.int .i64 0)]
noncomputable def a_m20 : List AV := [v16]
noncomputable def r_m20 : AV := .tup [.agg [.sc (.int .u8 1), .list true [], .list true [.sc (.int .i64 0)], .sc (.bool false), v20, .sc (.int .u8 3), .sc (.int .i64 6), .sc (.int .i64 0), .sc (.bool false), .sc (.int .u8 1)], .sc (.int .i64 51), .sc (.int .i64 0)]
noncomputable def a_m21 : List AV := [v21]
noncomputable def r_m21 : AV := .tup [.sc (.int .i64 0), .sc (.bool true), .sc (.int .i64 0)]
noncomputable def a_m22 : List AV := [v21]
noncomputable def r_m22 : AV := v25
noncomputable def a_m23 : List AV := [v26, .sc (.int .i64 1)]
noncomputable def r_m23 : AV := .tup [v27, .sc (.bool true), .sc (.int .i64 0)]
noncomputable def a_m24 : List AV := [v28]
noncomputable def r_m24 : AV := .tup [.sc (.int .i64 0), .sc (.bool true), .sc (.int .i64 0)]
noncomputable def a_m25 : List AV := [v28]
noncomputable def r_m25 : AV := v25
noncomputable def a_m26 : List AV := [.agg [.sc (.int .u8 1), .list false [], .list false [.sc (.int .i64 0)], .sc (.bool false), v28, .sc (.int .u8 3), .sc (.int .i64 6), .sc (.int .i64 0), .sc (.bool false), .sc (.int .u8 1)], .sc (.int .i64 1)]
noncomputable def r_m26 : AV := .tup [v27, .sc (.bool false), .sc (.int .i64 0)]
noncomputable def a_m27 : List AV := [v26]
noncomputable def r_m27 : AV := .tup [v27, .sc (.int .i64 0)]
noncomputable def a_m28 : List AV := [v28]
noncomputable def r_m28 : AV := .tup [.sc (.string ⟨⟨[48, 32, 33, 61, 32, 48]⟩⟩), .sc (.int .i64 0)]
noncomputable def a_m29 : List AV := [.list false [.sc (.string ⟨⟨[115, 101, 108, 101, 99, 116]⟩⟩), .sc (.string ⟨⟨[99, 111, 117, 110, 116, 40, 42, 41]⟩⟩), .sc (.string ⟨⟨[102, 114, 111, 109]⟩⟩), .sc (.string ⟨⟨[97]⟩⟩), .sc (.string ⟨⟨[119, 104, 101, 114, 101]⟩⟩), .sc (.string ⟨⟨[48, 32, 33, 61, 32, 48]⟩⟩), .sc (.string ⟨⟨[119, 105, 110, 100, 111, 119]⟩⟩), .sc (.string ⟨⟨[115, 101, 115, 115, 105, 111, 110]⟩⟩), .sc (.string ⟨⟨[54]⟩⟩)], .sc (.string ⟨⟨[32]⟩⟩)]
noncomputable def r_m29 : AV := v29
noncomputable def a_m30 : List AV := [v29]
noncomputable def r_m30 : AV := .tup [.list true [v1, v2, .agg [.sc (.int .u8 3), .sc (.string ⟨⟨[40]⟩⟩), .sc (.int .i64 12)], .agg [.sc (.int .u8 3), .sc (.string ⟨⟨[42]⟩⟩), .sc (.int .i64 13)], .agg [.sc (.int .u8 3), .sc (.string ⟨⟨[41]⟩⟩), .sc (.int .i64 14)], v3, .agg [.sc (.int .u8 2), .sc (.string ⟨⟨[97]⟩⟩), .sc (.int .i64 21)], v4, .agg [.sc (.int .u8 1), .sc (.string ⟨⟨[48]⟩⟩), .sc (.int .i64 29)], .agg [.sc (.int .u8 3), .sc (.string ⟨⟨[33, 61]⟩⟩), .sc (.int .i64 31)], .agg [.sc (.int .u8 1), .sc (.string ⟨⟨[48]⟩⟩), .sc (.int .i64 34)], .agg [.sc (.int .u8 2), .sc (.string ⟨⟨[119, 105, 110, 100, 111, 119]⟩⟩), .sc (.int .i64 36)], .agg [.sc (.int .u8 2), .sc (.string ⟨⟨[115, 101, 115, 115, 105, 111, 110]⟩⟩), .sc (.int .i64 43)], .agg [.sc (.int .u8 1), .sc (.string ⟨⟨[54]⟩⟩), .sc (.int .i64 51)]], .sc (.int .i64 52), .sc (.int .i64 0)]
noncomputable def a_m31 : List AV := [v16, v29]
noncomputable def r_m31 : AV := .sc (.bool true)
noncomputable def a_m32 : List AV := [.sc (.string ⟨⟨[109, 97, 120]⟩⟩)]
noncomputable def r_m32 : AV := .sc (.bool true)
noncomputable def a_m33 : List AV := [.sc (.string ⟨⟨[106, 111, 105, 110]⟩⟩)]
noncomputable def r_m33 : AV := .sc (.bool true)
noncomputable def a_m34 : List AV := [.sc (.string ⟨⟨[98]⟩⟩)]
noncomputable def r_m34 : AV := .sc (.bool true)
noncomputable def a_m35 : List AV := [.sc (.string ⟨⟨[116, 117, 109, 98, 108, 101]⟩⟩)]
noncomputable def r_m35 : AV := .sc (.bool true)
noncomputable def a_m36 : List AV := [v30]
noncomputable def r_m36 : AV := .tup [.list true [v1, v31, .agg [.sc (.int .u8 3), .sc (.string ⟨⟨[40]⟩⟩), .sc (.int .i64 10)], .agg [.sc (.int .u8 1), .sc (.string ⟨⟨[48]⟩⟩), .sc (.int .i64 11)], .agg [.sc (.int .u8 3), .sc (.string ⟨⟨[45]⟩⟩), .sc (.int .i64 13)], .agg [.sc (.int .u8 1), .sc (.string ⟨⟨[53]⟩⟩), .sc (.int .i64 15)], .agg [.sc (.int .u8 3), .sc (.string ⟨⟨[41]⟩⟩), .sc (.int .i64 16)], v32, .agg [.sc (.int .u8 2), .sc (.string ⟨⟨[97]⟩⟩), .sc (.int .i64 23)], v33, .agg [.sc (.int .u8 2), .sc (.string ⟨⟨[98]⟩⟩), .sc (.int .i64 30)], v34, v35, .agg [.sc (.int .u8 1), .sc (.string ⟨⟨[54]⟩⟩), .sc (.int .i64 46)]], .sc (.int .i64 47), .sc (.int .i64 0)]
noncomputable def a_m37 : List AV := [.list false [v1, v31, .agg [.sc (.int .u8 3), .sc (.string ⟨⟨[40]⟩⟩), .sc (.int .i64 10)], .agg [.sc (.int .u8 1), .sc (.string ⟨⟨[48]⟩⟩), .sc (.int .i64 11)], .agg [.sc (.int .u8 3), .sc (.string ⟨⟨[45]⟩⟩), .sc (.int .i64 13)], .agg [.sc (.int .u8 1), .sc (.string ⟨⟨[53]⟩⟩), .sc (.int .i64 15)], .agg [.sc (.int .u8 3), .sc (.string ⟨⟨[41]⟩⟩), .sc (.int .i64 16)], v32, .agg [.sc (.int .u8 2), .sc (.string ⟨⟨[97]⟩⟩), .sc (.int .i64 23)], v33, .agg [.sc (.int .u8 2), .sc (.string ⟨⟨[98]⟩⟩), .sc (.int .i64 30)], v34, v35, .agg [.sc (.int .u8 1), .sc (.string ⟨⟨[54]⟩⟩), .sc (.int .i64 46)]], .sc (.int .i64 3)]
noncomputable def r_m37 : AV := .tup [v39, .sc (.int .i64 6), .sc (.int .i64 0)]
noncomputable def a_m38 : List AV := [v30]
noncomputable def r_m38 : AV := .tup [.agg [.sc (.int .u8 4), v39, .list true [.sc (.int .i64 0), .sc (.int .i64 1)], .sc (.bool true), .list true [], .sc (.int .u8 1), .sc (.int .i64 6), .sc (.int .i64 0), .sc (.bool false), .sc (.int .u8 1)], .sc (.int .i64 47), .sc (.int .i64 0)]
noncomputable def a_m39 : List AV := [.list false [.sc (.int .i64 0), .sc (.int .i64 1)]]
noncomputable def r_m39 : AV := .sc (.int .i64 2)
noncomputable def a_m40 : List AV := [v40]
noncomputable def r_m40 : AV := .tup [.sc (.int .i64 (-5)), .sc (.bool true), .sc (.int .i64 0)]
noncomputable def a_m41 : List AV := [v40]
noncomputable def r_m41 : AV := v44
noncomputable def a_m42 : List AV := [v45, .sc (.int .i64 1)]
noncomputable def r_m42 : AV := .tup [v46, .sc (.bool true), .sc (.int .i64 0)]
noncomputable def a_m43 : List AV := [v47]
noncomputable def r_m43 : AV := v44
noncomputable def a_m44 : List AV := [.agg [.sc (.int .u8 4), v47, .list false [.sc (.int .i64 0), .sc (.int .i64 1)], .sc (.bool true), .list false [], .sc (.int .u8 1), .sc (.int .i64 6), .sc (.int .i64 0), .sc (.bool false), .sc (.int .u8 1)], .sc (.int .i64 1)]
noncomputable def r_m44 : AV := .tup [v46, .sc (.bool false), .sc (.int .i64 0)]
noncomputable def a_m45 : List AV := [v45]
noncomputable def r_m45 : AV := .tup [v46, .sc (.int .i64 0)]
noncomputable def a_m46 : List AV := [v47]
noncomputable def r_m46 : AV := .tup [.sc (.string ⟨⟨[45, 53]⟩⟩), .sc (.int .i64 0)]
noncomputable def a_m47 : List AV := [.list false [.sc (.string ⟨⟨[115, 101, 108, 101, 99, 116]⟩⟩), .sc (.string ⟨⟨[109, 97, 120, 40, 45, 53, 41]⟩⟩), .sc (.string ⟨⟨[102, 114, 111, 109]⟩⟩), .sc (.string ⟨⟨[97]⟩⟩), .sc (.string ⟨⟨[106, 111, 105, 110]⟩⟩), .sc (.string ⟨⟨[98]⟩⟩), .sc (.string ⟨⟨[119, 105, 110, 100, 111, 119]⟩⟩), .sc (.string ⟨⟨[116, 117, 109, 98, 108, 101]⟩⟩), .sc (.string ⟨⟨[54]⟩⟩)], .sc (.string ⟨⟨[32]⟩⟩)]
noncomputable def r_m47 : AV := v48
noncomputable def a_m48 : List AV := [v48]
noncomputable def r_m48 : AV := .tup [.list true [v1, v31, .agg [.sc (.int .u8 3), .sc (.string ⟨⟨[40]⟩⟩), .sc (.int .i64 10)], .agg [.sc (.int .u8 3), .sc (.string ⟨⟨[45]⟩⟩), .sc (.int .i64 11)], .agg [.sc (.int .u8 1), .sc (.string ⟨⟨[53]⟩⟩), .sc (.int .i64 12)], .agg [.sc (.int .u8 3), .sc (.string ⟨⟨[41]⟩⟩), .sc (.int .i64 13)], .agg [.sc (.int .u8 2), .sc (.string ⟨⟨[102, 114, 111, 109]⟩⟩), .sc (.int .i64 15)], .agg [.sc (.int .u8 2), .sc (.string ⟨⟨[97]⟩⟩), .sc (.int .i64 20)], .agg [.sc (.int .u8 2), .sc (.string ⟨⟨[106, 111, 105, 110]⟩⟩), .sc (.int .i64 22)], .agg [.sc (.int .u8 2), .sc (.string ⟨⟨[98]⟩⟩), .sc (.int .i64 27)], .agg [.sc (.int .u8 2), .sc (.string ⟨⟨[119, 105, 110, 100, 111, 119]⟩⟩), .sc (.int .i64 29)], .agg [.sc (.int .u8 2), .sc (.string ⟨⟨[116, 117, 109, 98, 108, 101]⟩⟩), .sc (.int .i64 36)], .agg [.sc (.int .u8 1), .sc (.string ⟨⟨[54]⟩⟩), .sc (.int .i64 43)]], .sc (.int .i64 44), .sc (.int .i64 0)]
noncomputable def a_m49 : List AV := [v30, v48]
noncomputable def r_m49 : AV := .sc (.bool true)
noncomputable def a_m50 : List AV := [.sc (.string ⟨⟨[109, 105, 110]⟩⟩)]
noncomputable def r_m50 : AV := .sc (.bool true)
noncomputable def a_m51 : List AV := [v49]
noncomputable def r_m51 : AV := .tup [.list true [v1, v50, .agg [.sc (.int .u8 3), .sc (.string ⟨⟨[40]⟩⟩), .sc (.int .i64 10)], .agg [.sc (.int .u8 1), .sc (.string ⟨⟨[49]⟩⟩), .sc (.int .i64 11)], .agg [.sc (.int .u8 3), .sc (.string ⟨⟨[43]⟩⟩), .sc (.int .i64 13)], .agg [.sc (.int .u8 1), .sc (.string ⟨⟨[50]⟩⟩), .sc (.int .i64 15)], .agg [.sc (.int .u8 3), .sc (.string ⟨⟨[41]⟩⟩), .sc (.int .i64 16)], v32, .agg [.sc (.int .u8 2), .sc (.string ⟨⟨[97]⟩⟩), .sc (.int .i64 23)], v51, .agg [.sc (.int .u8 1), .sc (.string ⟨⟨[49]⟩⟩), .sc (.int .i64 31)], .agg [.sc (.int .u8 3), .sc (.string ⟨⟨[61]⟩⟩), .sc (.int .i64 33)], .agg [.sc (.int .u8 1), .sc (.string ⟨⟨[49]⟩⟩), .sc (.int .i64 35)], v52, v53, .agg [.sc (.int .u8 1), .sc (.string ⟨⟨[52]⟩⟩), .sc (.int .i64 50)], v54, .agg [.sc (.int .u8 1), .sc (.string ⟨⟨[52]⟩⟩), .sc (.int .i64 58)], v55, v56, v57, v58], .sc (.int .i64 76), .sc (.int .i64 0)]
noncomputable def a_m52 : List AV := [v59, .sc (.int .i64 3)]
noncomputable def r_m52 : AV := .tup [v63, .sc (.int .i64 6), .sc (.int .i64 0)]
noncomputable def a_m53 : List AV := [v59, .sc (.int .i64 10)]
noncomputable def r_m53 : AV := .tup [v67, .sc (.int .i64 13), .sc (.int .i64 0)]
noncomputable def a_m54 : List AV := [v49]
noncomputable def r_m54 : AV := .tup [.agg [.sc (.int .u8 3), v63, .list true [.sc (.int .i64 0)], .sc (.bool false), v67, .sc (.int .u8 2), .sc (.int .i64 4), .sc (.int .i64 4), .sc (.bool true), .sc (.int .u8 2)], .sc (.int .i64 76), .sc (.int .i64 0)]
noncomputable def a_m55 : List AV := [.agg [.sc (.int .u8 3), v68, .list false [.sc (.int .i64 0)], .sc (.bool false), v69, .sc (.int .u8 2), .sc (.int .i64 4), .sc (.int .i64 4), .sc (.bool true), .sc (.int .u8 2)]]
noncomputable def r_m55 : AV := .tup [.sc (.int .i64 0), .sc (.int .i64 0)]
noncomputable def a_m56 : List AV := [v68]
noncomputable def r_m56 : AV := .tup [.sc (.int .i64 3), .sc (.bool true), .sc (.int .i64 0)]
noncomputable def a_m57 : List AV := [v68]
noncomputable def r_m57 : AV := .tup [.list true [.agg [.sc (.int .u8 1), .sc (.int .i64 3), .sc (.int .i64 0), .sc (.int .i64 0), .sc (.int .i64 13)]], .sc (.int .i64 0)]
noncomputable def a_m58 : List AV := [v69]
noncomputable def r_m58 : AV := .tup [.sc (.int .i64 1), .sc (.bool true), .sc (.int .i64 0)]
noncomputable def a_m59 : List AV := [v69]
noncomputable def r_m59 : AV := .tup [.list true [v70, v70, v66], .sc (.int .i64 0)]
noncomputable def a_m60 : List AV := [.agg [.sc (.int .u8 3), v68, .list false [.sc (.int .i64 0)], .sc (.bool false), v69, .sc (.int .u8 1), .sc (.int .i64 4), .sc (.int .i64 0), .sc (.bool true), .sc (.int .u8 2)]]
noncomputable def r_m60 : AV := .tup [.sc (.int .i64 0), .sc (.int .i64 0)]
noncomputable def a_m61 : List AV := [.sc (.string ⟨⟨[115, 117, 109]⟩⟩)]
noncomputable def r_m61 : AV := .sc (.bool true)
noncomputable def a_m62 : List AV := [v71]
noncomputable def r_m62 : AV := .tup [.list true [v1, v72, .agg [.sc (.int .u8 3), .sc (.string ⟨⟨[40]⟩⟩), .sc (.int .i64 10)], .agg [.sc (.int .u8 2), .sc (.string ⟨⟨[118]⟩⟩), .sc (.int .i64 11)], .agg [.sc (.int .u8 3), .sc (.string ⟨⟨[43]⟩⟩), .sc (.int .i64 13)], .agg [.sc (.int .u8 3), .sc (.string ⟨⟨[40]⟩⟩), .sc (.int .i64 15)], .agg [.sc (.int .u8 1), .sc (.string ⟨⟨[50]⟩⟩), .sc (.int .i64 16)], .agg [.sc (.int .u8 3), .sc (.string ⟨⟨[42]⟩⟩), .sc (.int .i64 18)], .agg [.sc (.int .u8 1), .sc (.string ⟨⟨[51]⟩⟩), .sc (.int .i64 20)], .agg [.sc (.int .u8 3), .sc (.string ⟨⟨[41]⟩⟩), .sc (.int .i64 21)], .agg [.sc (.int .u8 3), .sc (.string ⟨⟨[41]⟩⟩), .sc (.int .i64 22)], v73, .agg [.sc (.int .u8 2), .sc (.string ⟨⟨[97]⟩⟩), .sc (.int .i64 29)], v74, .agg [.sc (.int .u8 1), .sc (.string ⟨⟨[49]⟩⟩), .sc (.int .i64 37)], .agg [.sc (.int .u8 3), .sc (.string ⟨⟨[60]⟩⟩), .sc (.int .i64 39)], .agg [.sc (.int .u8 1), .sc (.string ⟨⟨[50]⟩⟩), .sc (.int .i64 41)], v75, v76, .agg [.sc (.int .u8 1), .sc (.string ⟨⟨[53]⟩⟩), .sc (.int .i64 56)], v77, .agg [.sc (.int .u8 1), .sc (.string ⟨⟨[53]⟩⟩), .sc (.int .i64 64)]], .sc (.int .i64 65), .sc (.int .i64 0)]
noncomputable def a_m63 : List AV := [.sc (.int .u8 8), .sc (.int .i64 0), .sc (.int .i64 13), .list false [.list false [v78], v81]]
noncomputable def r_m63 : AV := .tup [v84, .sc (.int .i64 0)]
noncomputable def a_m64 : List AV := [v85, .sc (.int .i64 3)]
noncomputable def r_m64 : AV := .tup [v84, .sc (.int .i64 10), .sc (.int .i64 0)]
noncomputable def a_m65 : List AV := [v85, .sc (.int .i64 14)]
noncomputable def r_m65 : AV := .tup [v89, .sc (.int .i64 17), .sc (.int .i64 0)]
noncomputable def a_m66 : List AV := [v71]
noncomputable def r_m66 : AV := .tup [.agg [.sc (.int .u8 2), v84, .list true [.sc (.int .i64 0)], .sc (.bool false), v89, .sc (.int .u8 2), .sc (.int .i64 5), .sc (.int .i64 5), .sc (.bool false), .sc (.int .u8 1)], .sc (.int .i64 65), .sc (.int .i64 0)]
noncomputable def a_m67 : List AV := [v92]
noncomputable def r_m67 : AV := .tup [.sc (.int .i64 0), .sc (.int .i64 0)]
noncomputable def a_m68 : List AV := [v90]
noncomputable def r_m68 : AV := .tup [.sc (.int .i64 0), .sc (.bool false), .sc (.int .i64 0)]
noncomputable def a_m69 : List AV := [v81]
noncomputable def r_m69 : AV := .tup [.sc (.int .i64 6), .sc (.bool true), .sc (.int .i64 0)]
noncomputable def a_m70 : List AV := [v90]
noncomputable def r_m70 : AV := v95
noncomputable def a_m71 : List AV := [v91]
noncomputable def r_m71 : AV := .tup [.sc (.int .i64 1), .sc (.bool true), .sc (.int .i64 0)]
noncomputable def a_m72 : List AV := [v91]
noncomputable def r_m72 : AV := .tup [.list true [v96, v96, v97], .sc (.int .i64 0)]
noncomputable def a_m73 : List AV := [.agg [.sc (.int .u8 2), v98, .list false [.sc (.int .i64 0)], .sc (.bool false), v99, .sc (.int .u8 2), .sc (.int .i64 5), .sc (.int .i64 5), .sc (.bool false), .sc (.int .u8 1)]]
noncomputable def r_m73 : AV := .tup [.sc (.int .i64 0), .sc (.int .i64 0)]
noncomputable def a_m74 : List AV := [v99]
noncomputable def r_m74 : AV := .tup [.sc (.int .i64 1), .sc (.bool true), .sc (.int .i64 0)]
noncomputable def a_m75 : List AV := [v98]
noncomputable def r_m75 : AV := v95
noncomputable def a_m76 : List AV := [.agg [.sc (.int .u8 2), v98, .list false [.sc (.int .i64 0)], .sc (.bool false), .list false [], .sc (.int .u8 1), .sc (.int .i64 5), .sc (.int .i64 0), .sc (.bool false), .sc (.int .u8 1)], .sc (.int .i64 1)]
noncomputable def r_m76 : AV := .tup [v100, .sc (.bool false), .sc (.int .i64 0)]
noncomputable def a_m77 : List AV := [v92]
noncomputable def r_m77 : AV := .tup [v100, .sc (.int .i64 0)]
noncomputable def a_m78 : List AV := [v98]
noncomputable def r_m78 : AV := .tup [.sc (.string ⟨⟨[118, 32, 43, 32, 54]⟩⟩), .sc (.int .i64 0)]
noncomputable def a_m79 : List AV := [.list false [.sc (.string ⟨⟨[115, 101, 108, 101, 99, 116]⟩⟩), .sc (.string ⟨⟨[115, 117, 109, 40, 118, 32, 43, 32, 54, 41]⟩⟩), .sc (.string ⟨⟨[102, 114, 111, 109]⟩⟩), .sc (.string ⟨⟨[97]⟩⟩), .sc (.string ⟨⟨[119, 105, 110, 100, 111, 119]⟩⟩), .sc (.string ⟨⟨[116, 117, 109, 98, 108, 101]⟩⟩), .sc (.string ⟨⟨[53]⟩⟩)], .sc (.string ⟨⟨[32]⟩⟩)]
noncomputable def r_m79 : AV := v101
noncomputable def a_m80 : List AV := [v101]
noncomputable def r_m80 : AV := .tup [.list true [v1, v72, .agg [.sc (.int .u8 3), .sc (.string ⟨⟨[40]⟩⟩), .sc (.int .i64 10)], .agg [.sc (.int .u8 2), .sc (.string ⟨⟨[118]⟩⟩), .sc (.int .i64 11)], .agg [.sc (.int .u8 3), .sc (.string ⟨⟨[43]⟩⟩), .sc (.int .i64 13)], .agg [.sc (.int .u8 1), .sc (.string ⟨⟨[54]⟩⟩), .sc (.int .i64 15)], .agg [.sc (.int .u8 3), .sc (.string ⟨⟨[41]⟩⟩), .sc (.int .i64 16)], v32, .agg [.sc (.int .u8 2), .sc (.string ⟨⟨[97]⟩⟩), .sc (.int .i64 23)], .agg [.sc (.int .u8 2), .sc (.string ⟨⟨[119, 105, 110, 100, 111, 119]⟩⟩), .sc (.int .i64 25)], .agg [.sc (.int .u8 2), .sc (.string ⟨⟨[116, 117, 109, 98, 108, 101]⟩⟩), .sc (.int .i64 32)], .agg [.sc (.int .u8 1), .sc (.string ⟨⟨[53]⟩⟩), .sc (.int .i64 39)]], .sc (.int .i64 40), .sc (.int .i64 0)]
noncomputable def a_m81 : List AV := []
noncomputable def r_m81 : AV := .sc (.bool true)
theorem fn62 : FnOk Tryz.prog 62 Tryz.f62 (bodyOf Tryz.f62) := ⟨Tryz.func62, by kernel_rfl, rfl⟩
theorem cloneNil62 : Pure Tryz.prog 62 [.list false []] .nils := by
  refine Pure.sym tyTab_ok fn62 (nt := 8) rfl rfl ?_ okM
  refine runT [] ?_
  refine SemK.eqNil tyTab_ok (may := true) rfl rfl rfl rfl rfl rfl trivial (by simp [nilMay]) fun b2 qb2 => ?_
  cases b2
  · exact runK [.br false, .ne false] (k := fi)
  · exact runK [.br true] (k := fi)
theorem kvInt_set (z : Int) : ∀ (ks : List Int), setV (.int .i64 z) (.bool true) (ks.map kvInt) = (distAdd ks z).map kvInt := by
  intro ks
  unfold distAdd
  induction ks with
  | nil => simp [setV, kvInt]
  | cons a r ih =>
    simp only [List.map_cons, kvInt, setV]
    by_cases h : a = z
    · subst h; simp [kvInt]
    · have h1 : ¬ (Value.int .i64 a = Value.int .i64 z) := by simpa using h
      rw [if_neg h1]
      have ih' : setV (.int .i64 z) (.bool true) (r.map kvInt) = (if z ∈ r then r else r ++ [z]).map kvInt := ih
      rw [ih']
      have h2 : ¬ z = a := fun e => h e.symm
      by_cases hz : z ∈ r <;> simp [hz, h2, kvInt]
theorem wkA {P : Prop} (h : P := by
  first
    | exact trivial
    | rfl
    | exact .sc
    | exact .list
    | exact .nils
    | assumption
    | (refine congrArg (fun z => AV.sc (Value.int IntKind.i64 z)) ?_; first | rfl | omega | assumption | (simp; done) | (simp; omega))
    | (simp [AV.ren, *]; done)) : P := h
theorem fn73 : FnOk Tryz.prog 73 Tryz.f73 (bodyOf Tryz.f73) := ⟨Tryz.func73, by kernel_rfl, rfl⟩
theorem tmD : TyOk Tryz.prog tyTab.find ∧ Tryz.prog.follows .mixedOrders = true := ⟨tyTab_ok, by kernel_rfl⟩
theorem clauses_distinct_int_L0 {Q : AExit → St → Mu → Prop} {μ : Mu} (b : Nat) (l : List Int) (hl : List.length l ≤ 140737488355328) : ∀ (xs : List Int) (k : Nat) (hx : l.drop k = xs) (ks : List Int)
    (C : SemK Tryz.prog 18 0 Q (.exit (.exit 0)) [] ⟨fr [(3, .sc (.map (some b)))], hp [], 0⟩ ((b, (distinctL ks xs).map kvInt) :: μ)),
    SemK Tryz.prog 18 0 Q (.loop (loopB 0 (bodyOf Tryz.f73))) [] ⟨fr [(3, .sc (.map (some b))), (7, AV.list false (List.map (aI .i64) l)), (8, aI .i64 (List.length l : Int)), (9, aI .i64 (k : Int))], hp [], 0⟩ ((b, ks.map kvInt) :: μ) := by
  intro xs
  induction xs with
  | nil =>
    intro k hx ks C
    have hk := drop_nil hx
    have hc : decide ((k : Int) < (List.length l : Int)) = false := decide_eq_false (by omega)
    refine SemK.round ?_
    refine run_to tmD 4000 [.br false] rfl (by repeat' first | refine And.intro ?_ ?_ | exact hc | exact oblA) ?_
    exact SemK.weakTo [] C rfl (by repeat' first | refine And.intro ?_ ?_ | exact wkA) trivial
  | cons x xs ih =>
    intro k hx ks C
    obtain ⟨hk, hg, hx1⟩ := drop_cons hx
    have hc : decide ((k : Int) < (List.length l : Int)) = true := decide_eq_true (by omega)
    refine SemK.round ?_
    refine run_to tmD 4000 [.br true, .el (aI .i64 x)] rfl (by repeat' first | refine And.intro ?_ ?_ | exact hc | exact ixm hg | exact oblA) ?_
    refine SemK.mapUpd (d := .int .i64) tyTab_ok rfl rfl rfl rfl rfl Tryz.underlying2 rfl rfl rfl trivial trivial trivial rfl (by
      intro p hp; obtain ⟨z, _, rfl⟩ := List.mem_map.1 hp; rfl) ?_
    rw [kvInt_set]
    refine run_to tmD 4000 [] rfl (by repeat' first | refine And.intro ?_ ?_ | exact oblA) ?_
    exact SemK.weakTo [] (ih (k + 1) hx1 (distAdd ks x) C) rfl (by repeat' first | refine And.intro ?_ ?_ | exact wkA) trivial
theorem clauses_distinct_int_ok (a0 : (List Int)) (r : Int) (h : clauses_distinct_int a0 = some r) : Pure Tryz.prog 73 [(AV.list false (List.map (aI .i64) a0))] (aI .i64 r) := by
  refine Pure.sym tyTab_ok fn73 (nt := 18) rfl rfl ?_ (allCons .list allNil)
  unfold clauses_distinct_int at h
  refine bindE h ?_
  clear h; intro u h1 h
  have q1 := lenOk_le h1
  obtain rfl := Option.some.inj h
  refine run_to tmD 4000 [] rfl (by repeat' first | refine And.intro ?_ ?_ | exact oblA) ?_
  refine SemK.mapNew rfl rfl rfl fun b => ?_
  refine run_to tmD 4000 [] rfl (by repeat' first | refine And.intro ?_ ?_ | exact oblA) ?_
  refine SemK.weakTo [] (SemK.cut (clauses_distinct_int_L0 b a0 q1 a0 0 (by simp) [] ?_)) rfl (by repeat' first | refine And.intro ?_ ?_ | exact wkA) trivial
  refine SemK.glue ?_
  refine run_to tmD 4000 [] rfl (by repeat' first | refine And.intro ?_ ?_ | exact oblA) ?_
  refine SemK.mapLen tyTab_ok rfl rfl rfl rfl rfl rfl trivial ?_
  rw [List.length_map]
  refine run_to tmD 4000 [] rfl (by repeat' first | refine And.intro ?_ ?_ | exact oblA) ?_
  refine fin_ret rfl ?_
  exact .sc
theorem distLit73 (l : List Int) (h : List.length l ≤ 1000) : Pure Tryz.prog 73 [.list false (l.map (aI .i64))] (aI .i64 ((distinctL [] l).length : Int)) := clauses_distinct_int_ok l _ (by unfold clauses_distinct_int lenOk; rw [if_pos (by omega)]; rfl)
theorem m8 : Pure Tryz.prog 73 a_m8 r_m8 := distLit73 [0] (by simp)
theorem m9 : Pure Tryz.prog 62 a_m9 r_m9 := cloneNil62
def L_m14 : List Go.Proofs.Tryz.Nd := [(4, 0, 0, 0, 29), (1, 1, 0, 0, 33), (14, 0, 0, 1, 31)]
theorem c_m14 : Pure Tryz.prog 44 [.list false (L_m14.map Go.Proofs.Tryz.ndA)] (.sc (.int .i64 0)) := run_pureM mixed_ok X_ok tyTab_ok fnTab_ok Me_ok (fuel := 3000) (d := 200) (by kernel_rfl)
theorem h_m14_1 : Go.Proofs.Tryz.WrOk L_m14 (0) 5 [118] := Go.Proofs.Tryz.wr_val (i := 0) (k := 4) (by decide) rfl (by decide) rfl
theorem h_m14_2 : Go.Proofs.Tryz.WrOk L_m14 (1) 5 [49] := Go.Proofs.Tryz.wr_num (i := 1) (s := ⟨⟨[49]⟩⟩) (by decide) rfl tx_1
theorem h_m14_3 : Go.Proofs.Tryz.WrOk L_m14 (2) 0 [118, 32, 62, 32, 49] := Go.Proofs.Tryz.wr_14 (i := 2) (by decide) rfl (by decide) h_m14_1 h_m14_2
theorem m14 : Pure Tryz.prog 26 a_m14 r_m14 := Go.Proofs.Tryz.expr_at (l := L_m14) rfl (by decide) (by decide) c_m14 rfl h_m14_3 (by decide)
theorem m15 : Pure Tryz.prog 29 a_m15 r_m15 := Go.Proofs.Tryz.join_at (xs := [⟨⟨[115, 101, 108, 101, 99, 116]⟩⟩, ⟨⟨[99, 111, 117, 110, 116, 40, 42, 41]⟩⟩, ⟨⟨[102, 114, 111, 109]⟩⟩, ⟨⟨[97]⟩⟩, ⟨⟨[119, 104, 101, 114, 101]⟩⟩, ⟨⟨[118, 32, 62, 32, 49]⟩⟩, ⟨⟨[119, 105, 110, 100, 111, 119]⟩⟩, ⟨⟨[115, 108, 105, 100, 101]⟩⟩, ⟨⟨[54]⟩⟩, ⟨⟨[101, 118, 101, 114, 121]⟩⟩, ⟨⟨[53]⟩⟩]) (sep := ⟨⟨[32]⟩⟩) rfl (by simp) (by decide) (by kernel_rfl) (by decide)
def L_m28 : List Go.Proofs.Tryz.Nd := [(1, 0, 0, 0, 31), (1, 0, 0, 0, 31), (17, 0, 0, 1, 31)]
theorem c_m28 : Pure Tryz.prog 44 [.list false (L_m28.map Go.Proofs.Tryz.ndA)] (.sc (.int .i64 0)) := run_pureM mixed_ok X_ok tyTab_ok fnTab_ok Me_ok (fuel := 3000) (d := 200) (by kernel_rfl)
theorem h_m28_1 : Go.Proofs.Tryz.WrOk L_m28 (0) 5 [48] := Go.Proofs.Tryz.wr_num (i := 0) (s := ⟨⟨[48]⟩⟩) (by decide) rfl tx_0
theorem h_m28_2 : Go.Proofs.Tryz.WrOk L_m28 (1) 5 [48] := Go.Proofs.Tryz.wr_num (i := 1) (s := ⟨⟨[48]⟩⟩) (by decide) rfl tx_0
theorem h_m28_3 : Go.Proofs.Tryz.WrOk L_m28 (2) 0 [48, 32, 33, 61, 32, 48] := Go.Proofs.Tryz.wr_17 (i := 2) (by decide) rfl (by decide) h_m28_1 h_m28_2
theorem m28 : Pure Tryz.prog 26 a_m28 r_m28 := Go.Proofs.Tryz.expr_at (l := L_m28) rfl (by decide) (by decide) c_m28 rfl h_m28_3 (by decide)
theorem m29 : Pure Tryz.prog 29 a_m29 r_m29 := Go.Proofs.Tryz.join_at (xs := [⟨⟨[115, 101, 108, 101, 99, 116]⟩⟩, ⟨⟨[99, 111, 117, 110, 116, 40, 42, 41]⟩⟩, ⟨⟨[102, 114, 111, 109]⟩⟩, ⟨⟨[97]⟩⟩, ⟨⟨[119, 104, 101, 114, 101]⟩⟩, ⟨⟨[48, 32, 33, 61, 32, 48]⟩⟩, ⟨⟨[119, 105, 110, 100, 111, 119]⟩⟩, ⟨⟨[115, 101, 115, 115, 105, 111, 110]⟩⟩, ⟨⟨[54]⟩⟩]) (sep := ⟨⟨[32]⟩⟩) rfl (by simp) (by decide) (by kernel_rfl) (by decide)
theorem m39 : Pure Tryz.prog 73 a_m39 r_m39 := distLit73 [0, 1] (by simp)
def L_m46 : List Go.Proofs.Tryz.Nd := [(1, 5, 0, 0, 13), (5, 0, 0, 0, 13)]
theorem c_m46 : Pure Tryz.prog 44 [.list false (L_m46.map Go.Proofs.Tryz.ndA)] (.sc (.int .i64 0)) := run_pureM mixed_ok X_ok tyTab_ok fnTab_ok Me_ok (fuel := 3000) (d := 200) (by kernel_rfl)
theorem h_m46_1 : Go.Proofs.Tryz.WrOk L_m46 (0) 8 [53] := Go.Proofs.Tryz.wr_num (i := 0) (s := ⟨⟨[53]⟩⟩) (by decide) rfl tx_5
theorem h_m46_2 : Go.Proofs.Tryz.WrOk L_m46 (1) 0 [45, 53] := Go.Proofs.Tryz.wr_5 (i := 1) (by decide) rfl (by decide) h_m46_1
theorem m46 : Pure Tryz.prog 26 a_m46 r_m46 := Go.Proofs.Tryz.expr_at (l := L_m46) rfl (by decide) (by decide) c_m46 rfl h_m46_2 (by decide)
theorem m47 : Pure Tryz.prog 29 a_m47 r_m47 := Go.Proofs.Tryz.join_at (xs := [⟨⟨[115, 101, 108, 101, 99, 116]⟩⟩, ⟨⟨[109, 97, 120, 40, 45, 53, 41]⟩⟩, ⟨⟨[102, 114, 111, 109]⟩⟩, ⟨⟨[97]⟩⟩, ⟨⟨[106, 111, 105, 110]⟩⟩, ⟨⟨[98]⟩⟩, ⟨⟨[119, 105, 110, 100, 111, 119]⟩⟩, ⟨⟨[116, 117, 109, 98, 108, 101]⟩⟩, ⟨⟨[54]⟩⟩]) (sep := ⟨⟨[32]⟩⟩) rfl (by simp) (by decide) (by kernel_rfl) (by decide)
def L_m78 : List Go.Proofs.Tryz.Nd := [(4, 0, 0, 0, 11), (1, 6, 0, 0, 18), (8, 0, 0, 1, 13)]
theorem c_m78 : Pure Tryz.prog 44 [.list false (L_m78.map Go.Proofs.Tryz.ndA)] (.sc (.int .i64 0)) := run_pureM mixed_ok X_ok tyTab_ok fnTab_ok Me_ok (fuel := 3000) (d := 200) (by kernel_rfl)
theorem h_m78_1 : Go.Proofs.Tryz.WrOk L_m78 (0) 6 [118] := Go.Proofs.Tryz.wr_val (i := 0) (k := 4) (by decide) rfl (by decide) rfl
theorem h_m78_2 : Go.Proofs.Tryz.WrOk L_m78 (1) 7 [54] := Go.Proofs.Tryz.wr_num (i := 1) (s := ⟨⟨[54]⟩⟩) (by decide) rfl tx_6
theorem h_m78_3 : Go.Proofs.Tryz.WrOk L_m78 (2) 0 [118, 32, 43, 32, 54] := Go.Proofs.Tryz.wr_8 (i := 2) (by decide) rfl (by decide) h_m78_1 h_m78_2
theorem m78 : Pure Tryz.prog 26 a_m78 r_m78 := Go.Proofs.Tryz.expr_at (l := L_m78) rfl (by decide) (by decide) c_m78 rfl h_m78_3 (by decide)
theorem m79 : Pure Tryz.prog 29 a_m79 r_m79 := Go.Proofs.Tryz.join_at (xs := [⟨⟨[115, 101, 108, 101, 99, 116]⟩⟩, ⟨⟨[115, 117, 109, 40, 118, 32, 43, 32, 54, 41]⟩⟩, ⟨⟨[102, 114, 111, 109]⟩⟩, ⟨⟨[97]⟩⟩, ⟨⟨[119, 105, 110, 100, 111, 119]⟩⟩, ⟨⟨[116, 117, 109, 98, 108, 101]⟩⟩, ⟨⟨[53]⟩⟩]) (sep := ⟨⟨[32]⟩⟩) rfl (by simp) (by decide) (by kernel_rfl) (by decide)
noncomputable def M0 : Tab Memo := (.node 62 [(a_m9, r_m9)] (.node 29 [(a_m15, r_m15), (a_m29, r_m29), (a_m47, r_m47), (a_m79, r_m79)] (.node 26 [(a_m14, r_m14), (a_m28, r_m28), (a_m46, r_m46), (a_m78, r_m78)] .leaf .leaf) .leaf) (.node 73 [(a_m8, r_m8), (a_m39, r_m39)] .leaf .leaf))
theorem M0_ok : MemoOk Tryz.prog M0.find := memoOk_tab ⟨⟨⟨m9, by kernel_rfl⟩, trivial⟩, ⟨⟨⟨m15, by kernel_rfl⟩, ⟨m29, by kernel_rfl⟩, ⟨m47, by kernel_rfl⟩, ⟨m79, by kernel_rfl⟩, trivial⟩, ⟨⟨⟨m14, by kernel_rfl⟩, ⟨m28, by kernel_rfl⟩, ⟨m46, by kernel_rfl⟩, ⟨m78, by kernel_rfl⟩, trivial⟩, trivial, trivial⟩, trivial⟩, ⟨⟨⟨m8, by kernel_rfl⟩, ⟨m39, by kernel_rfl⟩, trivial⟩, trivial, trivial⟩⟩
theorem m0 : Pure Tryz.prog 83 a_m0 r_m0 := run_pureM mixed_ok X_ok tyTab_ok fnTab_ok M0_ok (fuel := 3000) (d := 200) (by kernel_rfl)
theorem m1 : Pure Tryz.prog 83 a_m1 r_m1 := run_pureM mixed_ok X_ok tyTab_ok fnTab_ok M0_ok (fuel := 3000) (d := 200) (by kernel_rfl)
theorem m2 : Pure Tryz.prog 83 a_m2 r_m2 := run_pureM mixed_ok X_ok tyTab_ok fnTab_ok M0_ok (fuel := 3000) (d := 200) (by kernel_rfl)
theorem m3 : Pure Tryz.prog 83 a_m3 r_m3 := run_pureM mixed_ok X_ok tyTab_ok fnTab_ok M0_ok (fuel := 3000) (d := 200) (by kernel_rfl)
theorem m4 : Pure Tryz.prog 83 a_m4 r_m4 := run_pureM mixed_ok X_ok tyTab_ok fnTab_ok M0_ok (fuel := 3000) (d := 200) (by kernel_rfl)
theorem m10 : Pure Tryz.prog 64 a_m10 r_m10 := run_pureM mixed_ok X_ok tyTab_ok fnTab_ok M0_ok (fuel := 3000) (d := 200) (by kernel_rfl)
theorem m12 : Pure Tryz.prog 9 a_m12 r_m12 := run_pureM mixed_ok X_ok tyTab_ok fnTab_ok M0_ok (fuel := 3000) (d := 200) (by kernel_rfl)
theorem m17 : Pure Tryz.prog 83 a_m17 r_m17 := run_pureM mixed_ok X_ok tyTab_ok fnTab_ok M0_ok (fuel := 3000) (d := 200) (by kernel_rfl)
theorem m21 : Pure Tryz.prog 37 a_m21 r_m21 := run_pureM mixed_ok X_ok tyTab_ok fnTab_ok M0_ok (fuel := 3000) (d := 200) (by kernel_rfl)
theorem m24 : Pure Tryz.prog 37 a_m24 r_m24 := run_pureM mixed_ok X_ok tyTab_ok fnTab_ok M0_ok (fuel := 3000) (d := 200) (by kernel_rfl)
theorem m32 : Pure Tryz.prog 83 a_m32 r_m32 := run_pureM mixed_ok X_ok tyTab_ok fnTab_ok M0_ok (fuel := 3000) (d := 200) (by kernel_rfl)
theorem m33 : Pure Tryz.prog 83 a_m33 r_m33 := run_pureM mixed_ok X_ok tyTab_ok fnTab_ok M0_ok (fuel := 3000) (d := 200) (by kernel_rfl)
theorem m34 : Pure Tryz.prog 83 a_m34 r_m34 := run_pureM mixed_ok X_ok tyTab_ok fnTab_ok M0_ok (fuel := 3000) (d := 200) (by kernel_rfl)
theorem m35 : Pure Tryz.prog 83 a_m35 r_m35 := run_pureM mixed_ok X_ok tyTab_ok fnTab_ok M0_ok (fuel := 3000) (d := 200) (by kernel_rfl)
theorem m40 : Pure Tryz.prog 37 a_m40 r_m40 := run_pureM mixed_ok X_ok tyTab_ok fnTab_ok M0_ok (fuel := 3000) (d := 200) (by kernel_rfl)
theorem m43 : Pure Tryz.prog 64 a_m43 r_m43 := run_pureM mixed_ok X_ok tyTab_ok fnTab_ok M0_ok (fuel := 3000) (d := 200) (by kernel_rfl)
theorem m50 : Pure Tryz.prog 83 a_m50 r_m50 := run_pureM mixed_ok X_ok tyTab_ok fnTab_ok M0_ok (fuel := 3000) (d := 200) (by kernel_rfl)
theorem m55 : Pure Tryz.prog 18 a_m55 r_m55 := run_pureM mixed_ok X_ok tyTab_ok fnTab_ok M0_ok (fuel := 3000) (d := 200) (by kernel_rfl)
theorem m56 : Pure Tryz.prog 37 a_m56 r_m56 := run_pureM mixed_ok X_ok tyTab_ok fnTab_ok M0_ok (fuel := 3000) (d := 200) (by kernel_rfl)
theorem m58 : Pure Tryz.prog 37 a_m58 r_m58 := run_pureM mixed_ok X_ok tyTab_ok fnTab_ok M0_ok (fuel := 3000) (d := 200) (by kernel_rfl)
theorem m60 : Pure Tryz.prog 18 a_m60 r_m60 := run_pureM mixed_ok X_ok tyTab_ok fnTab_ok M0_ok (fuel := 3000) (d := 200) (by kernel_rfl)
theorem m61 : Pure Tryz.prog 83 a_m61 r_m61 := run_pureM mixed_ok X_ok tyTab_ok fnTab_ok M0_ok (fuel := 3000) (d := 200) (by kernel_rfl)
theorem m63 : Pure Tryz.prog 123 a_m63 r_m63 := run_pureM mixed_ok X_ok tyTab_ok fnTab_ok M0_ok (fuel := 3000) (d := 200) (by kernel_rfl)
theorem m67 : Pure Tryz.prog 18 a_m67 r_m67 := run_pureM mixed_ok X_ok tyTab_ok fnTab_ok M0_ok (fuel := 3000) (d := 200) (by kernel_rfl)
theorem m68 : Pure Tryz.prog 37 a_m68 r_m68 := run_pureM mixed_ok X_ok tyTab_ok fnTab_ok M0_ok (fuel := 3000) (d := 200) (by kernel_rfl)
theorem m69 : Pure Tryz.prog 37 a_m69 r_m69 := run_pureM mixed_ok X_ok tyTab_ok fnTab_ok M0_ok (fuel := 3000) (d := 200) (by kernel_rfl)
theorem m71 : Pure Tryz.prog 37 a_m71 r_m71 := run_pureM mixed_ok X_ok tyTab_ok fnTab_ok M0_ok (fuel := 3000) (d := 200) (by kernel_rfl)
theorem m73 : Pure Tryz.prog 18 a_m73 r_m73 := run_pureM mixed_ok X_ok tyTab_ok fnTab_ok M0_ok (fuel := 3000) (d := 200) (by kernel_rfl)
theorem m74 : Pure Tryz.prog 37 a_m74 r_m74 := run_pureM mixed_ok X_ok tyTab_ok fnTab_ok M0_ok (fuel := 3000) (d := 200) (by kernel_rfl)
theorem m75 : Pure Tryz.prog 64 a_m75 r_m75 := run_pureM mixed_ok X_ok tyTab_ok fnTab_ok M0_ok (fuel := 3000) (d := 200) (by kernel_rfl)
noncomputable def M1 : Tab Memo := (.node 62 [(a_m9, r_m9)] (.node 26 [(a_m14, r_m14), (a_m28, r_m28), (a_m46, r_m46), (a_m78, r_m78)] (.node 18 [(a_m55, r_m55), (a_m60, r_m60), (a_m67, r_m67), (a_m73, r_m73)] (.node 9 [(a_m12, r_m12)] .leaf .leaf) .leaf) (.node 37 [(a_m21, r_m21), (a_m24, r_m24), (a_m40, r_m40), (a_m56, r_m56), (a_m58, r_m58), (a_m68, r_m68), (a_m69, r_m69), (a_m71, r_m71), (a_m74, r_m74)] (.node 29 [(a_m15, r_m15), (a_m29, r_m29), (a_m47, r_m47), (a_m79, r_m79)] .leaf .leaf) .leaf)) (.node 83 [(a_m0, r_m0), (a_m1, r_m1), (a_m2, r_m2), (a_m3, r_m3), (a_m4, r_m4), (a_m17, r_m17), (a_m32, r_m32), (a_m33, r_m33), (a_m34, r_m34), (a_m35, r_m35), (a_m50, r_m50), (a_m61, r_m61)] (.node 73 [(a_m8, r_m8), (a_m39, r_m39)] (.node 64 [(a_m10, r_m10), (a_m43, r_m43), (a_m75, r_m75)] .leaf .leaf) .leaf) (.node 123 [(a_m63, r_m63)] .leaf .leaf)))
theorem M1_ok : MemoOk Tryz.prog M1.find := memoOk_tab ⟨⟨⟨m9, by kernel_rfl⟩, trivial⟩, ⟨⟨⟨m14, by kernel_rfl⟩, ⟨m28, by kernel_rfl⟩, ⟨m46, by kernel_rfl⟩, ⟨m78, by kernel_rfl⟩, trivial⟩, ⟨⟨⟨m55, by kernel_rfl⟩, ⟨m60, by kernel_rfl⟩, ⟨m67, by kernel_rfl⟩, ⟨m73, by kernel_rfl⟩, trivial⟩, ⟨⟨⟨m12, by kernel_rfl⟩, trivial⟩, trivial, trivial⟩, trivial⟩, ⟨⟨⟨m21, by kernel_rfl⟩, ⟨m24, by kernel_rfl⟩, ⟨m40, by kernel_rfl⟩, ⟨m56, by kernel_rfl⟩, ⟨m58, by kernel_rfl⟩, ⟨m68, by kernel_rfl⟩, ⟨m69, by kernel_rfl⟩, ⟨m71, by kernel_rfl⟩, ⟨m74, by kernel_rfl⟩, trivial⟩, ⟨⟨⟨m15, by kernel_rfl⟩, ⟨m29, by kernel_rfl⟩, ⟨m47, by kernel_rfl⟩, ⟨m79, by kernel_rfl⟩, trivial⟩, trivial, trivial⟩, trivial⟩⟩, ⟨⟨⟨m0, by kernel_rfl⟩, ⟨m1, by kernel_rfl⟩, ⟨m2, by kernel_rfl⟩, ⟨m3, by kernel_rfl⟩, ⟨m4, by kernel_rfl⟩, ⟨m17, by kernel_rfl⟩, ⟨m32, by kernel_rfl⟩, ⟨m33, by kernel_rfl⟩, ⟨m34, by kernel_rfl⟩, ⟨m35, by kernel_rfl⟩, ⟨m50, by kernel_rfl⟩, ⟨m61, by kernel_rfl⟩, trivial⟩, ⟨⟨⟨m8, by kernel_rfl⟩, ⟨m39, by kernel_rfl⟩, trivial⟩, ⟨⟨⟨m10, by kernel_rfl⟩, ⟨m43, by kernel_rfl⟩, ⟨m75, by kernel_rfl⟩, trivial⟩, trivial, trivial⟩, trivial⟩, ⟨⟨⟨m63, by kernel_rfl⟩, trivial⟩, trivial, trivial⟩⟩⟩
theorem m5 : Pure Tryz.prog 30 a_m5 r_m5 := run_pureM mixed_ok X_ok tyTab_ok fnTab_ok M1_ok (fuel := 3000) (d := 200) (by kernel_rfl)
theorem m6 : Pure Tryz.prog 84 a_m6 r_m6 := run_pureM mixed_ok X_ok tyTab_ok fnTab_ok M1_ok (fuel := 3000) (d := 200) (by kernel_rfl)
theorem m11 : Pure Tryz.prog 9 a_m11 r_m11 := run_pureM mixed_ok X_ok tyTab_ok fnTab_ok M1_ok (fuel := 3000) (d := 200) (by kernel_rfl)
theorem m18 : Pure Tryz.prog 30 a_m18 r_m18 := run_pureM mixed_ok X_ok tyTab_ok fnTab_ok M1_ok (fuel := 3000) (d := 200) (by kernel_rfl)
theorem m19 : Pure Tryz.prog 84 a_m19 r_m19 := run_pureM mixed_ok X_ok tyTab_ok fnTab_ok M1_ok (fuel := 3000) (d := 200) (by kernel_rfl)
theorem m22 : Pure Tryz.prog 64 a_m22 r_m22 := run_pureM mixed_ok X_ok tyTab_ok fnTab_ok M1_ok (fuel := 3000) (d := 200) (by kernel_rfl)
theorem m25 : Pure Tryz.prog 64 a_m25 r_m25 := run_pureM mixed_ok X_ok tyTab_ok fnTab_ok M1_ok (fuel := 3000) (d := 200) (by kernel_rfl)
theorem m30 : Pure Tryz.prog 30 a_m30 r_m30 := run_pureM mixed_ok X_ok tyTab_ok fnTab_ok M1_ok (fuel := 3000) (d := 200) (by kernel_rfl)
theorem m36 : Pure Tryz.prog 30 a_m36 r_m36 := run_pureM mixed_ok X_ok tyTab_ok fnTab_ok M1_ok (fuel := 3000) (d := 200) (by kernel_rfl)
theorem m37 : Pure Tryz.prog 84 a_m37 r_m37 := run_pureM mixed_ok X_ok tyTab_ok fnTab_ok M1_ok (fuel := 3000) (d := 200) (by kernel_rfl)
theorem m41 : Pure Tryz.prog 64 a_m41 r_m41 := run_pureM mixed_ok X_ok tyTab_ok fnTab_ok M1_ok (fuel := 3000) (d := 200) (by kernel_rfl)
theorem m44 : Pure Tryz.prog 9 a_m44 r_m44 := run_pureM mixed_ok X_ok tyTab_ok fnTab_ok M1_ok (fuel := 3000) (d := 200) (by kernel_rfl)
theorem m48 : Pure Tryz.prog 30 a_m48 r_m48 := run_pureM mixed_ok X_ok tyTab_ok fnTab_ok M1_ok (fuel := 3000) (d := 200) (by kernel_rfl)
theorem m51 : Pure Tryz.prog 30 a_m51 r_m51 := run_pureM mixed_ok X_ok tyTab_ok fnTab_ok M1_ok (fuel := 3000) (d := 200) (by kernel_rfl)
theorem m52 : Pure Tryz.prog 84 a_m52 r_m52 := run_pureM mixed_ok X_ok tyTab_ok fnTab_ok M1_ok (fuel := 3000) (d := 200) (by kernel_rfl)
theorem m53 : Pure Tryz.prog 84 a_m53 r_m53 := run_pureM mixed_ok X_ok tyTab_ok fnTab_ok M1_ok (fuel := 3000) (d := 200) (by kernel_rfl)
theorem m57 : Pure Tryz.prog 64 a_m57 r_m57 := run_pureM mixed_ok X_ok tyTab_ok fnTab_ok M1_ok (fuel := 3000) (d := 200) (by kernel_rfl)
theorem m59 : Pure Tryz.prog 64 a_m59 r_m59 := run_pureM mixed_ok X_ok tyTab_ok fnTab_ok M1_ok (fuel := 3000) (d := 200) (by kernel_rfl)
theorem m62 : Pure Tryz.prog 30 a_m62 r_m62 := run_pureM mixed_ok X_ok tyTab_ok fnTab_ok M1_ok (fuel := 3000) (d := 200) (by kernel_rfl)
theorem m64 : Pure Tryz.prog 84 a_m64 r_m64 := run_pureM mixed_ok X_ok tyTab_ok fnTab_ok M1_ok (fuel := 3000) (d := 200) (by kernel_rfl)
theorem m65 : Pure Tryz.prog 84 a_m65 r_m65 := run_pureM mixed_ok X_ok tyTab_ok fnTab_ok M1_ok (fuel := 3000) (d := 200) (by kernel_rfl)
theorem m70 : Pure Tryz.prog 64 a_m70 r_m70 := run_pureM mixed_ok X_ok tyTab_ok fnTab_ok M1_ok (fuel := 3000) (d := 200) (by kernel_rfl)
theorem m72 : Pure Tryz.prog 64 a_m72 r_m72 := run_pureM mixed_ok X_ok tyTab_ok fnTab_ok M1_ok (fuel := 3000) (d := 200) (by kernel_rfl)
theorem m76 : Pure Tryz.prog 9 a_m76 r_m76 := run_pureM mixed_ok X_ok tyTab_ok fnTab_ok M1_ok (fuel := 3000) (d := 200) (by kernel_rfl)
theorem m80 : Pure Tryz.prog 30 a_m80 r_m80 := run_pureM mixed_ok X_ok tyTab_ok fnTab_ok M1_ok (fuel := 3000) (d := 200) (by kernel_rfl)
noncomputable def M2 : Tab Memo := (.node 62 [(a_m9, r_m9)] (.node 29 [(a_m15, r_m15), (a_m29, r_m29), (a_m47, r_m47), (a_m79, r_m79)] (.node 18 [(a_m55, r_m55), (a_m60, r_m60), (a_m67, r_m67), (a_m73, r_m73)] (.node 9 [(a_m12, r_m12), (a_m11, r_m11), (a_m44, r_m44), (a_m76, r_m76)] .leaf .leaf) (.node 26 [(a_m14, r_m14), (a_m28, r_m28), (a_m46, r_m46), (a_m78, r_m78)] .leaf .leaf)) (.node 37 [(a_m21, r_m21), (a_m24, r_m24), (a_m40, r_m40), (a_m56, r_m56), (a_m58, r_m58), (a_m68, r_m68), (a_m69, r_m69), (a_m71, r_m71), (a_m74, r_m74)] (.node 30 [(a_m5, r_m5), (a_m18, r_m18), (a_m30, r_m30), (a_m36, r_m36), (a_m48, r_m48), (a_m51, r_m51), (a_m62, r_m62), (a_m80, r_m80)] .leaf .leaf) .leaf)) (.node 83 [(a_m0, r_m0), (a_m1, r_m1), (a_m2, r_m2), (a_m3, r_m3), (a_m4, r_m4), (a_m17, r_m17), (a_m32, r_m32), (a_m33, r_m33), (a_m34, r_m34), (a_m35, r_m35), (a_m50, r_m50), (a_m61, r_m61)] (.node 73 [(a_m8, r_m8), (a_m39, r_m39)] (.node 64 [(a_m10, r_m10), (a_m43, r_m43), (a_m75, r_m75), (a_m22, r_m22), (a_m25, r_m25), (a_m41, r_m41), (a_m57, r_m57), (a_m59, r_m59), (a_m70, r_m70), (a_m72, r_m72)] .leaf .leaf) .leaf) (.node 123 [(a_m63, r_m63)] (.node 84 [(a_m6, r_m6), (a_m19, r_m19), (a_m37, r_m37), (a_m52, r_m52), (a_m53, r_m53), (a_m64, r_m64), (a_m65, r_m65)] .leaf .leaf) .leaf)))
theorem M2_ok : MemoOk Tryz.prog M2.find := memoOk_tab ⟨⟨⟨m9, by kernel_rfl⟩, trivial⟩, ⟨⟨⟨m15, by kernel_rfl⟩, ⟨m29, by kernel_rfl⟩, ⟨m47, by kernel_rfl⟩, ⟨m79, by kernel_rfl⟩, trivial⟩, ⟨⟨⟨m55, by kernel_rfl⟩, ⟨m60, by kernel_rfl⟩, ⟨m67, by kernel_rfl⟩, ⟨m73, by kernel_rfl⟩, trivial⟩, ⟨⟨⟨m12, by kernel_rfl⟩, ⟨m11, by kernel_rfl⟩, ⟨m44, by kernel_rfl⟩, ⟨m76, by kernel_rfl⟩, trivial⟩, trivial, trivial⟩, ⟨⟨⟨m14, by kernel_rfl⟩, ⟨m28, by kernel_rfl⟩, ⟨m46, by kernel_rfl⟩, ⟨m78, by kernel_rfl⟩, trivial⟩, trivial, trivial⟩⟩, ⟨⟨⟨m21, by kernel_rfl⟩, ⟨m24, by kernel_rfl⟩, ⟨m40, by kernel_rfl⟩, ⟨m56, by kernel_rfl⟩, ⟨m58, by kernel_rfl⟩, ⟨m68, by kernel_rfl⟩, ⟨m69, by kernel_rfl⟩, ⟨m71, by kernel_rfl⟩, ⟨m74, by kernel_rfl⟩, trivial⟩, ⟨⟨⟨m5, by kernel_rfl⟩, ⟨m18, by kernel_rfl⟩, ⟨m30, by kernel_rfl⟩, ⟨m36, by kernel_rfl⟩, ⟨m48, by kernel_rfl⟩, ⟨m51, by kernel_rfl⟩, ⟨m62, by kernel_rfl⟩, ⟨m80, by kernel_rfl⟩, trivial⟩, trivial, trivial⟩, trivial⟩⟩, ⟨⟨⟨m0, by kernel_rfl⟩, ⟨m1, by kernel_rfl⟩, ⟨m2, by kernel_rfl⟩, ⟨m3, by kernel_rfl⟩, ⟨m4, by kernel_rfl⟩, ⟨m17, by kernel_rfl⟩, ⟨m32, by kernel_rfl⟩, ⟨m33, by kernel_rfl⟩, ⟨m34, by kernel_rfl⟩, ⟨m35, by kernel_rfl⟩, ⟨m50, by kernel_rfl⟩, ⟨m61, by kernel_rfl⟩, trivial⟩, ⟨⟨⟨m8, by kernel_rfl⟩, ⟨m39, by kernel_rfl⟩, trivial⟩, ⟨⟨⟨m10, by kernel_rfl⟩, ⟨m43, by kernel_rfl⟩, ⟨m75, by kernel_rfl⟩, ⟨m22, by kernel_rfl⟩, ⟨m25, by kernel_rfl⟩, ⟨m41, by kernel_rfl⟩, ⟨m57, by kernel_rfl⟩, ⟨m59, by kernel_rfl⟩, ⟨m70, by kernel_rfl⟩, ⟨m72, by kernel_rfl⟩, trivial⟩, trivial, trivial⟩, trivial⟩, ⟨⟨⟨m63, by kernel_rfl⟩, trivial⟩, ⟨⟨⟨m6, by kernel_rfl⟩, ⟨m19, by kernel_rfl⟩, ⟨m37, by kernel_rfl⟩, ⟨m52, by kernel_rfl⟩, ⟨m53, by kernel_rfl⟩, ⟨m64, by kernel_rfl⟩, ⟨m65, by kernel_rfl⟩, trivial⟩, trivial, trivial⟩, trivial⟩⟩⟩
theorem m7 : Pure Tryz.prog 17 a_m7 r_m7 := run_pureM mixed_ok X_ok tyTab_ok fnTab_ok M2_ok (fuel := 3000) (d := 200) (by kernel_rfl)
theorem m13 : Pure Tryz.prog 10 a_m13 r_m13 := run_pureM mixed_ok X_ok tyTab_ok fnTab_ok M2_ok (fuel := 3000) (d := 200) (by kernel_rfl)
theorem m20 : Pure Tryz.prog 17 a_m20 r_m20 := run_pureM mixed_ok X_ok tyTab_ok fnTab_ok M2_ok (fuel := 3000) (d := 200) (by kernel_rfl)
theorem m23 : Pure Tryz.prog 9 a_m23 r_m23 := run_pureM mixed_ok X_ok tyTab_ok fnTab_ok M2_ok (fuel := 3000) (d := 200) (by kernel_rfl)
theorem m26 : Pure Tryz.prog 9 a_m26 r_m26 := run_pureM mixed_ok X_ok tyTab_ok fnTab_ok M2_ok (fuel := 3000) (d := 200) (by kernel_rfl)
theorem m38 : Pure Tryz.prog 17 a_m38 r_m38 := run_pureM mixed_ok X_ok tyTab_ok fnTab_ok M2_ok (fuel := 3000) (d := 200) (by kernel_rfl)
theorem m42 : Pure Tryz.prog 9 a_m42 r_m42 := run_pureM mixed_ok X_ok tyTab_ok fnTab_ok M2_ok (fuel := 3000) (d := 200) (by kernel_rfl)
theorem m54 : Pure Tryz.prog 17 a_m54 r_m54 := run_pureM mixed_ok X_ok tyTab_ok fnTab_ok M2_ok (fuel := 3000) (d := 200) (by kernel_rfl)
theorem m66 : Pure Tryz.prog 17 a_m66 r_m66 := run_pureM mixed_ok X_ok tyTab_ok fnTab_ok M2_ok (fuel := 3000) (d := 200) (by kernel_rfl)
theorem m77 : Pure Tryz.prog 10 a_m77 r_m77 := run_pureM mixed_ok X_ok tyTab_ok fnTab_ok M2_ok (fuel := 3000) (d := 200) (by kernel_rfl)
noncomputable def M3 : Tab Memo := (.node 37 [(a_m21, r_m21), (a_m24, r_m24), (a_m40, r_m40), (a_m56, r_m56), (a_m58, r_m58), (a_m68, r_m68), (a_m69, r_m69), (a_m71, r_m71), (a_m74, r_m74)] (.node 18 [(a_m55, r_m55), (a_m60, r_m60), (a_m67, r_m67), (a_m73, r_m73)] (.node 10 [(a_m13, r_m13), (a_m77, r_m77)] (.node 9 [(a_m12, r_m12), (a_m11, r_m11), (a_m44, r_m44), (a_m76, r_m76), (a_m23, r_m23), (a_m26, r_m26), (a_m42, r_m42)] .leaf .leaf) (.node 17 [(a_m7, r_m7), (a_m20, r_m20), (a_m38, r_m38), (a_m54, r_m54), (a_m66, r_m66)] .leaf .leaf)) (.node 29 [(a_m15, r_m15), (a_m29, r_m29), (a_m47, r_m47), (a_m79, r_m79)] (.node 26 [(a_m14, r_m14), (a_m28, r_m28), (a_m46, r_m46), (a_m78, r_m78)] .leaf .leaf) (.node 30 [(a_m5, r_m5), (a_m18, r_m18), (a_m30, r_m30), (a_m36, r_m36), (a_m48, r_m48), (a_m51, r_m51), (a_m62, r_m62), (a_m80, r_m80)] .leaf .leaf))) (.node 83 [(a_m0, r_m0), (a_m1, r_m1), (a_m2, r_m2), (a_m3, r_m3), (a_m4, r_m4), (a_m17, r_m17), (a_m32, r_m32), (a_m33, r_m33), (a_m34, r_m34), (a_m35, r_m35), (a_m50, r_m50), (a_m61, r_m61)] (.node 64 [(a_m10, r_m10), (a_m43, r_m43), (a_m75, r_m75), (a_m22, r_m22), (a_m25, r_m25), (a_m41, r_m41), (a_m57, r_m57), (a_m59, r_m59), (a_m70, r_m70), (a_m72, r_m72)] (.node 62 [(a_m9, r_m9)] .leaf .leaf) (.node 73 [(a_m8, r_m8), (a_m39, r_m39)] .leaf .leaf)) (.node 123 [(a_m63, r_m63)] (.node 84 [(a_m6, r_m6), (a_m19, r_m19), (a_m37, r_m37), (a_m52, r_m52), (a_m53, r_m53), (a_m64, r_m64), (a_m65, r_m65)] .leaf .leaf) .leaf)))
theorem M3_ok : MemoOk Tryz.prog M3.find := memoOk_tab ⟨⟨⟨m21, by kernel_rfl⟩, ⟨m24, by kernel_rfl⟩, ⟨m40, by kernel_rfl⟩, ⟨m56, by kernel_rfl⟩, ⟨m58, by kernel_rfl⟩, ⟨m68, by kernel_rfl⟩, ⟨m69, by kernel_rfl⟩, ⟨m71, by kernel_rfl⟩, ⟨m74, by kernel_rfl⟩, trivial⟩, ⟨⟨⟨m55, by kernel_rfl⟩, ⟨m60, by kernel_rfl⟩, ⟨m67, by kernel_rfl⟩, ⟨m73, by kernel_rfl⟩, trivial⟩, ⟨⟨⟨m13, by kernel_rfl⟩, ⟨m77, by kernel_rfl⟩, trivial⟩, ⟨⟨⟨m12, by kernel_rfl⟩, ⟨m11, by kernel_rfl⟩, ⟨m44, by kernel_rfl⟩, ⟨m76, by kernel_rfl⟩, ⟨m23, by kernel_rfl⟩, ⟨m26, by kernel_rfl⟩, ⟨m42, by kernel_rfl⟩, trivial⟩, trivial, trivial⟩, ⟨⟨⟨m7, by kernel_rfl⟩, ⟨m20, by kernel_rfl⟩, ⟨m38, by kernel_rfl⟩, ⟨m54, by kernel_rfl⟩, ⟨m66, by kernel_rfl⟩, trivial⟩, trivial, trivial⟩⟩, ⟨⟨⟨m15, by kernel_rfl⟩, ⟨m29, by kernel_rfl⟩, ⟨m47, by kernel_rfl⟩, ⟨m79, by kernel_rfl⟩, trivial⟩, ⟨⟨⟨m14, by kernel_rfl⟩, ⟨m28, by kernel_rfl⟩, ⟨m46, by kernel_rfl⟩, ⟨m78, by kernel_rfl⟩, trivial⟩, trivial, trivial⟩, ⟨⟨⟨m5, by kernel_rfl⟩, ⟨m18, by kernel_rfl⟩, ⟨m30, by kernel_rfl⟩, ⟨m36, by kernel_rfl⟩, ⟨m48, by kernel_rfl⟩, ⟨m51, by kernel_rfl⟩, ⟨m62, by kernel_rfl⟩, ⟨m80, by kernel_rfl⟩, trivial⟩, trivial, trivial⟩⟩⟩, ⟨⟨⟨m0, by kernel_rfl⟩, ⟨m1, by kernel_rfl⟩, ⟨m2, by kernel_rfl⟩, ⟨m3, by kernel_rfl⟩, ⟨m4, by kernel_rfl⟩, ⟨m17, by kernel_rfl⟩, ⟨m32, by kernel_rfl⟩, ⟨m33, by kernel_rfl⟩, ⟨m34, by kernel_rfl⟩, ⟨m35, by kernel_rfl⟩, ⟨m50, by kernel_rfl⟩, ⟨m61, by kernel_rfl⟩, trivial⟩, ⟨⟨⟨m10, by kernel_rfl⟩, ⟨m43, by kernel_rfl⟩, ⟨m75, by kernel_rfl⟩, ⟨m22, by kernel_rfl⟩, ⟨m25, by kernel_rfl⟩, ⟨m41, by kernel_rfl⟩, ⟨m57, by kernel_rfl⟩, ⟨m59, by kernel_rfl⟩, ⟨m70, by kernel_rfl⟩, ⟨m72, by kernel_rfl⟩, trivial⟩, ⟨⟨⟨m9, by kernel_rfl⟩, trivial⟩, trivial, trivial⟩, ⟨⟨⟨m8, by kernel_rfl⟩, ⟨m39, by kernel_rfl⟩, trivial⟩, trivial, trivial⟩⟩, ⟨⟨⟨m63, by kernel_rfl⟩, trivial⟩, ⟨⟨⟨m6, by kernel_rfl⟩, ⟨m19, by kernel_rfl⟩, ⟨m37, by kernel_rfl⟩, ⟨m52, by kernel_rfl⟩, ⟨m53, by kernel_rfl⟩, ⟨m64, by kernel_rfl⟩, ⟨m65, by kernel_rfl⟩, trivial⟩, trivial, trivial⟩, trivial⟩⟩⟩
theorem m16 : Pure Tryz.prog 7 a_m16 r_m16 := run_pureM mixed_ok X_ok tyTab_ok fnTab_ok M3_ok (fuel := 3000) (d := 200) (by kernel_rfl)
theorem m27 : Pure Tryz.prog 10 a_m27 r_m27 := run_pureM mixed_ok X_ok tyTab_ok fnTab_ok M3_ok (fuel := 3000) (d := 200) (by kernel_rfl)
theorem m45 : Pure Tryz.prog 10 a_m45 r_m45 := run_pureM mixed_ok X_ok tyTab_ok fnTab_ok M3_ok (fuel := 3000) (d := 200) (by kernel_rfl)
noncomputable def M4 : Tab Memo := (.node 30 [(a_m5, r_m5), (a_m18, r_m18), (a_m30, r_m30), (a_m36, r_m36), (a_m48, r_m48), (a_m51, r_m51), (a_m62, r_m62), (a_m80, r_m80)] (.node 17 [(a_m7, r_m7), (a_m20, r_m20), (a_m38, r_m38), (a_m54, r_m54), (a_m66, r_m66)] (.node 9 [(a_m12, r_m12), (a_m11, r_m11), (a_m44, r_m44), (a_m76, r_m76), (a_m23, r_m23), (a_m26, r_m26), (a_m42, r_m42)] (.node 7 [(a_m16, r_m16)] .leaf .leaf) (.node 10 [(a_m13, r_m13), (a_m77, r_m77), (a_m27, r_m27), (a_m45, r_m45)] .leaf .leaf)) (.node 26 [(a_m14, r_m14), (a_m28, r_m28), (a_m46, r_m46), (a_m78, r_m78)] (.node 18 [(a_m55, r_m55), (a_m60, r_m60), (a_m67, r_m67), (a_m73, r_m73)] .leaf .leaf) (.node 29 [(a_m15, r_m15), (a_m29, r_m29), (a_m47, r_m47), (a_m79, r_m79)] .leaf .leaf))) (.node 73 [(a_m8, r_m8), (a_m39, r_m39)] (.node 62 [(a_m9, r_m9)] (.node 37 [(a_m21, r_m21), (a_m24, r_m24), (a_m40, r_m40), (a_m56, r_m56), (a_m58, r_m58), (a_m68, r_m68), (a_m69, r_m69), (a_m71, r_m71), (a_m74, r_m74)] .leaf .leaf) (.node 64 [(a_m10, r_m10), (a_m43, r_m43), (a_m75, r_m75), (a_m22, r_m22), (a_m25, r_m25), (a_m41, r_m41), (a_m57, r_m57), (a_m59, r_m59), (a_m70, r_m70), (a_m72, r_m72)] .leaf .leaf)) (.node 84 [(a_m6, r_m6), (a_m19, r_m19), (a_m37, r_m37), (a_m52, r_m52), (a_m53, r_m53), (a_m64, r_m64), (a_m65, r_m65)] (.node 83 [(a_m0, r_m0), (a_m1, r_m1), (a_m2, r_m2), (a_m3, r_m3), (a_m4, r_m4), (a_m17, r_m17), (a_m32, r_m32), (a_m33, r_m33), (a_m34, r_m34), (a_m35, r_m35), (a_m50, r_m50), (a_m61, r_m61)] .leaf .leaf) (.node 123 [(a_m63, r_m63)] .leaf .leaf))))
theorem M4_ok : MemoOk Tryz.prog M4.find := memoOk_tab ⟨⟨⟨m5, by kernel_rfl⟩, ⟨m18, by kernel_rfl⟩, ⟨m30, by kernel_rfl⟩, ⟨m36, by kernel_rfl⟩, ⟨m48, by kernel_rfl⟩, ⟨m51, by kernel_rfl⟩, ⟨m62, by kernel_rfl⟩, ⟨m80, by kernel_rfl⟩, trivial⟩, ⟨⟨⟨m7, by kernel_rfl⟩, ⟨m20, by kernel_rfl⟩, ⟨m38, by kernel_rfl⟩, ⟨m54, by kernel_rfl⟩, ⟨m66, by kernel_rfl⟩, trivial⟩, ⟨⟨⟨m12, by kernel_rfl⟩, ⟨m11, by kernel_rfl⟩, ⟨m44, by kernel_rfl⟩, ⟨m76, by kernel_rfl⟩, ⟨m23, by kernel_rfl⟩, ⟨m26, by kernel_rfl⟩, ⟨m42, by kernel_rfl⟩, trivial⟩, ⟨⟨⟨m16, by kernel_rfl⟩, trivial⟩, trivial, trivial⟩, ⟨⟨⟨m13, by kernel_rfl⟩, ⟨m77, by kernel_rfl⟩, ⟨m27, by kernel_rfl⟩, ⟨m45, by kernel_rfl⟩, trivial⟩, trivial, trivial⟩⟩, ⟨⟨⟨m14, by kernel_rfl⟩, ⟨m28, by kernel_rfl⟩, ⟨m46, by kernel_rfl⟩, ⟨m78, by kernel_rfl⟩, trivial⟩, ⟨⟨⟨m55, by kernel_rfl⟩, ⟨m60, by kernel_rfl⟩, ⟨m67, by kernel_rfl⟩, ⟨m73, by kernel_rfl⟩, trivial⟩, trivial, trivial⟩, ⟨⟨⟨m15, by kernel_rfl⟩, ⟨m29, by kernel_rfl⟩, ⟨m47, by kernel_rfl⟩, ⟨m79, by kernel_rfl⟩, trivial⟩, trivial, trivial⟩⟩⟩, ⟨⟨⟨m8, by kernel_rfl⟩, ⟨m39, by kernel_rfl⟩, trivial⟩, ⟨⟨⟨m9, by kernel_rfl⟩, trivial⟩, ⟨⟨⟨m21, by kernel_rfl⟩, ⟨m24, by kernel_rfl⟩, ⟨m40, by kernel_rfl⟩, ⟨m56, by kernel_rfl⟩, ⟨m58, by kernel_rfl⟩, ⟨m68, by kernel_rfl⟩, ⟨m69, by kernel_rfl⟩, ⟨m71, by kernel_rfl⟩, ⟨m74, by kernel_rfl⟩, trivial⟩, trivial, trivial⟩, ⟨⟨⟨m10, by kernel_rfl⟩, ⟨m43, by kernel_rfl⟩, ⟨m75, by kernel_rfl⟩, ⟨m22, by kernel_rfl⟩, ⟨m25, by kernel_rfl⟩, ⟨m41, by kernel_rfl⟩, ⟨m57, by kernel_rfl⟩, ⟨m59, by kernel_rfl⟩, ⟨m70, by kernel_rfl⟩, ⟨m72, by kernel_rfl⟩, trivial⟩, trivial, trivial⟩⟩, ⟨⟨⟨m6, by kernel_rfl⟩, ⟨m19, by kernel_rfl⟩, ⟨m37, by kernel_rfl⟩, ⟨m52, by kernel_rfl⟩, ⟨m53, by kernel_rfl⟩, ⟨m64, by kernel_rfl⟩, ⟨m65, by kernel_rfl⟩, trivial⟩, ⟨⟨⟨m0, by kernel_rfl⟩, ⟨m1, by kernel_rfl⟩, ⟨m2, by kernel_rfl⟩, ⟨m3, by kernel_rfl⟩, ⟨m4, by kernel_rfl⟩, ⟨m17, by kernel_rfl⟩, ⟨m32, by kernel_rfl⟩, ⟨m33, by kernel_rfl⟩, ⟨m34, by kernel_rfl⟩, ⟨m35, by kernel_rfl⟩, ⟨m50, by kernel_rfl⟩, ⟨m61, by kernel_rfl⟩, trivial⟩, trivial, trivial⟩, ⟨⟨⟨m63, by kernel_rfl⟩, trivial⟩, trivial, trivial⟩⟩⟩⟩
theorem m31 : Pure Tryz.prog 7 a_m31 r_m31 := run_pureM mixed_ok X_ok tyTab_ok fnTab_ok M4_ok (fuel := 3000) (d := 200) (by kernel_rfl)
theorem m49 : Pure Tryz.prog 7 a_m49 r_m49 := run_pureM mixed_ok X_ok tyTab_ok fnTab_ok M4_ok (fuel := 3000) (d := 200) (by kernel_rfl)
noncomputable def M5 : Tab Memo := (.node 30 [(a_m5, r_m5), (a_m18, r_m18), (a_m30, r_m30), (a_m36, r_m36), (a_m48, r_m48), (a_m51, r_m51), (a_m62, r_m62), (a_m80, r_m80)] (.node 17 [(a_m7, r_m7), (a_m20, r_m20), (a_m38, r_m38), (a_m54, r_m54), (a_m66, r_m66)] (.node 9 [(a_m12, r_m12), (a_m11, r_m11), (a_m44, r_m44), (a_m76, r_m76), (a_m23, r_m23), (a_m26, r_m26), (a_m42, r_m42)] (.node 7 [(a_m16, r_m16), (a_m31, r_m31), (a_m49, r_m49)] .leaf .leaf) (.node 10 [(a_m13, r_m13), (a_m77, r_m77), (a_m27, r_m27), (a_m45, r_m45)] .leaf .leaf)) (.node 26 [(a_m14, r_m14), (a_m28, r_m28), (a_m46, r_m46), (a_m78, r_m78)] (.node 18 [(a_m55, r_m55), (a_m60, r_m60), (a_m67, r_m67), (a_m73, r_m73)] .leaf .leaf) (.node 29 [(a_m15, r_m15), (a_m29, r_m29), (a_m47, r_m47), (a_m79, r_m79)] .leaf .leaf))) (.node 73 [(a_m8, r_m8), (a_m39, r_m39)] (.node 62 [(a_m9, r_m9)] (.node 37 [(a_m21, r_m21), (a_m24, r_m24), (a_m40, r_m40), (a_m56, r_m56), (a_m58, r_m58), (a_m68, r_m68), (a_m69, r_m69), (a_m71, r_m71), (a_m74, r_m74)] .leaf .leaf) (.node 64 [(a_m10, r_m10), (a_m43, r_m43), (a_m75, r_m75), (a_m22, r_m22), (a_m25, r_m25), (a_m41, r_m41), (a_m57, r_m57), (a_m59, r_m59), (a_m70, r_m70), (a_m72, r_m72)] .leaf .leaf)) (.node 84 [(a_m6, r_m6), (a_m19, r_m19), (a_m37, r_m37), (a_m52, r_m52), (a_m53, r_m53), (a_m64, r_m64), (a_m65, r_m65)] (.node 83 [(a_m0, r_m0), (a_m1, r_m1), (a_m2, r_m2), (a_m3, r_m3), (a_m4, r_m4), (a_m17, r_m17), (a_m32, r_m32), (a_m33, r_m33), (a_m34, r_m34), (a_m35, r_m35), (a_m50, r_m50), (a_m61, r_m61)] .leaf .leaf) (.node 123 [(a_m63, r_m63)] .leaf .leaf))))
theorem M5_ok : MemoOk Tryz.prog M5.find := memoOk_tab ⟨⟨⟨m5, by kernel_rfl⟩, ⟨m18, by kernel_rfl⟩, ⟨m30, by kernel_rfl⟩, ⟨m36, by kernel_rfl⟩, ⟨m48, by kernel_rfl⟩, ⟨m51, by kernel_rfl⟩, ⟨m62, by kernel_rfl⟩, ⟨m80, by kernel_rfl⟩, trivial⟩, ⟨⟨⟨m7, by kernel_rfl⟩, ⟨m20, by kernel_rfl⟩, ⟨m38, by kernel_rfl⟩, ⟨m54, by kernel_rfl⟩, ⟨m66, by kernel_rfl⟩, trivial⟩, ⟨⟨⟨m12, by kernel_rfl⟩, ⟨m11, by kernel_rfl⟩, ⟨m44, by kernel_rfl⟩, ⟨m76, by kernel_rfl⟩, ⟨m23, by kernel_rfl⟩, ⟨m26, by kernel_rfl⟩, ⟨m42, by kernel_rfl⟩, trivial⟩, ⟨⟨⟨m16, by kernel_rfl⟩, ⟨m31, by kernel_rfl⟩, ⟨m49, by kernel_rfl⟩, trivial⟩, trivial, trivial⟩, ⟨⟨⟨m13, by kernel_rfl⟩, ⟨m77, by kernel_rfl⟩, ⟨m27, by kernel_rfl⟩, ⟨m45, by kernel_rfl⟩, trivial⟩, trivial, trivial⟩⟩, ⟨⟨⟨m14, by kernel_rfl⟩, ⟨m28, by kernel_rfl⟩, ⟨m46, by kernel_rfl⟩, ⟨m78, by kernel_rfl⟩, trivial⟩, ⟨⟨⟨m55, by kernel_rfl⟩, ⟨m60, by kernel_rfl⟩, ⟨m67, by kernel_rfl⟩, ⟨m73, by kernel_rfl⟩, trivial⟩, trivial, trivial⟩, ⟨⟨⟨m15, by kernel_rfl⟩, ⟨m29, by kernel_rfl⟩, ⟨m47, by kernel_rfl⟩, ⟨m79, by kernel_rfl⟩, trivial⟩, trivial, trivial⟩⟩⟩, ⟨⟨⟨m8, by kernel_rfl⟩, ⟨m39, by kernel_rfl⟩, trivial⟩, ⟨⟨⟨m9, by kernel_rfl⟩, trivial⟩, ⟨⟨⟨m21, by kernel_rfl⟩, ⟨m24, by kernel_rfl⟩, ⟨m40, by kernel_rfl⟩, ⟨m56, by kernel_rfl⟩, ⟨m58, by kernel_rfl⟩, ⟨m68, by kernel_rfl⟩, ⟨m69, by kernel_rfl⟩, ⟨m71, by kernel_rfl⟩, ⟨m74, by kernel_rfl⟩, trivial⟩, trivial, trivial⟩, ⟨⟨⟨m10, by kernel_rfl⟩, ⟨m43, by kernel_rfl⟩, ⟨m75, by kernel_rfl⟩, ⟨m22, by kernel_rfl⟩, ⟨m25, by kernel_rfl⟩, ⟨m41, by kernel_rfl⟩, ⟨m57, by kernel_rfl⟩, ⟨m59, by kernel_rfl⟩, ⟨m70, by kernel_rfl⟩, ⟨m72, by kernel_rfl⟩, trivial⟩, trivial, trivial⟩⟩, ⟨⟨⟨m6, by kernel_rfl⟩, ⟨m19, by kernel_rfl⟩, ⟨m37, by kernel_rfl⟩, ⟨m52, by kernel_rfl⟩, ⟨m53, by kernel_rfl⟩, ⟨m64, by kernel_rfl⟩, ⟨m65, by kernel_rfl⟩, trivial⟩, ⟨⟨⟨m0, by kernel_rfl⟩, ⟨m1, by kernel_rfl⟩, ⟨m2, by kernel_rfl⟩, ⟨m3, by kernel_rfl⟩, ⟨m4, by kernel_rfl⟩, ⟨m17, by kernel_rfl⟩, ⟨m32, by kernel_rfl⟩, ⟨m33, by kernel_rfl⟩, ⟨m34, by kernel_rfl⟩, ⟨m35, by kernel_rfl⟩, ⟨m50, by kernel_rfl⟩, ⟨m61, by kernel_rfl⟩, trivial⟩, trivial, trivial⟩, ⟨⟨⟨m63, by kernel_rfl⟩, trivial⟩, trivial, trivial⟩⟩⟩⟩
theorem m81 : Pure Tryz.prog 3 a_m81 r_m81 := run_pureM mixed_ok X_ok tyTab_ok fnTab_ok M5_ok (fuel := 3000) (d := 200) (by kernel_rfl)
end Go.Av.Tryz

namespace Go.Av.Tryz
open Go.Av Go.Proofs
theorem RewriteNames_run (xs : List AV) (h : Rels (fun t a => Shape Tryz.prog 4 t a) [] xs) : Pure Tryz.prog 3 xs (.sc (.bool true)) := by
  obtain rfl := rels_nil h
  exact m81
end Go.Av.Tryz
