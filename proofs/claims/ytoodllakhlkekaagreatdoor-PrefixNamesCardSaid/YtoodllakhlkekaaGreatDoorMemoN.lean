/- A closed run, in parts: what each part answers. -/
import Derived.Test.YtoodllakhlkekaaGreatDoorOrdZ
import Derived.Test.YtoodllakhlkekaaGreatDoorWithinZ
set_option linter.all false

set_option maxRecDepth 1000000
namespace Go.Av.Tryz
open Go.Av Go.Av.X Go.Proofs Go.D Go.Av.Tryz
set_option maxHeartbeats 4000000
noncomputable def Xt (f : Nat) : Option (List AV -> Option AV) := bif Nat.beq f 292 then some ixG else none
theorem Xs : Xim Tryz.prog Xt := by
  intro f g h
  unfold Xt at h
  cases hb : Nat.beq f 292 with
  | true => rw [hb, cond_true] at h; cases h; rw [Nat.eq_of_beq_eq_true hb]; exact Xw0 Tryz.func292 (by kernel_rfl) (by kernel_rfl) (by kernel_rfl) (by kernel_rfl)
  | false =>
  rw [hb, cond_false] at h
  cases h
theorem tmI0 : X0w Tryz.prog Xeq.find /\ Tryz.prog.follows .mixedOrders = true := ⟨X1, by kernel_rfl⟩
instance tmI : TmD Tryz.prog Xeq.find := ⟨tmI0⟩
def X0v (l : List Int) : Option Int := (X4u (List.length l)).bind fun _ => some ((X53 [] l).length : Int)
theorem X3 : Tryz.prog.follows .mixedOrders = true := by kernel_rfl
noncomputable def v0 : AV := .agg [.sc (.int .i64 0), .sc (.int .i64 0), .sc (.int .i64 5), .sc (.int .i64 1), .sc (.int .i64 0)]
noncomputable def v1 : AV := .list false [v0]
noncomputable def v2 : AV := .list false [v0, v0]
noncomputable def v3 : AV := .list false [.agg [.sc (.int .i64 1), .sc (.int .i64 0), .sc (.int .i64 0)], .agg [.sc (.int .i64 2), .sc (.int .i64 0), .sc (.int .i64 0)]]
noncomputable def v4 : AV := .list false [.agg [.sc (.int .i64 2), .sc (.int .i64 0), .sc (.int .i64 0)], .agg [.sc (.int .i64 1), .sc (.int .i64 0), .sc (.int .i64 0)]]
noncomputable def v5 : AV := .agg [.sc (.int .i64 0), .sc (.int .i64 0), .sc (.int .i64 0), .sc (.int .i64 0), .sc (.int .i64 0)]
noncomputable def v6 : AV := .list false (List.replicate 4000 (v5))
noncomputable def v7 : AV := .sc (.string ⟨⟨[115, 101, 108, 101, 99, 116, 32, 99, 111, 117, 110, 116, 40, 42, 41, 32, 102, 114, 111, 109, 32, 97, 32, 119, 105, 110, 100, 111, 119, 32, 116, 117, 109, 98, 108, 101, 32, 53, 32, 108, 97, 116, 101, 32, 115, 105, 100, 101]⟩⟩)
noncomputable def v8 : AV := .agg [.sc (.int .u8 2), .sc (.string ⟨⟨[115, 101, 108, 101, 99, 116]⟩⟩), .sc (.int .i64 0)]
noncomputable def v9 : AV := .agg [.sc (.int .u8 2), .sc (.string ⟨⟨[99, 111, 117, 110, 116]⟩⟩), .sc (.int .i64 7)]
noncomputable def v10 : AV := .agg [.sc (.int .u8 2), .sc (.string ⟨⟨[102, 114, 111, 109]⟩⟩), .sc (.int .i64 16)]
noncomputable def v11 : AV := .agg [.sc (.int .u8 2), .sc (.string ⟨⟨[119, 105, 110, 100, 111, 119]⟩⟩), .sc (.int .i64 23)]
noncomputable def v12 : AV := .agg [.sc (.int .u8 2), .sc (.string ⟨⟨[116, 117, 109, 98, 108, 101]⟩⟩), .sc (.int .i64 30)]
noncomputable def v13 : AV := .agg [.sc (.int .u8 1), .list false [], .list false [.sc (.int .i64 0)], .sc (.bool false), .list false [], .sc (.int .u8 1), .sc (.int .i64 5), .sc (.int .i64 0), .sc (.bool false), .sc (.int .u8 2)]
noncomputable def v14 : AV := .agg [.sc (.bool true), .sc (.int .i64 9), .sc (.int .i64 0), .sc (.int .i64 0), .sc (.int .i64 0)]
noncomputable def v15 : AV := .agg [.sc (.bool false), .sc (.int .i64 0), .sc (.int .i64 4), .sc (.int .i64 1), .sc (.int .i64 8)]
noncomputable def v16 : AV := .list false [v14, v15]
noncomputable def v17 : AV := .list false [.agg [.sc (.int .u8 1), .sc (.int .i64 0)], .agg [.sc (.int .u8 2), .sc (.int .i64 0)], .agg [.sc (.int .u8 4), .sc (.int .i64 0)], .agg [.sc (.int .u8 6), .sc (.int .i64 0)], .agg [.sc (.int .u8 7), .sc (.int .i64 0)]]
noncomputable def v18 : AV := .list false [.agg [.sc (.int .i64 0), .sc (.int .i64 0), .sc (.int .i64 1), .sc (.int .i64 0), .sc (.int .i64 8)], .agg [.sc (.int .i64 1), .sc (.int .i64 0), .sc (.int .i64 2), .sc (.int .i64 0), .sc (.int .i64 8)], .agg [.sc (.int .i64 1), .sc (.int .i64 1), .sc (.int .i64 4), .sc (.int .i64 0), .sc (.int .i64 8)], .agg [.sc (.int .i64 2), .sc (.int .i64 0), .sc (.int .i64 3), .sc (.int .i64 0), .sc (.int .i64 8)]]
noncomputable def v19 : AV := .agg [.sc (.int .u8 2), .sc (.int .i64 0), .sc (.int .i64 0), .list false [], .list false [.sc (.int .i64 (-9223372036854775808))], .list false [], .list false [], .list false [], .list false []]
noncomputable def v20 : AV := .agg [.sc (.int .u8 4), .sc (.int .i64 0), .sc (.int .i64 0), .list false [], .list false [.sc (.int .i64 (-9223372036854775808))], .list false [], .list false [], .list false [], .list false []]
noncomputable def v21 : AV := .agg [.sc (.int .u8 6), .sc (.int .i64 0), .sc (.int .i64 0), .list false [], .list false [], .list false [], .list false [], .list false [], .list false []]
noncomputable def v22 : AV := .agg [.sc (.int .u8 7), .sc (.int .i64 0), .sc (.int .i64 0), .list false [], .list false [], .list false [], .list false [], .list false [], .list false []]
noncomputable def v23 : AV := .list false [.agg [.sc (.int .i64 8), .list false []], .agg [.sc (.int .i64 8), .list false []], .agg [.sc (.int .i64 8), .list false []], .agg [.sc (.int .i64 8), .list false []]]
noncomputable def v24 : AV := .agg [.sc (.int .u8 1), .list false [], .list false [.sc (.int .i64 0)], .sc (.bool false), .list false [], .sc (.int .u8 1), .sc (.int .i64 5), .sc (.int .i64 0), .sc (.bool false), .sc (.int .u8 2), v17, v18, .list false [.agg [.sc (.int .u8 1), .sc (.int .i64 0), .sc (.int .i64 0), .list false [], .list false [], .list false [], v16, .list false [], .list false []], v19, v20, v21, v22], v23]
noncomputable def v25 : AV := .agg [v17, v18]
noncomputable def v26 : AV := .list false [.agg [.sc (.int .i64 0), .sc (.int .u8 2), .sc (.int .i64 0), .sc (.int .i64 0), .sc (.int .i64 0), .sc (.int .i64 9), .sc (.int .i64 0), .sc (.int .i64 0), .sc (.int .i64 0), .sc (.int .i64 0), .sc (.int .i64 0)]]
noncomputable def v27 : AV := .list false [v15]
noncomputable def v28 : AV := .agg [.sc (.int .u8 1), .list false [], .list false [.sc (.int .i64 0)], .sc (.bool false), .list false [], .sc (.int .u8 1), .sc (.int .i64 5), .sc (.int .i64 0), .sc (.bool false), .sc (.int .u8 2), v17, v18, .list false [.agg [.sc (.int .u8 1), .sc (.int .i64 0), .sc (.int .i64 0), v26, .list false [], .list false [], v27, .list false [], .list false []], v19, v20, v21, v22], v23]
noncomputable def v29 : AV := .agg [.sc (.int .u8 2), .sc (.int .i64 0), .sc (.int .i64 0), .sc (.int .i64 0), .sc (.int .i64 9), .sc (.int .i64 0), .sc (.int .i64 0), .sc (.int .i64 0), .sc (.int .i64 0), .sc (.int .i64 0)]
noncomputable def v30 : AV := .list false [v29]
noncomputable def v31 : AV := .agg [.sc (.int .i64 8), v30]
noncomputable def v32 : AV := .list false [v31, .agg [.sc (.int .i64 8), .list false []], .agg [.sc (.int .i64 8), .list false []], .agg [.sc (.int .i64 8), .list false []]]
noncomputable def v33 : AV := .agg [.sc (.int .u8 1), .list false [], .list false [.sc (.int .i64 0)], .sc (.bool false), .list false [], .sc (.int .u8 1), .sc (.int .i64 5), .sc (.int .i64 0), .sc (.bool false), .sc (.int .u8 2), v17, v18, .list false [.agg [.sc (.int .u8 1), .sc (.int .i64 0), .sc (.int .i64 0), .list false [], .list false [], .list false [], v27, .list false [], .list false []], v19, v20, v21, v22], v32]
noncomputable def v34 : AV := .list true [v31]
noncomputable def v35 : AV := .agg [.sc (.int .u8 1), .list false [], .list false [.sc (.int .i64 0)], .sc (.bool false), .list false [], .sc (.int .u8 1), .sc (.int .i64 5), .sc (.int .i64 0), .sc (.bool false), .sc (.int .u8 2), v17, v18, .list false [.agg [.sc (.int .u8 1), .sc (.int .i64 0), .sc (.int .i64 0), .list false [.agg [.sc (.int .i64 0), .sc (.int .u8 1), .sc (.int .i64 4), .sc (.int .i64 1), .sc (.int .i64 8), .sc (.int .i64 0), .sc (.int .i64 0), .sc (.int .i64 0), .sc (.int .i64 0), .sc (.int .i64 0), .sc (.int .i64 0)]], .list false [], .list false [], .list false [], .list false [], .list false []], v19, v20, v21, v22], v32]
noncomputable def v36 : AV := .agg [.sc (.int .u8 1), .sc (.int .i64 0), .sc (.int .i64 0), .list false [], .list false [], .list false [], .list false [], .list false [], .list false []]
noncomputable def v37 : AV := .agg [.sc (.int .u8 1), .sc (.int .i64 4), .sc (.int .i64 1), .sc (.int .i64 8), .sc (.int .i64 0), .sc (.int .i64 0), .sc (.int .i64 0), .sc (.int .i64 0), .sc (.int .i64 0), .sc (.int .i64 0)]
noncomputable def v38 : AV := .agg [.sc (.int .i64 8), .list false [v29, v37]]
noncomputable def v39 : AV := .agg [.sc (.int .u8 1), .list false [], .list false [.sc (.int .i64 0)], .sc (.bool false), .list false [], .sc (.int .u8 1), .sc (.int .i64 5), .sc (.int .i64 0), .sc (.bool false), .sc (.int .u8 2), v17, v18, .list false [v36, v19, v20, v21, v22], .list false [v38, .agg [.sc (.int .i64 8), .list false []], .agg [.sc (.int .i64 8), .list false []], .agg [.sc (.int .i64 8), .list false []]]]
noncomputable def v40 : AV := .list true [.agg [.sc (.int .i64 8), .list false []], .agg [.sc (.int .i64 8), .list false []]]
noncomputable def v41 : AV := .agg [.sc (.int .u8 2), .sc (.int .i64 0), .sc (.int .i64 0), v26, .list false [.sc (.int .i64 9)], .list false [], .list false [], .list false [], .list false []]
noncomputable def v42 : AV := .agg [.sc (.int .i64 8), .list false [v37]]
noncomputable def v43 : AV := .agg [.sc (.int .u8 1), .list false [], .list false [.sc (.int .i64 0)], .sc (.bool false), .list false [], .sc (.int .u8 1), .sc (.int .i64 5), .sc (.int .i64 0), .sc (.bool false), .sc (.int .u8 2), v17, v18, .list false [v36, v41, v20, v21, v22], .list false [v42, .agg [.sc (.int .i64 8), .list false []], .agg [.sc (.int .i64 8), .list false []], .agg [.sc (.int .i64 8), .list false []]]]
noncomputable def v44 : AV := .list true [v42]
noncomputable def v45 : AV := .agg [.sc (.int .u8 2), .sc (.int .i64 0), .sc (.int .i64 0), .list false [], .list false [.sc (.int .i64 9)], .list false [], .list false [], .list false [], .list false []]
noncomputable def v46 : AV := .list false [v36, v45, v20, v21, v22]
noncomputable def v47 : AV := .agg [.sc (.int .u8 1), .list false [], .list false [.sc (.int .i64 0)], .sc (.bool false), .list false [], .sc (.int .u8 1), .sc (.int .i64 5), .sc (.int .i64 0), .sc (.bool false), .sc (.int .u8 2), v17, v18, v46, .list false [v42, v31, .agg [.sc (.int .i64 8), .list false []], .agg [.sc (.int .i64 8), .list false []]]]
noncomputable def v48 : AV := .list true [v31, .agg [.sc (.int .i64 8), .list false []]]
noncomputable def v49 : AV := .list false [.agg [.sc (.int .i64 8), .list false []], v31, .agg [.sc (.int .i64 8), .list false []], .agg [.sc (.int .i64 8), .list false []]]
noncomputable def v50 : AV := .agg [.sc (.int .u8 1), .list false [], .list false [.sc (.int .i64 0)], .sc (.bool false), .list false [], .sc (.int .u8 1), .sc (.int .i64 5), .sc (.int .i64 0), .sc (.bool false), .sc (.int .u8 2), v17, v18, .list false [v36, .agg [.sc (.int .u8 2), .sc (.int .i64 0), .sc (.int .i64 0), .list false [.agg [.sc (.int .i64 1), .sc (.int .u8 4), .sc (.int .i64 4), .sc (.int .i64 1), .sc (.int .i64 8), .sc (.int .i64 0), .sc (.int .i64 0), .sc (.int .i64 0), .sc (.int .i64 0), .sc (.int .i64 0), .sc (.int .i64 0)]], .list false [.sc (.int .i64 9)], .list false [], .list false [], .list false [], .list false []], v20, v21, v22], v49]
noncomputable def v51 : AV := .agg [.sc (.int .i64 8), .list false [.agg [.sc (.int .u8 4), .sc (.int .i64 4), .sc (.int .i64 1), .sc (.int .i64 8), .sc (.int .i64 0), .sc (.int .i64 0), .sc (.int .i64 0), .sc (.int .i64 0), .sc (.int .i64 0), .sc (.int .i64 0)]]]
noncomputable def v52 : AV := .agg [.sc (.int .u8 1), .list false [], .list false [.sc (.int .i64 0)], .sc (.bool false), .list false [], .sc (.int .u8 1), .sc (.int .i64 5), .sc (.int .i64 0), .sc (.bool false), .sc (.int .u8 2), v17, v18, v46, .list false [.agg [.sc (.int .i64 8), .list false []], v31, v51, .agg [.sc (.int .i64 8), .list false []]]]
noncomputable def v53 : AV := .agg [.sc (.int .u8 1), .list false [], .list false [.sc (.int .i64 0)], .sc (.bool false), .list false [], .sc (.int .u8 1), .sc (.int .i64 5), .sc (.int .i64 0), .sc (.bool false), .sc (.int .u8 2), v17, v18, .list false [v36, v45, v20, v21, .agg [.sc (.int .u8 7), .sc (.int .i64 0), .sc (.int .i64 0), .list false [], .list false [], .list false [], .list false [], .list false [], .list false [.agg [.sc (.int .i64 4), .sc (.int .i64 1), .sc (.int .i64 8)]]]], v49]
noncomputable def v54 : AV := .sc (.string ⟨⟨[115, 101, 108, 101, 99, 116, 32, 99, 111, 117, 110, 116, 40, 42, 41, 32, 102, 114, 111, 109, 32, 97, 32, 119, 105, 110, 100, 111, 119, 32, 116, 117, 109, 98, 108, 101, 32, 53]⟩⟩)
noncomputable def v55 : AV := .agg [.sc (.int .u8 1), .list false [], .list false [.sc (.int .i64 0)], .sc (.bool false), .list false [], .sc (.int .u8 1), .sc (.int .i64 5), .sc (.int .i64 0), .sc (.bool false), .sc (.int .u8 1)]
noncomputable def v56 : AV := .list false [.agg [.sc (.bool false), .sc (.int .i64 0), .sc (.int .i64 0), .sc (.int .i64 1), .sc (.int .i64 0)], v14]
noncomputable def v57 : AV := .list false [.agg [.sc (.int .u8 1), .sc (.int .i64 0)], .agg [.sc (.int .u8 2), .sc (.int .i64 0)], .agg [.sc (.int .u8 4), .sc (.int .i64 0)], .agg [.sc (.int .u8 6), .sc (.int .i64 0)]]
noncomputable def v58 : AV := .list false [.agg [.sc (.int .i64 0), .sc (.int .i64 0), .sc (.int .i64 1), .sc (.int .i64 0), .sc (.int .i64 1)], .agg [.sc (.int .i64 1), .sc (.int .i64 0), .sc (.int .i64 2), .sc (.int .i64 0), .sc (.int .i64 1)], .agg [.sc (.int .i64 2), .sc (.int .i64 0), .sc (.int .i64 3), .sc (.int .i64 0), .sc (.int .i64 1)]]
noncomputable def v59 : AV := .list false [.agg [.sc (.int .i64 1), .list false []], .agg [.sc (.int .i64 1), .list false []], .agg [.sc (.int .i64 1), .list false []]]
noncomputable def v60 : AV := .agg [.sc (.int .u8 1), .list false [], .list false [.sc (.int .i64 0)], .sc (.bool false), .list false [], .sc (.int .u8 1), .sc (.int .i64 5), .sc (.int .i64 0), .sc (.bool false), .sc (.int .u8 1), v57, v58, .list false [.agg [.sc (.int .u8 1), .sc (.int .i64 0), .sc (.int .i64 0), .list false [], .list false [], .list false [], v56, .list false [], .list false []], v19, v20, v21], v59]
noncomputable def v61 : AV := .agg [v57, v58]
noncomputable def v62 : AV := .list false [.agg [.sc (.int .i64 0), .sc (.int .u8 1), .sc (.int .i64 0), .sc (.int .i64 1), .sc (.int .i64 0), .sc (.int .i64 0), .sc (.int .i64 0), .sc (.int .i64 0), .sc (.int .i64 0), .sc (.int .i64 0), .sc (.int .i64 0)]]
noncomputable def v63 : AV := .list false [v14]
noncomputable def v64 : AV := .agg [.sc (.int .u8 1), .list false [], .list false [.sc (.int .i64 0)], .sc (.bool false), .list false [], .sc (.int .u8 1), .sc (.int .i64 5), .sc (.int .i64 0), .sc (.bool false), .sc (.int .u8 1), v57, v58, .list false [.agg [.sc (.int .u8 1), .sc (.int .i64 0), .sc (.int .i64 0), v62, .list false [], .list false [], v63, .list false [], .list false []], v19, v20, v21], v59]
noncomputable def v65 : AV := .agg [.sc (.int .u8 1), .sc (.int .i64 0), .sc (.int .i64 0), .list false [], .list false [], .list false [], v63, .list false [], .list false []]
noncomputable def v66 : AV := .list false [v65, v19, v20, v21]
noncomputable def v67 : AV := .agg [.sc (.int .i64 1), .list false [.agg [.sc (.int .u8 1), .sc (.int .i64 0), .sc (.int .i64 1), .sc (.int .i64 0), .sc (.int .i64 0), .sc (.int .i64 0), .sc (.int .i64 0), .sc (.int .i64 0), .sc (.int .i64 0), .sc (.int .i64 0)]]]
noncomputable def v68 : AV := .agg [.sc (.int .u8 1), .list false [], .list false [.sc (.int .i64 0)], .sc (.bool false), .list false [], .sc (.int .u8 1), .sc (.int .i64 5), .sc (.int .i64 0), .sc (.bool false), .sc (.int .u8 1), v57, v58, v66, .list false [v67, .agg [.sc (.int .i64 1), .list false []], .agg [.sc (.int .i64 1), .list false []]]]
noncomputable def v69 : AV := .list true [v67]
noncomputable def v70 : AV := .agg [.sc (.int .u8 1), .list false [], .list false [.sc (.int .i64 0)], .sc (.bool false), .list false [], .sc (.int .u8 1), .sc (.int .i64 5), .sc (.int .i64 0), .sc (.bool false), .sc (.int .u8 1), v57, v58, .list false [v65, .agg [.sc (.int .u8 2), .sc (.int .i64 0), .sc (.int .i64 0), v62, .list false [.sc (.int .i64 (-9223372036854775808))], .list false [], .list false [], .list false [], .list false []], v20, v21], v59]
noncomputable def v71 : AV := .agg [.sc (.int .u8 1), .list false [], .list false [.sc (.int .i64 0)], .sc (.bool false), .list false [], .sc (.int .u8 1), .sc (.int .i64 5), .sc (.int .i64 0), .sc (.bool false), .sc (.int .u8 1), v57, v58, v66, .list false [.agg [.sc (.int .i64 1), .list false []], v67, .agg [.sc (.int .i64 1), .list false []]]]
noncomputable def v72 : AV := .agg [.sc (.int .u8 4), .sc (.int .i64 0), .sc (.int .i64 0), .list false [], .list false [.sc (.int .i64 (-9223372036854775808))], .list false [.agg [.sc (.int .i64 0), .sc (.int .i64 0), .sc (.int .i64 5), .sc (.int .i64 1), .sc (.int .i64 0), .sc (.int .i64 0), .sc (.int .i64 0), .sc (.int .i64 0), .sc (.int .i64 0), .sc (.int .i64 0), .sc (.int .i64 0)]], .list false [], .list false [], .list false []]
noncomputable def v73 : AV := .agg [.sc (.int .u8 1), .list false [], .list false [.sc (.int .i64 0)], .sc (.bool false), .list false [], .sc (.int .u8 1), .sc (.int .i64 5), .sc (.int .i64 0), .sc (.bool false), .sc (.int .u8 1), v57, v58, .list false [v65, v19, v72, v21], v59]
noncomputable def v74 : AV := .agg [.sc (.int .u8 1), .list false [], .list false [.sc (.int .i64 0)], .sc (.bool false), .list false [], .sc (.int .u8 1), .sc (.int .i64 5), .sc (.int .i64 0), .sc (.bool false), .sc (.int .u8 1), v57, v58, .list false [.agg [.sc (.int .u8 1), .sc (.int .i64 0), .sc (.int .i64 0), v26, .list false [], .list false [], .list false [], .list false [], .list false []], v19, v72, v21], v59]
noncomputable def v75 : AV := .agg [.sc (.int .i64 1), v30]
noncomputable def v76 : AV := .agg [.sc (.int .u8 1), .list false [], .list false [.sc (.int .i64 0)], .sc (.bool false), .list false [], .sc (.int .u8 1), .sc (.int .i64 5), .sc (.int .i64 0), .sc (.bool false), .sc (.int .u8 1), v57, v58, .list false [v36, v19, v72, v21], .list false [v75, .agg [.sc (.int .i64 1), .list false []], .agg [.sc (.int .i64 1), .list false []]]]
noncomputable def v77 : AV := .list true [v75]
noncomputable def v78 : AV := .agg [.sc (.int .u8 1), .list false [], .list false [.sc (.int .i64 0)], .sc (.bool false), .list false [], .sc (.int .u8 1), .sc (.int .i64 5), .sc (.int .i64 0), .sc (.bool false), .sc (.int .u8 1), v57, v58, .list false [v36, v41, v72, v21], v59]
noncomputable def v79 : AV := .agg [.sc (.int .u8 1), .list false [], .list false [.sc (.int .i64 0)], .sc (.bool false), .list false [], .sc (.int .u8 1), .sc (.int .i64 5), .sc (.int .i64 0), .sc (.bool false), .sc (.int .u8 1), v57, v58, .list false [v36, v45, v72, v21], .list false [.agg [.sc (.int .i64 1), .list false []], v75, .agg [.sc (.int .i64 1), .list false []]]]
noncomputable def v80 : AV := .tup [v79, .sc (.bool true)]
noncomputable def v81 : AV := .agg [.sc (.int .u8 4), .sc (.int .i64 0), .sc (.int .i64 0), .list false [.agg [.sc (.int .i64 0), .sc (.int .u8 3), .sc (.int .i64 0), .sc (.int .i64 0), .sc (.int .i64 0), .sc (.int .i64 0), .sc (.int .i64 0), .sc (.int .i64 0), .sc (.int .i64 5), .sc (.int .i64 1), .sc (.int .i64 0)]], .list false [.sc (.int .i64 9)], .list false [], .list false [], .list false [], .list false []]
noncomputable def v82 : AV := .agg [.sc (.int .u8 1), .list false [], .list false [.sc (.int .i64 0)], .sc (.bool false), .list false [], .sc (.int .u8 1), .sc (.int .i64 5), .sc (.int .i64 0), .sc (.bool false), .sc (.int .u8 1), v57, v58, .list false [v36, v45, v81, v21], v59]
noncomputable def v83 : AV := .agg [.sc (.int .u8 4), .sc (.int .i64 0), .sc (.int .i64 0), .list false [], .list false [.sc (.int .i64 9)], .list false [], .list false [], .list false [], .list false []]
noncomputable def v84 : AV := .agg [.sc (.int .i64 1), .list false [.agg [.sc (.int .u8 3), .sc (.int .i64 0), .sc (.int .i64 0), .sc (.int .i64 0), .sc (.int .i64 0), .sc (.int .i64 0), .sc (.int .i64 0), .sc (.int .i64 5), .sc (.int .i64 1), .sc (.int .i64 0)]]]
noncomputable def v85 : AV := .agg [.sc (.int .u8 1), .list false [], .list false [.sc (.int .i64 0)], .sc (.bool false), .list false [], .sc (.int .u8 1), .sc (.int .i64 5), .sc (.int .i64 0), .sc (.bool false), .sc (.int .u8 1), v57, v58, .list false [v36, v45, v83, v21], .list false [.agg [.sc (.int .i64 1), .list false []], .agg [.sc (.int .i64 1), .list false []], v84]]
noncomputable def v86 : AV := .tup [v85, .sc (.bool true)]
noncomputable def v87 : AV := .agg [.sc (.int .u8 1), .list false [], .list false [.sc (.int .i64 0)], .sc (.bool false), .list false [], .sc (.int .u8 1), .sc (.int .i64 5), .sc (.int .i64 0), .sc (.bool false), .sc (.int .u8 1), v57, v58, .list false [v36, v45, v83, .agg [.sc (.int .u8 6), .sc (.int .i64 0), .sc (.int .i64 0), .list false [], .list false [], .list false [], .list false [], v1, .list false []]], v59]
noncomputable def Xss : List AV := [v1, v2]
noncomputable def Xqv : AV := .sc (.bool true)
noncomputable def Xsr : List AV := [.list false [], .list false []]
noncomputable def Xqu : AV := .sc (.bool true)
noncomputable def Xsq : List AV := [v2, v1]
noncomputable def Xqt : AV := .sc (.bool false)
noncomputable def Xsp : List AV := [.list false [], v1]
noncomputable def Xqs : AV := .sc (.bool true)
noncomputable def Xso : List AV := [v3, .list false []]
noncomputable def Xqr : AV := .sc (.bool false)
noncomputable def Xsn : List AV := [v1, .list false []]
noncomputable def Xqq : AV := .sc (.bool false)
noncomputable def Xsm : List AV := [.list false [], .list false []]
noncomputable def Xqp : AV := .sc (.bool true)
noncomputable def Xsl : List AV := [v3, v4]
noncomputable def Xqo : AV := .sc (.bool true)
noncomputable def Xsk : List AV := [v4, v3]
noncomputable def Xqn : AV := .sc (.bool true)
noncomputable def Xsj : List AV := [v6, v6]
noncomputable def Xqm : AV := .sc (.bool true)
noncomputable def Xik : List AV := [.sc (.string ⟨⟨[99, 111, 117, 110, 116]⟩⟩)]
noncomputable def Xgd : AV := .sc (.bool true)
noncomputable def Xij : List AV := [.sc (.string ⟨⟨[97]⟩⟩)]
noncomputable def Xgc : AV := .sc (.bool true)
noncomputable def Xii : List AV := [.sc (.string ⟨⟨[116, 117, 109, 98, 108, 101]⟩⟩)]
noncomputable def Xgb : AV := .sc (.bool true)
noncomputable def Xmn : List AV := [v7]
noncomputable def Xk0 : AV := .tup [.list true [v8, v9, .agg [.sc (.int .u8 3), .sc (.string ⟨⟨[40]⟩⟩), .sc (.int .i64 12)], .agg [.sc (.int .u8 3), .sc (.string ⟨⟨[42]⟩⟩), .sc (.int .i64 13)], .agg [.sc (.int .u8 3), .sc (.string ⟨⟨[41]⟩⟩), .sc (.int .i64 14)], v10, .agg [.sc (.int .u8 2), .sc (.string ⟨⟨[97]⟩⟩), .sc (.int .i64 21)], v11, v12, .agg [.sc (.int .u8 1), .sc (.string ⟨⟨[53]⟩⟩), .sc (.int .i64 37)], .agg [.sc (.int .u8 2), .sc (.string ⟨⟨[108, 97, 116, 101]⟩⟩), .sc (.int .i64 39)], .agg [.sc (.int .u8 2), .sc (.string ⟨⟨[115, 105, 100, 101]⟩⟩), .sc (.int .i64 44)]], .sc (.int .i64 48), .sc (.int .i64 0)]
noncomputable def Xoj : List AV := [v7]
noncomputable def Xnd : AV := .tup [v13, .sc (.int .i64 48), .sc (.int .i64 0)]
noncomputable def Xdn : List AV := [.list false [.sc (.int .i64 0)]]
noncomputable def Xd1 : AV := .sc (.int .i64 1)
noncomputable def Xdm : List AV := [.list false []]
noncomputable def Xd0 : AV := .nils
noncomputable def Xih : List AV := [v13, .list false [v16], .sc (.int .i64 1), .sc (.int .i64 8)]
noncomputable def Xga : AV := .tup [v24, .sc (.int .i64 0)]
noncomputable def Xdl : List AV := [v25]
noncomputable def Xcz : AV := .list true [.sc (.int .i64 0), .sc (.int .i64 1), .sc (.int .i64 2), .sc (.int .i64 3), .sc (.int .i64 4)]
noncomputable def Xig : List AV := [v25]
noncomputable def Xg9 : AV := .sc (.int .i64 0)
noncomputable def Xif : List AV := [v25, .sc (.int .i64 0)]
noncomputable def Xg8 : AV := .list false []
noncomputable def Xie : List AV := [v25, .sc (.int .i64 0)]
noncomputable def Xg7 : AV := .list true [.sc (.int .i64 0)]
noncomputable def Xid : List AV := [v25, .sc (.int .i64 1)]
noncomputable def Xg6 : AV := .list true [.sc (.int .i64 0)]
noncomputable def Xic : List AV := [v25, .sc (.int .i64 1)]
noncomputable def Xg5 : AV := .list true [.sc (.int .i64 1), .sc (.int .i64 2)]
noncomputable def Xib : List AV := [v25, .sc (.int .i64 2)]
noncomputable def Xg4 : AV := .list true [.sc (.int .i64 1)]
noncomputable def Xia : List AV := [v25, .sc (.int .i64 2)]
noncomputable def Xg3 : AV := .list true [.sc (.int .i64 3)]
noncomputable def Xi9 : List AV := [v25, .sc (.int .i64 3)]
noncomputable def Xg2 : AV := .list true [.sc (.int .i64 3)]
noncomputable def Xi8 : List AV := [v25, .sc (.int .i64 3)]
noncomputable def Xg1 : AV := .list false []
noncomputable def Xi7 : List AV := [v25, .sc (.int .i64 4)]
noncomputable def Xg0 : AV := .list true [.sc (.int .i64 2)]
noncomputable def Xi6 : List AV := [v25, .sc (.int .i64 4)]
noncomputable def Xfz : AV := .list false []
noncomputable def Xmi : List AV := [v24]
noncomputable def Xjv : AV := .sc (.int .i64 0)
noncomputable def Xi5 : List AV := [v24, .list false []]
noncomputable def Xfy : AV := .list false []
noncomputable def Xi4 : List AV := [v24, .list false [.sc (.int .i64 0)]]
noncomputable def Xfx : AV := .list true [.agg [.sc (.int .i64 8), .list false []]]
noncomputable def Xdk : List AV := [.list false []]
noncomputable def Xcy : AV := .nils
noncomputable def Xdj : List AV := [.list false []]
noncomputable def Xcx : AV := .nils
noncomputable def Xdi : List AV := [.list false []]
noncomputable def Xcw : AV := .nils
noncomputable def Xdh : List AV := [.list false []]
noncomputable def Xcv : AV := .nils
noncomputable def Xdg : List AV := [.list false []]
noncomputable def Xcu : AV := .nils
noncomputable def Xdf : List AV := [.list false []]
noncomputable def Xct : AV := .nils
noncomputable def Xde : List AV := [.list false []]
noncomputable def Xcs : AV := .nils
noncomputable def Xi3 : List AV := [v24, .sc (.int .i64 0)]
noncomputable def Xfw : AV := .tup [v28, .sc (.bool true)]
noncomputable def Xmh : List AV := [v28]
noncomputable def Xju : AV := .sc (.int .i64 0)
noncomputable def Xi2 : List AV := [v28, .list false []]
noncomputable def Xfv : AV := .list false []
noncomputable def Xi1 : List AV := [v28, .list false [.sc (.int .i64 0)]]
noncomputable def Xfu : AV := .list true [.agg [.sc (.int .i64 8), .list false []]]
noncomputable def Xmg : List AV := [v28, .sc (.int .i64 0)]
noncomputable def Xjt : AV := .tup [v33, .sc (.bool true)]
noncomputable def Xmf : List AV := [v33]
noncomputable def Xjs : AV := .sc (.int .i64 0)
noncomputable def Xi0 : List AV := [v33, .list false []]
noncomputable def Xft : AV := .list false []
noncomputable def Xhz : List AV := [v33, .list false [.sc (.int .i64 0)]]
noncomputable def Xfs : AV := v34
noncomputable def Xhy : List AV := [v33, .sc (.int .i64 0)]
noncomputable def Xfr : AV := .tup [v35, .sc (.bool true)]
noncomputable def Xme : List AV := [v35]
noncomputable def Xjr : AV := .sc (.int .i64 0)
noncomputable def Xhx : List AV := [v35, .list false []]
noncomputable def Xfq : AV := .list false []
noncomputable def Xhw : List AV := [v35, .list false [.sc (.int .i64 0)]]
noncomputable def Xfp : AV := v34
noncomputable def Xmd : List AV := [v35, .sc (.int .i64 0)]
noncomputable def Xjq : AV := .tup [v39, .sc (.bool true)]
noncomputable def Xmc : List AV := [v39]
noncomputable def Xjp : AV := .sc (.int .i64 0)
noncomputable def Xhv : List AV := [v39, .list false [.sc (.int .i64 0)]]
noncomputable def Xfo : AV := .list true [v38]
noncomputable def Xhu : List AV := [v39, .list false [.sc (.int .i64 1), .sc (.int .i64 2)]]
noncomputable def Xfn : AV := v40
noncomputable def Xmb : List AV := [v39, .sc (.int .i64 1), .sc (.int .i64 0), .sc (.int .i64 0)]
noncomputable def Xjo : AV := .tup [v43, .sc (.int .i64 0)]
noncomputable def Xma : List AV := [v43]
noncomputable def Xjn : AV := .sc (.int .i64 0)
noncomputable def Xht : List AV := [v43, .list false [.sc (.int .i64 0)]]
noncomputable def Xfm : AV := v44
noncomputable def Xhs : List AV := [v43, .list false [.sc (.int .i64 1), .sc (.int .i64 2)]]
noncomputable def Xfl : AV := v40
noncomputable def Xm9 : List AV := [v43, .sc (.int .i64 1)]
noncomputable def Xjm : AV := .tup [v47, .sc (.bool true)]
noncomputable def Xm8 : List AV := [v47]
noncomputable def Xjl : AV := .sc (.int .i64 0)
noncomputable def Xhr : List AV := [v47, .list false [.sc (.int .i64 0)]]
noncomputable def Xfk : AV := v44
noncomputable def Xhq : List AV := [v47, .list false [.sc (.int .i64 1), .sc (.int .i64 2)]]
noncomputable def Xfj : AV := v48
noncomputable def Xm7 : List AV := [v47, .sc (.int .i64 1), .sc (.int .i64 0), .sc (.int .i64 0)]
noncomputable def Xjk : AV := .tup [v50, .sc (.int .i64 0)]
noncomputable def Xoi : List AV := [v24, .list false [.agg [.sc (.int .i64 0), .sc (.int .i64 (-1))], .agg [.sc (.int .i64 0), .sc (.int .i64 (-1))], .agg [.sc (.int .i64 0), .sc (.int .i64 (-1))], .agg [.sc (.int .i64 0), .sc (.int .i64 (-1))], .agg [.sc (.int .i64 1), .sc (.int .i64 (-1))], .agg [.sc (.int .i64 1), .sc (.int .i64 (-1))], .agg [.sc (.int .i64 1), .sc (.int .i64 (-1))]]]
noncomputable def Xnc : AV := .tup [v50, .sc (.int .i64 7), .sc (.int .i64 0)]
noncomputable def Xm6 : List AV := [v50]
noncomputable def Xjj : AV := .sc (.int .i64 0)
noncomputable def Xhp : List AV := [v50, .list false [.sc (.int .i64 0)]]
noncomputable def Xfi : AV := .list true [.agg [.sc (.int .i64 8), .list false []]]
noncomputable def Xho : List AV := [v50, .list false [.sc (.int .i64 1), .sc (.int .i64 2)]]
noncomputable def Xfh : AV := v48
noncomputable def Xm5 : List AV := [v50, .sc (.int .i64 1)]
noncomputable def Xji : AV := .tup [v52, .sc (.bool true)]
noncomputable def Xm4 : List AV := [v52]
noncomputable def Xjh : AV := .sc (.int .i64 0)
noncomputable def Xhn : List AV := [v52, .list false [.sc (.int .i64 2)]]
noncomputable def Xfg : AV := .list true [v51]
noncomputable def Xhm : List AV := [v52, .list false []]
noncomputable def Xff : AV := .list false []
noncomputable def Xm3 : List AV := [v52, .sc (.int .i64 4), .sc (.int .i64 0), .sc (.int .i64 0)]
noncomputable def Xjg : AV := .tup [v53, .sc (.int .i64 0)]
noncomputable def Xoh : List AV := [v50, .list false [.agg [.sc (.int .i64 1), .sc (.int .i64 (-1))], .agg [.sc (.int .i64 4), .sc (.int .i64 (-1))]]]
noncomputable def Xnb : AV := .tup [v53, .sc (.int .i64 2), .sc (.int .i64 0)]
noncomputable def Xm2 : List AV := [v53]
noncomputable def Xjf : AV := .sc (.int .i64 0)
noncomputable def Xm1 : List AV := [v54]
noncomputable def Xje : AV := .tup [.list true [v8, v9, .agg [.sc (.int .u8 3), .sc (.string ⟨⟨[40]⟩⟩), .sc (.int .i64 12)], .agg [.sc (.int .u8 3), .sc (.string ⟨⟨[42]⟩⟩), .sc (.int .i64 13)], .agg [.sc (.int .u8 3), .sc (.string ⟨⟨[41]⟩⟩), .sc (.int .i64 14)], v10, .agg [.sc (.int .u8 2), .sc (.string ⟨⟨[97]⟩⟩), .sc (.int .i64 21)], v11, v12, .agg [.sc (.int .u8 1), .sc (.string ⟨⟨[53]⟩⟩), .sc (.int .i64 37)]], .sc (.int .i64 38), .sc (.int .i64 0)]
noncomputable def Xog : List AV := [v54]
noncomputable def Xna : AV := .tup [v55, .sc (.int .i64 38), .sc (.int .i64 0)]
noncomputable def Xhl : List AV := [v55, .list false [v56], .sc (.int .i64 1), .sc (.int .i64 1)]
noncomputable def Xfe : AV := .tup [v60, .sc (.int .i64 0)]
noncomputable def Xdd : List AV := [v61]
noncomputable def Xcr : AV := .list true [.sc (.int .i64 0), .sc (.int .i64 1), .sc (.int .i64 2), .sc (.int .i64 3)]
noncomputable def Xhk : List AV := [v61, .sc (.int .i64 0)]
noncomputable def Xfd : AV := .list false []
noncomputable def Xhj : List AV := [v61, .sc (.int .i64 0)]
noncomputable def Xfc : AV := .list true [.sc (.int .i64 0)]
noncomputable def Xhi : List AV := [v61, .sc (.int .i64 1)]
noncomputable def Xfb : AV := .list true [.sc (.int .i64 0)]
noncomputable def Xhh : List AV := [v61, .sc (.int .i64 1)]
noncomputable def Xfa : AV := .list true [.sc (.int .i64 1)]
noncomputable def Xhg : List AV := [v61, .sc (.int .i64 2)]
noncomputable def Xf9 : AV := .list true [.sc (.int .i64 1)]
noncomputable def Xhf : List AV := [v61, .sc (.int .i64 2)]
noncomputable def Xf8 : AV := .list true [.sc (.int .i64 2)]
noncomputable def Xhe : List AV := [v61, .sc (.int .i64 3)]
noncomputable def Xf7 : AV := .list true [.sc (.int .i64 2)]
noncomputable def Xhd : List AV := [v61, .sc (.int .i64 3)]
noncomputable def Xf6 : AV := .list false []
noncomputable def Xm0 : List AV := [v60]
noncomputable def Xjd : AV := .sc (.int .i64 0)
noncomputable def Xhc : List AV := [v60, .list false [.sc (.int .i64 2)]]
noncomputable def Xf5 : AV := .list true [.agg [.sc (.int .i64 1), .list false []]]
noncomputable def Xhb : List AV := [v60, .list false []]
noncomputable def Xf4 : AV := .list false []
noncomputable def Xha : List AV := [v60, .list false [.sc (.int .i64 1)]]
noncomputable def Xf3 : AV := .list true [.agg [.sc (.int .i64 1), .list false []]]
noncomputable def Xh9 : List AV := [v60, .list false [.sc (.int .i64 0)]]
noncomputable def Xf2 : AV := .list true [.agg [.sc (.int .i64 1), .list false []]]
noncomputable def Xh8 : List AV := [v60, .sc (.int .i64 0)]
noncomputable def Xf1 : AV := .tup [v64, .sc (.bool true)]
noncomputable def Xlz : List AV := [v64]
noncomputable def Xjc : AV := .sc (.int .i64 0)
noncomputable def Xh7 : List AV := [v64, .list false [.sc (.int .i64 2)]]
noncomputable def Xf0 : AV := .list true [.agg [.sc (.int .i64 1), .list false []]]
noncomputable def Xh6 : List AV := [v64, .list false []]
noncomputable def Xez : AV := .list false []
noncomputable def Xh5 : List AV := [v64, .list false [.sc (.int .i64 1)]]
noncomputable def Xey : AV := .list true [.agg [.sc (.int .i64 1), .list false []]]
noncomputable def Xh4 : List AV := [v64, .list false [.sc (.int .i64 0)]]
noncomputable def Xex : AV := .list true [.agg [.sc (.int .i64 1), .list false []]]
noncomputable def Xly : List AV := [v64, .sc (.int .i64 0)]
noncomputable def Xjb : AV := .tup [v68, .sc (.bool true)]
noncomputable def Xcd : List AV := [v68]
noncomputable def Xb6 : AV := .sc (.int .i64 0)
noncomputable def X9t : List AV := [v68, .list false [.sc (.int .i64 2)]]
noncomputable def X8j : AV := .list true [.agg [.sc (.int .i64 1), .list false []]]
noncomputable def X9s : List AV := [v68, .list false []]
noncomputable def X8i : AV := .list false []
noncomputable def X9r : List AV := [v68, .list false [.sc (.int .i64 1)]]
noncomputable def X8h : AV := .list true [.agg [.sc (.int .i64 1), .list false []]]
noncomputable def X9q : List AV := [v68, .list false [.sc (.int .i64 0)]]
noncomputable def X8g : AV := v69
noncomputable def Xcc : List AV := [v68, .sc (.int .i64 1), .sc (.int .i64 0), .sc (.int .i64 0)]
noncomputable def Xb5 : AV := .tup [v70, .sc (.int .i64 0)]
noncomputable def Xcb : List AV := [v70]
noncomputable def Xb4 : AV := .sc (.int .i64 0)
noncomputable def X9p : List AV := [v70, .list false [.sc (.int .i64 2)]]
noncomputable def X8f : AV := .list true [.agg [.sc (.int .i64 1), .list false []]]
noncomputable def X9o : List AV := [v70, .list false []]
noncomputable def X8e : AV := .list false []
noncomputable def X9n : List AV := [v70, .list false [.sc (.int .i64 1)]]
noncomputable def X8d : AV := .list true [.agg [.sc (.int .i64 1), .list false []]]
noncomputable def X9m : List AV := [v70, .list false [.sc (.int .i64 0)]]
noncomputable def X8c : AV := .list true [.agg [.sc (.int .i64 1), .list false []]]
noncomputable def Xca : List AV := [v70, .sc (.int .i64 1)]
noncomputable def Xb3 : AV := .tup [v71, .sc (.bool true)]
noncomputable def Xc9 : List AV := [v71]
noncomputable def Xb2 : AV := .sc (.int .i64 0)
noncomputable def X9l : List AV := [v71, .list false [.sc (.int .i64 2)]]
noncomputable def X8b : AV := .list true [.agg [.sc (.int .i64 1), .list false []]]
noncomputable def X9k : List AV := [v71, .list false []]
noncomputable def X8a : AV := .list false []
noncomputable def X9j : List AV := [v71, .list false [.sc (.int .i64 1)]]
noncomputable def X89 : AV := v69
noncomputable def Xc8 : List AV := [v71, .sc (.int .i64 2), .sc (.int .i64 0), .sc (.int .i64 0)]
noncomputable def Xb1 : AV := .tup [v73, .sc (.int .i64 0)]
noncomputable def Xc7 : List AV := [v73]
noncomputable def Xb0 : AV := .sc (.int .i64 0)
noncomputable def X9i : List AV := [v73, .list false [.sc (.int .i64 2)]]
noncomputable def X88 : AV := .list true [.agg [.sc (.int .i64 1), .list false []]]
noncomputable def X9h : List AV := [v73, .list false []]
noncomputable def X87 : AV := .list false []
noncomputable def X9g : List AV := [v73, .list false [.sc (.int .i64 1)]]
noncomputable def X86 : AV := .list true [.agg [.sc (.int .i64 1), .list false []]]
noncomputable def X9f : List AV := [v73, .list false [.sc (.int .i64 0)]]
noncomputable def X85 : AV := .list true [.agg [.sc (.int .i64 1), .list false []]]
noncomputable def X9e : List AV := [v73, .sc (.int .i64 0)]
noncomputable def X84 : AV := .tup [v74, .sc (.bool true)]
noncomputable def Xc6 : List AV := [v74]
noncomputable def Xaz : AV := .sc (.int .i64 0)
noncomputable def X9d : List AV := [v74, .list false [.sc (.int .i64 2)]]
noncomputable def X83 : AV := .list true [.agg [.sc (.int .i64 1), .list false []]]
noncomputable def X9c : List AV := [v74, .list false []]
noncomputable def X82 : AV := .list false []
noncomputable def X9b : List AV := [v74, .list false [.sc (.int .i64 1)]]
noncomputable def X81 : AV := .list true [.agg [.sc (.int .i64 1), .list false []]]
noncomputable def X9a : List AV := [v74, .list false [.sc (.int .i64 0)]]
noncomputable def X80 : AV := .list true [.agg [.sc (.int .i64 1), .list false []]]
noncomputable def Xc5 : List AV := [v74, .sc (.int .i64 0)]
noncomputable def Xay : AV := .tup [v76, .sc (.bool true)]
noncomputable def Xc4 : List AV := [v76]
noncomputable def Xax : AV := .sc (.int .i64 0)
noncomputable def X99 : List AV := [v76, .list false [.sc (.int .i64 2)]]
noncomputable def X7z : AV := .list true [.agg [.sc (.int .i64 1), .list false []]]
noncomputable def X98 : List AV := [v76, .list false []]
noncomputable def X7y : AV := .list false []
noncomputable def X97 : List AV := [v76, .list false [.sc (.int .i64 1)]]
noncomputable def X7x : AV := .list true [.agg [.sc (.int .i64 1), .list false []]]
noncomputable def X96 : List AV := [v76, .list false [.sc (.int .i64 0)]]
noncomputable def X7w : AV := v77
noncomputable def Xc3 : List AV := [v76, .sc (.int .i64 1), .sc (.int .i64 0), .sc (.int .i64 0)]
noncomputable def Xaw : AV := .tup [v78, .sc (.int .i64 0)]
noncomputable def Xc2 : List AV := [v78]
noncomputable def Xav : AV := .sc (.int .i64 0)
noncomputable def X95 : List AV := [v78, .list false [.sc (.int .i64 2)]]
noncomputable def X7v : AV := .list true [.agg [.sc (.int .i64 1), .list false []]]
noncomputable def X94 : List AV := [v78, .list false []]
noncomputable def X7u : AV := .list false []
noncomputable def X93 : List AV := [v78, .list false [.sc (.int .i64 1)]]
noncomputable def X7t : AV := .list true [.agg [.sc (.int .i64 1), .list false []]]
noncomputable def X92 : List AV := [v78, .list false [.sc (.int .i64 0)]]
noncomputable def X7s : AV := .list true [.agg [.sc (.int .i64 1), .list false []]]
noncomputable def Xc1 : List AV := [v78, .sc (.int .i64 1)]
noncomputable def Xau : AV := v80
noncomputable def Xmm : List AV := [.sc (.int .i64 9)]
noncomputable def Xjz : AV := v80
noncomputable def Xc0 : List AV := [v79]
noncomputable def Xat : AV := .sc (.int .i64 0)
noncomputable def X91 : List AV := [v79, .list false [.sc (.int .i64 2)]]
noncomputable def X7r : AV := .list true [.agg [.sc (.int .i64 1), .list false []]]
noncomputable def X90 : List AV := [v79, .list false []]
noncomputable def X7q : AV := .list false []
noncomputable def X8z : List AV := [v79, .list false [.sc (.int .i64 1)]]
noncomputable def X7p : AV := v77
noncomputable def X8y : List AV := [v55, v72, .sc (.int .i64 0), v29]
noncomputable def X7o : AV := .tup [v81, .sc (.int .i64 0)]
noncomputable def Xbz : List AV := [v79, .sc (.int .i64 2), .sc (.int .i64 0), .sc (.int .i64 0)]
noncomputable def Xas : AV := .tup [v82, .sc (.int .i64 0)]
noncomputable def Xml : List AV := [.sc (.int .i64 10)]
noncomputable def Xjy : AV := .tup [v82, .sc (.bool true)]
noncomputable def Xby : List AV := [v82]
noncomputable def Xar : AV := .sc (.int .i64 0)
noncomputable def X8x : List AV := [v82, .list false [.sc (.int .i64 2)]]
noncomputable def X7n : AV := .list true [.agg [.sc (.int .i64 1), .list false []]]
noncomputable def X8w : List AV := [v82, .list false []]
noncomputable def X7m : AV := .list false []
noncomputable def X8v : List AV := [v82, .list false [.sc (.int .i64 1)]]
noncomputable def X7l : AV := .list true [.agg [.sc (.int .i64 1), .list false []]]
noncomputable def Xbx : List AV := [v82, .sc (.int .i64 2)]
noncomputable def Xaq : AV := v86
noncomputable def Xmk : List AV := [.sc (.int .i64 11)]
noncomputable def Xjx : AV := v86
noncomputable def Xbw : List AV := [v85]
noncomputable def Xap : AV := .sc (.int .i64 0)
noncomputable def X8u : List AV := [v85, .list false [.sc (.int .i64 2)]]
noncomputable def X7k : AV := .list true [v84]
noncomputable def X8t : List AV := [v85, .list false []]
noncomputable def X7j : AV := .list false []
noncomputable def Xbv : List AV := [v85, .sc (.int .i64 3), .sc (.int .i64 0), .sc (.int .i64 0)]
noncomputable def Xao : AV := .tup [v87, .sc (.int .i64 0)]
noncomputable def Xmj : List AV := [.sc (.int .i64 12)]
noncomputable def Xjw : AV := .tup [v87, .sc (.bool true)]
noncomputable def Xbu : List AV := [v87]
noncomputable def Xan : AV := .sc (.int .i64 0)
noncomputable def Xpn : List AV := []
noncomputable def Xoz : AV := .sc (.bool true)
noncomputable def Xws : List AV := []
noncomputable def Xu4 : AV := .sc (.bool true)
theorem fn43 : X5g Tryz.prog 43 Tryz.f43 (X5 Tryz.f43) := ⟨Tryz.func43, by kernel_rfl, rfl⟩
theorem Xh2 : Xe Tryz.prog 43 [.list false []] .nils := by
  refine Xe.sym X1 fn43 (nt := 8) rfl rfl ?_ okM
  refine X3r [] ?_
  refine Xd.eqNil X1 (may := true) rfl rfl rfl rfl rfl rfl trivial (by simp [X29]) fun b2 qb2 => ?_
  cases b2
  · exact X4p [.br false, .ne false] (k := fi)
  · exact X4p [.br true] (k := fi)
theorem fn62 : X5g Tryz.prog 62 Tryz.f62 (X5 Tryz.f62) := ⟨Tryz.func62, by kernel_rfl, rfl⟩
theorem Xh1 : Xe Tryz.prog 62 [.list false []] .nils := by
  refine Xe.sym X1 fn62 (nt := 8) rfl rfl ?_ okM
  refine X3r [] ?_
  refine Xd.eqNil X1 (may := true) rfl rfl rfl rfl rfl rfl trivial (by simp [X29]) fun b2 qb2 => ?_
  cases b2
  · exact X4p [.br false, .ne false] (k := fi)
  · exact X4p [.br true] (k := fi)
theorem fn63 : X5g Tryz.prog 63 Tryz.f63 (X5 Tryz.f63) := ⟨Tryz.func63, by kernel_rfl, rfl⟩
theorem Xh0 : Xe Tryz.prog 63 [.list false []] .nils := by
  refine Xe.sym X1 fn63 (nt := 8) rfl rfl ?_ okM
  refine X3r [] ?_
  refine Xd.eqNil X1 (may := true) rfl rfl rfl rfl rfl rfl trivial (by simp [X29]) fun b2 qb2 => ?_
  cases b2
  · exact X4p [.br false, .ne false] (k := fi)
  · exact X4p [.br true] (k := fi)
theorem fn64 : X5g Tryz.prog 64 Tryz.f64 (X5 Tryz.f64) := ⟨Tryz.func64, by kernel_rfl, rfl⟩
theorem Xgz : Xe Tryz.prog 64 [.list false []] .nils := by
  refine Xe.sym X1 fn64 (nt := 8) rfl rfl ?_ okM
  refine X3r [] ?_
  refine Xd.eqNil X1 (may := true) rfl rfl rfl rfl rfl rfl trivial (by simp [X29]) fun b2 qb2 => ?_
  cases b2
  · exact X4p [.br false, .ne false] (k := fi)
  · exact X4p [.br true] (k := fi)
theorem fn65 : X5g Tryz.prog 65 Tryz.f65 (X5 Tryz.f65) := ⟨Tryz.func65, by kernel_rfl, rfl⟩
theorem Xgy : Xe Tryz.prog 65 [.list false []] .nils := by
  refine Xe.sym X1 fn65 (nt := 8) rfl rfl ?_ okM
  refine X3r [] ?_
  refine Xd.eqNil X1 (may := true) rfl rfl rfl rfl rfl rfl trivial (by simp [X29]) fun b2 qb2 => ?_
  cases b2
  · exact X4p [.br false, .ne false] (k := fi)
  · exact X4p [.br true] (k := fi)
theorem fn66 : X5g Tryz.prog 66 Tryz.f66 (X5 Tryz.f66) := ⟨Tryz.func66, by kernel_rfl, rfl⟩
theorem Xgx : Xe Tryz.prog 66 [.list false []] .nils := by
  refine Xe.sym X1 fn66 (nt := 8) rfl rfl ?_ okM
  refine X3r [] ?_
  refine Xd.eqNil X1 (may := true) rfl rfl rfl rfl rfl rfl trivial (by simp [X29]) fun b2 qb2 => ?_
  cases b2
  · exact X4p [.br false, .ne false] (k := fi)
  · exact X4p [.br true] (k := fi)
theorem fn67 : X5g Tryz.prog 67 Tryz.f67 (X5 Tryz.f67) := ⟨Tryz.func67, by kernel_rfl, rfl⟩
theorem Xgw : Xe Tryz.prog 67 [.list false []] .nils := by
  refine Xe.sym X1 fn67 (nt := 8) rfl rfl ?_ okM
  refine X3r [] ?_
  refine Xd.eqNil X1 (may := true) rfl rfl rfl rfl rfl rfl trivial (by simp [X29]) fun b2 qb2 => ?_
  cases b2
  · exact X4p [.br false, .ne false] (k := fi)
  · exact X4p [.br true] (k := fi)
theorem fn68 : X5g Tryz.prog 68 Tryz.f68 (X5 Tryz.f68) := ⟨Tryz.func68, by kernel_rfl, rfl⟩
theorem Xgv : Xe Tryz.prog 68 [.list false []] .nils := by
  refine Xe.sym X1 fn68 (nt := 8) rfl rfl ?_ okM
  refine X3r [] ?_
  refine Xd.eqNil X1 (may := true) rfl rfl rfl rfl rfl rfl trivial (by simp [X29]) fun b2 qb2 => ?_
  cases b2
  · exact X4p [.br false, .ne false] (k := fi)
  · exact X4p [.br true] (k := fi)
theorem Xkd (z : Int) : ∀ (ks : List Int), X3e (.int .i64 z) (.bool true) (ks.map X75) = (Xaa ks z).map X75 := by
  intro ks
  unfold Xaa
  induction ks with
  | nil => simp [X3e, X75]
  | cons a r ih =>
    simp only [List.map_cons, X75, X3e]
    by_cases h : a = z
    · subst h; simp [X75]
    · have h1 : ¬ (Value.int .i64 a = Value.int .i64 z) := by simpa using h
      rw [if_neg h1]
      have ih' : X3e (.int .i64 z) (.bool true) (r.map X75) = (if z ∈ r then r else r ++ [z]).map X75 := ih
      rw [ih']
      have h2 : ¬ z = a := fun e => h e.symm
      by_cases hz : z ∈ r <;> simp [hz, h2, X75]
theorem wkA {P : Prop} (h : P := by
  first
    | exact trivial
    | rfl
    | exact .sc
    | exact .list
    | exact .nils
    | assumption
    | (refine congrArg (fun z => AV.sc (Value.int IntKind.i64 z)) ?_; first | rfl | omega | assumption | (simp; done) | (simp; omega))
    | (simp [AV.ren, *]; done)) : P := h
theorem Xz5 : X5g Tryz.prog 149 Tryz.f149 (X5 Tryz.f149) := ⟨Tryz.func149, by kernel_rfl, rfl⟩
theorem X35 {Q : X9 -> St -> Mu -> Prop} {μ : Mu} (b : Nat) (l : List Int) (hl : List.length l <= 140737488355328) : ∀ (xs : List Int) (k : Nat) (hx : l.drop k = xs) (ks : List Int)
    (C : Xd Tryz.prog 18 0 Q (.exit (.exit 0)) [] ⟨fr [(3, .sc (.map (some b)))], hp [], 0⟩ ((b, (X53 ks xs).map X75) :: μ)),
    Xd Tryz.prog 18 0 Q (.loop (X73 0 (X5 Tryz.f149))) [] ⟨fr [(3, .sc (.map (some b))), (7, AV.list false (List.map (aI .i64) l)), (8, aI .i64 (List.length l : Int)), (9, aI .i64 (k : Int))], hp [], 0⟩ ((b, ks.map X75) :: μ) := by
  intro xs
  induction xs with
  | nil =>
    intro k hx ks C
    have hk := X33 hx
    have hc : decide ((k : Int) < (List.length l : Int)) = false := decide_eq_false (by omega)
    refine Xd.round ?_
    refine X00 tmD 4000 [.br false] rfl (by repeat' first | refine And.intro ?_ ?_ | exact hc | exact X3b) ?_
    exact Xd.weakTo [] C rfl (by repeat' first | refine And.intro ?_ ?_ | exact wkA) trivial
  | cons x xs ih =>
    intro k hx ks C
    obtain ⟨hk, hg, hx1⟩ := X22 hx
    have hc : decide ((k : Int) < (List.length l : Int)) = true := decide_eq_true (by omega)
    refine Xd.round ?_
    refine X00 tmD 4000 [.br true, .el (aI .i64 x)] rfl (by repeat' first | refine And.intro ?_ ?_ | exact hc | exact ixm hg | exact X3b) ?_
    refine Xd.mapUpd (d := .int .i64) X1 rfl rfl rfl rfl rfl Tryz.underlying2 rfl rfl rfl trivial trivial trivial rfl (by
      intro p hp; obtain ⟨z, _, rfl⟩ := List.mem_map.1 hp; rfl) ?_
    rw [Xkd]
    refine X00 tmD 4000 [] rfl (by repeat' first | refine And.intro ?_ ?_ | exact X3b) ?_
    exact Xd.weakTo [] (ih (k + 1) hx1 (Xaa ks x) C) rfl (by repeat' first | refine And.intro ?_ ?_ | exact wkA) trivial
theorem X34 (a0 : (List Int)) (r : Int) (h : X0v a0 = some r) : Xe Tryz.prog 149 [(AV.list false (List.map (aI .i64) a0))] (aI .i64 r) := by
  refine Xe.sym X1 Xz5 (nt := 18) rfl rfl ?_ (X0e .list X2m)
  unfold X0v at h
  refine X7b h ?_
  clear h; intro u h1 h
  have q1 := X30 h1
  obtain rfl := Option.some.inj h
  refine X00 tmD 4000 [] rfl (by repeat' first | refine And.intro ?_ ?_ | exact X3b) ?_
  refine Xd.mapNew rfl rfl rfl fun b => ?_
  refine X00 tmD 4000 [] rfl (by repeat' first | refine And.intro ?_ ?_ | exact X3b) ?_
  refine Xd.weakTo [] (Xd.cut (X35 b a0 q1 a0 0 (by simp) [] ?_)) rfl (by repeat' first | refine And.intro ?_ ?_ | exact wkA) trivial
  refine Xd.glue ?_
  refine X00 tmD 4000 [] rfl (by repeat' first | refine And.intro ?_ ?_ | exact X3b) ?_
  refine Xd.mapLen X1 rfl rfl rfl rfl rfl rfl trivial ?_
  rw [List.length_map]
  refine X00 tmD 4000 [] rfl (by repeat' first | refine And.intro ?_ ?_ | exact X3b) ?_
  refine X5f rfl ?_
  exact .sc
theorem Xgr (l : List Int) (h : List.length l <= 1000) : Xe Tryz.prog 149 [.list false (l.map (aI .i64))] (aI .i64 ((X53 [] l).length : Int)) := X34 l _ (by unfold X0v X4u; rw [if_pos (by omega)]; rfl)
theorem m0 : Xe Tryz.prog 18 Xss Xqv := X0q [⟨0, ⟨0, 5⟩, ⟨1, 0⟩⟩] [⟨0, ⟨0, 5⟩, ⟨1, 0⟩⟩, ⟨0, ⟨0, 5⟩, ⟨1, 0⟩⟩] rfl rfl (by kernel_rfl)
theorem m1 : Xe Tryz.prog 19 Xsr Xqu := X0z [] [] rfl rfl (by kernel_rfl)
theorem m2 : Xe Tryz.prog 18 Xsq Xqt := X0q [⟨0, ⟨0, 5⟩, ⟨1, 0⟩⟩, ⟨0, ⟨0, 5⟩, ⟨1, 0⟩⟩] [⟨0, ⟨0, 5⟩, ⟨1, 0⟩⟩] rfl rfl (by kernel_rfl)
theorem m3 : Xe Tryz.prog 18 Xsp Xqs := X0q [] [⟨0, ⟨0, 5⟩, ⟨1, 0⟩⟩] rfl rfl (by kernel_rfl)
theorem m4 : Xe Tryz.prog 19 Xso Xqr := X0z [⟨1, 0, 0⟩, ⟨2, 0, 0⟩] [] rfl rfl (by kernel_rfl)
theorem m5 : Xe Tryz.prog 18 Xsn Xqq := X0q [⟨0, ⟨0, 5⟩, ⟨1, 0⟩⟩] [] rfl rfl (by kernel_rfl)
theorem m6 : Xe Tryz.prog 18 Xsm Xqp := X0q [] [] rfl rfl (by kernel_rfl)
theorem m7 : Xe Tryz.prog 19 Xsl Xqo := X0z [⟨1, 0, 0⟩, ⟨2, 0, 0⟩] [⟨2, 0, 0⟩, ⟨1, 0, 0⟩] rfl rfl (by kernel_rfl)
theorem m8 : Xe Tryz.prog 19 Xsk Xqn := X0z [⟨2, 0, 0⟩, ⟨1, 0, 0⟩] [⟨1, 0, 0⟩, ⟨2, 0, 0⟩] rfl rfl (by kernel_rfl)
theorem m9 : Xe Tryz.prog 18 Xsj Xqm := X0q (List.replicate 4000 ⟨0, ⟨0, 0⟩, ⟨0, 0⟩⟩) (List.replicate 4000 ⟨0, ⟨0, 0⟩, ⟨0, 0⟩⟩) List.map_replicate.symm List.map_replicate.symm (by kernel_rfl)
theorem m15 : Xe Tryz.prog 149 Xdn Xd1 := Xgr [0] (by simp)
theorem m16 : Xe Tryz.prog 43 Xdm Xd0 := Xh2
theorem m18 : Xe Tryz.prog 74 Xdl Xcz := X44.ok ⟨[⟨(1), (0)⟩, ⟨(2), (0)⟩, ⟨(4), (0)⟩, ⟨(6), (0)⟩, ⟨(7), (0)⟩], [⟨(0), (0), (1), (0), (8)⟩, ⟨(1), (0), (2), (0), (8)⟩, ⟨(1), (1), (4), (0), (8)⟩, ⟨(2), (0), (3), (0), (8)⟩]⟩ [0, 1, 2, 3, 4] (by kernel_rfl)
theorem m33 : Xe Tryz.prog 62 Xdk Xcy := Xh1
theorem m34 : Xe Tryz.prog 63 Xdj Xcx := Xh0
theorem m35 : Xe Tryz.prog 64 Xdi Xcw := Xgz
theorem m36 : Xe Tryz.prog 66 Xdh Xcv := Xgx
theorem m37 : Xe Tryz.prog 67 Xdg Xcu := Xgw
theorem m38 : Xe Tryz.prog 65 Xdf Xct := Xgy
theorem m39 : Xe Tryz.prog 68 Xde Xcs := Xgv
theorem m79 : Xe Tryz.prog 74 Xdd Xcr := X44.ok ⟨[⟨(1), (0)⟩, ⟨(2), (0)⟩, ⟨(4), (0)⟩, ⟨(6), (0)⟩], [⟨(0), (0), (1), (0), (1)⟩, ⟨(1), (0), (2), (0), (1)⟩, ⟨(2), (0), (3), (0), (1)⟩]⟩ [0, 1, 2, 3] (by kernel_rfl)
noncomputable def M0 : Tab Xce := (.node 65 [(Xdf, Xct)] (.node 62 [(Xdk, Xcy)] (.node 19 [(Xsr, Xqu), (Xso, Xqr), (Xsl, Xqo), (Xsk, Xqn)] (.node 18 [(Xss, Xqv), (Xsq, Xqt), (Xsp, Xqs), (Xsn, Xqq), (Xsm, Xqp), (Xsj, Xqm)] .leaf .leaf) (.node 43 [(Xdm, Xd0)] .leaf .leaf)) (.node 64 [(Xdi, Xcw)] (.node 63 [(Xdj, Xcx)] .leaf .leaf) .leaf)) (.node 68 [(Xde, Xcs)] (.node 67 [(Xdg, Xcu)] (.node 66 [(Xdh, Xcv)] .leaf .leaf) .leaf) (.node 149 [(Xdn, Xd1)] (.node 74 [(Xdl, Xcz), (Xdd, Xcr)] .leaf .leaf) .leaf)))
theorem Xk : X48 Tryz.prog M0.find := X1w ⟨⟨m38, trivial⟩, ⟨⟨m33, trivial⟩, ⟨⟨m1, m4, m7, m8, trivial⟩, ⟨⟨m0, m2, m3, m5, m6, m9, trivial⟩, trivial, trivial⟩, ⟨⟨m16, trivial⟩, trivial, trivial⟩⟩, ⟨⟨m35, trivial⟩, ⟨⟨m34, trivial⟩, trivial, trivial⟩, trivial⟩⟩, ⟨⟨m39, trivial⟩, ⟨⟨m37, trivial⟩, ⟨⟨m36, trivial⟩, trivial, trivial⟩, trivial⟩, ⟨⟨m15, trivial⟩, ⟨⟨m18, m79, trivial⟩, trivial, trivial⟩, trivial⟩⟩⟩
theorem m10 : Xe Tryz.prog 163 Xik Xgd := X2 X3 Xs X1 X4 Xk (fuel := 3000) (d := 200) (by kernel_rfl)
theorem m11 : Xe Tryz.prog 163 Xij Xgc := X2 X3 Xs X1 X4 Xk (fuel := 3000) (d := 200) (by kernel_rfl)
theorem m12 : Xe Tryz.prog 163 Xii Xgb := X2 X3 Xs X1 X4 Xk (fuel := 3000) (d := 200) (by kernel_rfl)
theorem m17 : Xe Tryz.prog 24 Xih Xga := X2 X3 Xs X1 X4 Xk (fuel := 3000) (d := 200) (by kernel_rfl)
theorem m19 : Xe Tryz.prog 33 Xig Xg9 := X2 X3 Xs X1 X4 Xk (fuel := 3000) (d := 200) (by kernel_rfl)
theorem m20 : Xe Tryz.prog 77 Xif Xg8 := X2 X3 Xs X1 X4 Xk (fuel := 3000) (d := 200) (by kernel_rfl)
theorem m21 : Xe Tryz.prog 78 Xie Xg7 := X2 X3 Xs X1 X4 Xk (fuel := 3000) (d := 200) (by kernel_rfl)
theorem m22 : Xe Tryz.prog 77 Xid Xg6 := X2 X3 Xs X1 X4 Xk (fuel := 3000) (d := 200) (by kernel_rfl)
theorem m23 : Xe Tryz.prog 78 Xic Xg5 := X2 X3 Xs X1 X4 Xk (fuel := 3000) (d := 200) (by kernel_rfl)
theorem m24 : Xe Tryz.prog 77 Xib Xg4 := X2 X3 Xs X1 X4 Xk (fuel := 3000) (d := 200) (by kernel_rfl)
theorem m25 : Xe Tryz.prog 78 Xia Xg3 := X2 X3 Xs X1 X4 Xk (fuel := 3000) (d := 200) (by kernel_rfl)
theorem m26 : Xe Tryz.prog 77 Xi9 Xg2 := X2 X3 Xs X1 X4 Xk (fuel := 3000) (d := 200) (by kernel_rfl)
theorem m27 : Xe Tryz.prog 78 Xi8 Xg1 := X2 X3 Xs X1 X4 Xk (fuel := 3000) (d := 200) (by kernel_rfl)
theorem m28 : Xe Tryz.prog 77 Xi7 Xg0 := X2 X3 Xs X1 X4 Xk (fuel := 3000) (d := 200) (by kernel_rfl)
theorem m29 : Xe Tryz.prog 78 Xi6 Xfz := X2 X3 Xs X1 X4 Xk (fuel := 3000) (d := 200) (by kernel_rfl)
theorem m31 : Xe Tryz.prog 102 Xi5 Xfy := X2 X3 Xs X1 X4 Xk (fuel := 3000) (d := 200) (by kernel_rfl)
theorem m32 : Xe Tryz.prog 102 Xi4 Xfx := X2 X3 Xs X1 X4 Xk (fuel := 3000) (d := 200) (by kernel_rfl)
theorem m40 : Xe Tryz.prog 100 Xi3 Xfw := X2 X3 Xs X1 X4 Xk (fuel := 3000) (d := 200) (by kernel_rfl)
theorem m42 : Xe Tryz.prog 102 Xi2 Xfv := X2 X3 Xs X1 X4 Xk (fuel := 3000) (d := 200) (by kernel_rfl)
theorem m43 : Xe Tryz.prog 102 Xi1 Xfu := X2 X3 Xs X1 X4 Xk (fuel := 3000) (d := 200) (by kernel_rfl)
theorem m46 : Xe Tryz.prog 102 Xi0 Xft := X2 X3 Xs X1 X4 Xk (fuel := 3000) (d := 200) (by kernel_rfl)
theorem m47 : Xe Tryz.prog 102 Xhz Xfs := X2 X3 Xs X1 X4 Xk (fuel := 3000) (d := 200) (by kernel_rfl)
theorem m48 : Xe Tryz.prog 100 Xhy Xfr := X2 X3 Xs X1 X4 Xk (fuel := 3000) (d := 200) (by kernel_rfl)
theorem m50 : Xe Tryz.prog 102 Xhx Xfq := X2 X3 Xs X1 X4 Xk (fuel := 3000) (d := 200) (by kernel_rfl)
theorem m51 : Xe Tryz.prog 102 Xhw Xfp := X2 X3 Xs X1 X4 Xk (fuel := 3000) (d := 200) (by kernel_rfl)
theorem m54 : Xe Tryz.prog 102 Xhv Xfo := X2 X3 Xs X1 X4 Xk (fuel := 3000) (d := 200) (by kernel_rfl)
theorem m55 : Xe Tryz.prog 102 Xhu Xfn := X2 X3 Xs X1 X4 Xk (fuel := 3000) (d := 200) (by kernel_rfl)
theorem m58 : Xe Tryz.prog 102 Xht Xfm := X2 X3 Xs X1 X4 Xk (fuel := 3000) (d := 200) (by kernel_rfl)
theorem m59 : Xe Tryz.prog 102 Xhs Xfl := X2 X3 Xs X1 X4 Xk (fuel := 3000) (d := 200) (by kernel_rfl)
theorem m62 : Xe Tryz.prog 102 Xhr Xfk := X2 X3 Xs X1 X4 Xk (fuel := 3000) (d := 200) (by kernel_rfl)
theorem m63 : Xe Tryz.prog 102 Xhq Xfj := X2 X3 Xs X1 X4 Xk (fuel := 3000) (d := 200) (by kernel_rfl)
theorem m67 : Xe Tryz.prog 102 Xhp Xfi := X2 X3 Xs X1 X4 Xk (fuel := 3000) (d := 200) (by kernel_rfl)
theorem m68 : Xe Tryz.prog 102 Xho Xfh := X2 X3 Xs X1 X4 Xk (fuel := 3000) (d := 200) (by kernel_rfl)
theorem m71 : Xe Tryz.prog 102 Xhn Xfg := X2 X3 Xs X1 X4 Xk (fuel := 3000) (d := 200) (by kernel_rfl)
theorem m72 : Xe Tryz.prog 102 Xhm Xff := X2 X3 Xs X1 X4 Xk (fuel := 3000) (d := 200) (by kernel_rfl)
theorem m78 : Xe Tryz.prog 24 Xhl Xfe := X2 X3 Xs X1 X4 Xk (fuel := 3000) (d := 200) (by kernel_rfl)
theorem m80 : Xe Tryz.prog 77 Xhk Xfd := X2 X3 Xs X1 X4 Xk (fuel := 3000) (d := 200) (by kernel_rfl)
theorem m81 : Xe Tryz.prog 78 Xhj Xfc := X2 X3 Xs X1 X4 Xk (fuel := 3000) (d := 200) (by kernel_rfl)
theorem m82 : Xe Tryz.prog 77 Xhi Xfb := X2 X3 Xs X1 X4 Xk (fuel := 3000) (d := 200) (by kernel_rfl)
theorem m83 : Xe Tryz.prog 78 Xhh Xfa := X2 X3 Xs X1 X4 Xk (fuel := 3000) (d := 200) (by kernel_rfl)
theorem m84 : Xe Tryz.prog 77 Xhg Xf9 := X2 X3 Xs X1 X4 Xk (fuel := 3000) (d := 200) (by kernel_rfl)
theorem m85 : Xe Tryz.prog 78 Xhf Xf8 := X2 X3 Xs X1 X4 Xk (fuel := 3000) (d := 200) (by kernel_rfl)
theorem m86 : Xe Tryz.prog 77 Xhe Xf7 := X2 X3 Xs X1 X4 Xk (fuel := 3000) (d := 200) (by kernel_rfl)
theorem m87 : Xe Tryz.prog 78 Xhd Xf6 := X2 X3 Xs X1 X4 Xk (fuel := 3000) (d := 200) (by kernel_rfl)
theorem m89 : Xe Tryz.prog 102 Xhc Xf5 := X2 X3 Xs X1 X4 Xk (fuel := 3000) (d := 200) (by kernel_rfl)
theorem m90 : Xe Tryz.prog 102 Xhb Xf4 := X2 X3 Xs X1 X4 Xk (fuel := 3000) (d := 200) (by kernel_rfl)
theorem m91 : Xe Tryz.prog 102 Xha Xf3 := X2 X3 Xs X1 X4 Xk (fuel := 3000) (d := 200) (by kernel_rfl)
theorem m92 : Xe Tryz.prog 102 Xh9 Xf2 := X2 X3 Xs X1 X4 Xk (fuel := 3000) (d := 200) (by kernel_rfl)
theorem m93 : Xe Tryz.prog 100 Xh8 Xf1 := X2 X3 Xs X1 X4 Xk (fuel := 3000) (d := 200) (by kernel_rfl)
theorem m95 : Xe Tryz.prog 102 Xh7 Xf0 := X2 X3 Xs X1 X4 Xk (fuel := 3000) (d := 200) (by kernel_rfl)
theorem m96 : Xe Tryz.prog 102 Xh6 Xez := X2 X3 Xs X1 X4 Xk (fuel := 3000) (d := 200) (by kernel_rfl)
theorem m97 : Xe Tryz.prog 102 Xh5 Xey := X2 X3 Xs X1 X4 Xk (fuel := 3000) (d := 200) (by kernel_rfl)
theorem m98 : Xe Tryz.prog 102 Xh4 Xex := X2 X3 Xs X1 X4 Xk (fuel := 3000) (d := 200) (by kernel_rfl)
theorem Xvp : Xe Tryz.prog 102 X9t X8j := X2 X3 Xs X1 X4 Xk (fuel := 3000) (d := 200) (by kernel_rfl)
theorem Xvo : Xe Tryz.prog 102 X9s X8i := X2 X3 Xs X1 X4 Xk (fuel := 3000) (d := 200) (by kernel_rfl)
theorem Xvn : Xe Tryz.prog 102 X9r X8h := X2 X3 Xs X1 X4 Xk (fuel := 3000) (d := 200) (by kernel_rfl)
theorem Xvm : Xe Tryz.prog 102 X9q X8g := X2 X3 Xs X1 X4 Xk (fuel := 3000) (d := 200) (by kernel_rfl)
theorem Xvl : Xe Tryz.prog 102 X9p X8f := X2 X3 Xs X1 X4 Xk (fuel := 3000) (d := 200) (by kernel_rfl)
theorem Xvk : Xe Tryz.prog 102 X9o X8e := X2 X3 Xs X1 X4 Xk (fuel := 3000) (d := 200) (by kernel_rfl)
theorem Xvj : Xe Tryz.prog 102 X9n X8d := X2 X3 Xs X1 X4 Xk (fuel := 3000) (d := 200) (by kernel_rfl)
theorem Xvi : Xe Tryz.prog 102 X9m X8c := X2 X3 Xs X1 X4 Xk (fuel := 3000) (d := 200) (by kernel_rfl)
theorem Xvh : Xe Tryz.prog 102 X9l X8b := X2 X3 Xs X1 X4 Xk (fuel := 3000) (d := 200) (by kernel_rfl)
theorem Xvg : Xe Tryz.prog 102 X9k X8a := X2 X3 Xs X1 X4 Xk (fuel := 3000) (d := 200) (by kernel_rfl)
theorem Xvf : Xe Tryz.prog 102 X9j X89 := X2 X3 Xs X1 X4 Xk (fuel := 3000) (d := 200) (by kernel_rfl)
theorem Xve : Xe Tryz.prog 102 X9i X88 := X2 X3 Xs X1 X4 Xk (fuel := 3000) (d := 200) (by kernel_rfl)
theorem Xvd : Xe Tryz.prog 102 X9h X87 := X2 X3 Xs X1 X4 Xk (fuel := 3000) (d := 200) (by kernel_rfl)
theorem Xvc : Xe Tryz.prog 102 X9g X86 := X2 X3 Xs X1 X4 Xk (fuel := 3000) (d := 200) (by kernel_rfl)
theorem Xvb : Xe Tryz.prog 102 X9f X85 := X2 X3 Xs X1 X4 Xk (fuel := 3000) (d := 200) (by kernel_rfl)
theorem Xva : Xe Tryz.prog 100 X9e X84 := X2 X3 Xs X1 X4 Xk (fuel := 3000) (d := 200) (by kernel_rfl)
theorem Xv9 : Xe Tryz.prog 102 X9d X83 := X2 X3 Xs X1 X4 Xk (fuel := 3000) (d := 200) (by kernel_rfl)
theorem Xv8 : Xe Tryz.prog 102 X9c X82 := X2 X3 Xs X1 X4 Xk (fuel := 3000) (d := 200) (by kernel_rfl)
theorem Xv7 : Xe Tryz.prog 102 X9b X81 := X2 X3 Xs X1 X4 Xk (fuel := 3000) (d := 200) (by kernel_rfl)
theorem Xv6 : Xe Tryz.prog 102 X9a X80 := X2 X3 Xs X1 X4 Xk (fuel := 3000) (d := 200) (by kernel_rfl)
theorem Xv5 : Xe Tryz.prog 102 X99 X7z := X2 X3 Xs X1 X4 Xk (fuel := 3000) (d := 200) (by kernel_rfl)
theorem Xv4 : Xe Tryz.prog 102 X98 X7y := X2 X3 Xs X1 X4 Xk (fuel := 3000) (d := 200) (by kernel_rfl)
theorem Xv3 : Xe Tryz.prog 102 X97 X7x := X2 X3 Xs X1 X4 Xk (fuel := 3000) (d := 200) (by kernel_rfl)
theorem Xv2 : Xe Tryz.prog 102 X96 X7w := X2 X3 Xs X1 X4 Xk (fuel := 3000) (d := 200) (by kernel_rfl)
theorem Xv1 : Xe Tryz.prog 102 X95 X7v := X2 X3 Xs X1 X4 Xk (fuel := 3000) (d := 200) (by kernel_rfl)
theorem Xv0 : Xe Tryz.prog 102 X94 X7u := X2 X3 Xs X1 X4 Xk (fuel := 3000) (d := 200) (by kernel_rfl)
theorem Xuz : Xe Tryz.prog 102 X93 X7t := X2 X3 Xs X1 X4 Xk (fuel := 3000) (d := 200) (by kernel_rfl)
theorem Xuy : Xe Tryz.prog 102 X92 X7s := X2 X3 Xs X1 X4 Xk (fuel := 3000) (d := 200) (by kernel_rfl)
theorem Xux : Xe Tryz.prog 102 X91 X7r := X2 X3 Xs X1 X4 Xk (fuel := 3000) (d := 200) (by kernel_rfl)
theorem Xuw : Xe Tryz.prog 102 X90 X7q := X2 X3 Xs X1 X4 Xk (fuel := 3000) (d := 200) (by kernel_rfl)
theorem Xuv : Xe Tryz.prog 102 X8z X7p := X2 X3 Xs X1 X4 Xk (fuel := 3000) (d := 200) (by kernel_rfl)
theorem Xuu : Xe Tryz.prog 176 X8y X7o := X2 X3 Xs X1 X4 Xk (fuel := 3000) (d := 200) (by kernel_rfl)
theorem Xut : Xe Tryz.prog 102 X8x X7n := X2 X3 Xs X1 X4 Xk (fuel := 3000) (d := 200) (by kernel_rfl)
theorem Xus : Xe Tryz.prog 102 X8w X7m := X2 X3 Xs X1 X4 Xk (fuel := 3000) (d := 200) (by kernel_rfl)
theorem Xur : Xe Tryz.prog 102 X8v X7l := X2 X3 Xs X1 X4 Xk (fuel := 3000) (d := 200) (by kernel_rfl)
theorem Xuq : Xe Tryz.prog 102 X8u X7k := X2 X3 Xs X1 X4 Xk (fuel := 3000) (d := 200) (by kernel_rfl)
theorem Xup : Xe Tryz.prog 102 X8t X7j := X2 X3 Xs X1 X4 Xk (fuel := 3000) (d := 200) (by kernel_rfl)
noncomputable def M1 : Tab Xce := (.node 67 [(Xdg, Xcu)] (.node 62 [(Xdk, Xcy)] (.node 24 [(Xih, Xga), (Xhl, Xfe)] (.node 19 [(Xsr, Xqu), (Xso, Xqr), (Xsl, Xqo), (Xsk, Xqn)] (.node 18 [(Xss, Xqv), (Xsq, Xqt), (Xsp, Xqs), (Xsn, Xqq), (Xsm, Xqp), (Xsj, Xqm)] .leaf .leaf) .leaf) (.node 43 [(Xdm, Xd0)] (.node 33 [(Xig, Xg9)] .leaf .leaf) .leaf)) (.node 65 [(Xdf, Xct)] (.node 64 [(Xdi, Xcw)] (.node 63 [(Xdj, Xcx)] .leaf .leaf) .leaf) (.node 66 [(Xdh, Xcv)] .leaf .leaf))) (.node 100 [(Xi3, Xfw), (Xhy, Xfr), (Xh8, Xf1), (X9e, X84)] (.node 77 [(Xif, Xg8), (Xid, Xg6), (Xib, Xg4), (Xi9, Xg2), (Xi7, Xg0), (Xhk, Xfd), (Xhi, Xfb), (Xhg, Xf9), (Xhe, Xf7)] (.node 74 [(Xdl, Xcz), (Xdd, Xcr)] (.node 68 [(Xde, Xcs)] .leaf .leaf) .leaf) (.node 78 [(Xie, Xg7), (Xic, Xg5), (Xia, Xg3), (Xi8, Xg1), (Xi6, Xfz), (Xhj, Xfc), (Xhh, Xfa), (Xhf, Xf8), (Xhd, Xf6)] .leaf .leaf)) (.node 163 [(Xik, Xgd), (Xij, Xgc), (Xii, Xgb)] (.node 149 [(Xdn, Xd1)] (.node 102 [(Xi5, Xfy), (Xi4, Xfx), (Xi2, Xfv), (Xi1, Xfu), (Xi0, Xft), (Xhz, Xfs), (Xhx, Xfq), (Xhw, Xfp), (Xhv, Xfo), (Xhu, Xfn), (Xht, Xfm), (Xhs, Xfl), (Xhr, Xfk), (Xhq, Xfj), (Xhp, Xfi), (Xho, Xfh), (Xhn, Xfg), (Xhm, Xff), (Xhc, Xf5), (Xhb, Xf4), (Xha, Xf3), (Xh9, Xf2), (Xh7, Xf0), (Xh6, Xez), (Xh5, Xey), (Xh4, Xex), (X9t, X8j), (X9s, X8i), (X9r, X8h), (X9q, X8g), (X9p, X8f), (X9o, X8e), (X9n, X8d), (X9m, X8c), (X9l, X8b), (X9k, X8a), (X9j, X89), (X9i, X88), (X9h, X87), (X9g, X86), (X9f, X85), (X9d, X83), (X9c, X82), (X9b, X81), (X9a, X80), (X99, X7z), (X98, X7y), (X97, X7x), (X96, X7w), (X95, X7v), (X94, X7u), (X93, X7t), (X92, X7s), (X91, X7r), (X90, X7q), (X8z, X7p), (X8x, X7n), (X8w, X7m), (X8v, X7l), (X8u, X7k), (X8t, X7j)] .leaf .leaf) .leaf) (.node 176 [(X8y, X7o)] .leaf .leaf))))
theorem X0c : X48 Tryz.prog M1.find := X1w ⟨⟨m37, trivial⟩, ⟨⟨m33, trivial⟩, ⟨⟨m17, m78, trivial⟩, ⟨⟨m1, m4, m7, m8, trivial⟩, ⟨⟨m0, m2, m3, m5, m6, m9, trivial⟩, trivial, trivial⟩, trivial⟩, ⟨⟨m16, trivial⟩, ⟨⟨m19, trivial⟩, trivial, trivial⟩, trivial⟩⟩, ⟨⟨m38, trivial⟩, ⟨⟨m35, trivial⟩, ⟨⟨m34, trivial⟩, trivial, trivial⟩, trivial⟩, ⟨⟨m36, trivial⟩, trivial, trivial⟩⟩⟩, ⟨⟨m40, m48, m93, Xva, trivial⟩, ⟨⟨m20, m22, m24, m26, m28, m80, m82, m84, m86, trivial⟩, ⟨⟨m18, m79, trivial⟩, ⟨⟨m39, trivial⟩, trivial, trivial⟩, trivial⟩, ⟨⟨m21, m23, m25, m27, m29, m81, m83, m85, m87, trivial⟩, trivial, trivial⟩⟩, ⟨⟨m10, m11, m12, trivial⟩, ⟨⟨m15, trivial⟩, ⟨⟨m31, m32, m42, m43, m46, m47, m50, m51, m54, m55, m58, m59, m62, m63, m67, m68, m71, m72, m89, m90, m91, m92, m95, m96, m97, m98, Xvp, Xvo, Xvn, Xvm, Xvl, Xvk, Xvj, Xvi, Xvh, Xvg, Xvf, Xve, Xvd, Xvc, Xvb, Xv9, Xv8, Xv7, Xv6, Xv5, Xv4, Xv3, Xv2, Xv1, Xv0, Xuz, Xuy, Xux, Xuw, Xuv, Xut, Xus, Xur, Xuq, Xup, trivial⟩, trivial, trivial⟩, trivial⟩, ⟨⟨Xuu, trivial⟩, trivial, trivial⟩⟩⟩⟩
theorem m13 : Xe Tryz.prog 86 Xmn Xk0 := X2 X3 Xs X1 X4 X0c (fuel := 3000) (d := 200) (by kernel_rfl)
theorem m30 : Xe Tryz.prog 20 Xmi Xjv := X2 X3 Xs X1 X4 X0c (fuel := 3000) (d := 200) (by kernel_rfl)
theorem m41 : Xe Tryz.prog 20 Xmh Xju := X2 X3 Xs X1 X4 X0c (fuel := 3000) (d := 200) (by kernel_rfl)
theorem m44 : Xe Tryz.prog 100 Xmg Xjt := X2 X3 Xs X1 X4 X0c (fuel := 3000) (d := 200) (by kernel_rfl)
theorem m45 : Xe Tryz.prog 20 Xmf Xjs := X2 X3 Xs X1 X4 X0c (fuel := 3000) (d := 200) (by kernel_rfl)
theorem m49 : Xe Tryz.prog 20 Xme Xjr := X2 X3 Xs X1 X4 X0c (fuel := 3000) (d := 200) (by kernel_rfl)
theorem m52 : Xe Tryz.prog 100 Xmd Xjq := X2 X3 Xs X1 X4 X0c (fuel := 3000) (d := 200) (by kernel_rfl)
theorem m53 : Xe Tryz.prog 20 Xmc Xjp := X2 X3 Xs X1 X4 X0c (fuel := 3000) (d := 200) (by kernel_rfl)
theorem m56 : Xe Tryz.prog 103 Xmb Xjo := X2 X3 Xs X1 X4 X0c (fuel := 3000) (d := 200) (by kernel_rfl)
theorem m57 : Xe Tryz.prog 20 Xma Xjn := X2 X3 Xs X1 X4 X0c (fuel := 3000) (d := 200) (by kernel_rfl)
theorem m60 : Xe Tryz.prog 100 Xm9 Xjm := X2 X3 Xs X1 X4 X0c (fuel := 3000) (d := 200) (by kernel_rfl)
theorem m61 : Xe Tryz.prog 20 Xm8 Xjl := X2 X3 Xs X1 X4 X0c (fuel := 3000) (d := 200) (by kernel_rfl)
theorem m64 : Xe Tryz.prog 103 Xm7 Xjk := X2 X3 Xs X1 X4 X0c (fuel := 3000) (d := 200) (by kernel_rfl)
theorem m66 : Xe Tryz.prog 20 Xm6 Xjj := X2 X3 Xs X1 X4 X0c (fuel := 3000) (d := 200) (by kernel_rfl)
theorem m69 : Xe Tryz.prog 100 Xm5 Xji := X2 X3 Xs X1 X4 X0c (fuel := 3000) (d := 200) (by kernel_rfl)
theorem m70 : Xe Tryz.prog 20 Xm4 Xjh := X2 X3 Xs X1 X4 X0c (fuel := 3000) (d := 200) (by kernel_rfl)
theorem m73 : Xe Tryz.prog 103 Xm3 Xjg := X2 X3 Xs X1 X4 X0c (fuel := 3000) (d := 200) (by kernel_rfl)
theorem m75 : Xe Tryz.prog 20 Xm2 Xjf := X2 X3 Xs X1 X4 X0c (fuel := 3000) (d := 200) (by kernel_rfl)
theorem m76 : Xe Tryz.prog 86 Xm1 Xje := X2 X3 Xs X1 X4 X0c (fuel := 3000) (d := 200) (by kernel_rfl)
theorem m88 : Xe Tryz.prog 20 Xm0 Xjd := X2 X3 Xs X1 X4 X0c (fuel := 3000) (d := 200) (by kernel_rfl)
theorem m94 : Xe Tryz.prog 20 Xlz Xjc := X2 X3 Xs X1 X4 X0c (fuel := 3000) (d := 200) (by kernel_rfl)
theorem m99 : Xe Tryz.prog 100 Xly Xjb := X2 X3 Xs X1 X4 X0c (fuel := 3000) (d := 200) (by kernel_rfl)
theorem Xxs : Xe Tryz.prog 20 Xcd Xb6 := X2 X3 Xs X1 X4 X0c (fuel := 3000) (d := 200) (by kernel_rfl)
theorem Xxr : Xe Tryz.prog 103 Xcc Xb5 := X2 X3 Xs X1 X4 X0c (fuel := 3000) (d := 200) (by kernel_rfl)
theorem Xxq : Xe Tryz.prog 20 Xcb Xb4 := X2 X3 Xs X1 X4 X0c (fuel := 3000) (d := 200) (by kernel_rfl)
theorem Xxp : Xe Tryz.prog 100 Xca Xb3 := X2 X3 Xs X1 X4 X0c (fuel := 3000) (d := 200) (by kernel_rfl)
theorem Xxo : Xe Tryz.prog 20 Xc9 Xb2 := X2 X3 Xs X1 X4 X0c (fuel := 3000) (d := 200) (by kernel_rfl)
theorem Xxn : Xe Tryz.prog 103 Xc8 Xb1 := X2 X3 Xs X1 X4 X0c (fuel := 3000) (d := 200) (by kernel_rfl)
theorem Xxm : Xe Tryz.prog 20 Xc7 Xb0 := X2 X3 Xs X1 X4 X0c (fuel := 3000) (d := 200) (by kernel_rfl)
theorem Xxl : Xe Tryz.prog 20 Xc6 Xaz := X2 X3 Xs X1 X4 X0c (fuel := 3000) (d := 200) (by kernel_rfl)
theorem Xxk : Xe Tryz.prog 100 Xc5 Xay := X2 X3 Xs X1 X4 X0c (fuel := 3000) (d := 200) (by kernel_rfl)
theorem Xxj : Xe Tryz.prog 20 Xc4 Xax := X2 X3 Xs X1 X4 X0c (fuel := 3000) (d := 200) (by kernel_rfl)
theorem Xxi : Xe Tryz.prog 103 Xc3 Xaw := X2 X3 Xs X1 X4 X0c (fuel := 3000) (d := 200) (by kernel_rfl)
theorem Xxh : Xe Tryz.prog 20 Xc2 Xav := X2 X3 Xs X1 X4 X0c (fuel := 3000) (d := 200) (by kernel_rfl)
theorem Xxg : Xe Tryz.prog 100 Xc1 Xau := X2 X3 Xs X1 X4 X0c (fuel := 3000) (d := 200) (by kernel_rfl)
theorem Xxf : Xe Tryz.prog 20 Xc0 Xat := X2 X3 Xs X1 X4 X0c (fuel := 3000) (d := 200) (by kernel_rfl)
theorem Xxe : Xe Tryz.prog 103 Xbz Xas := X2 X3 Xs X1 X4 X0c (fuel := 3000) (d := 200) (by kernel_rfl)
theorem Xxd : Xe Tryz.prog 20 Xby Xar := X2 X3 Xs X1 X4 X0c (fuel := 3000) (d := 200) (by kernel_rfl)
theorem Xxc : Xe Tryz.prog 100 Xbx Xaq := X2 X3 Xs X1 X4 X0c (fuel := 3000) (d := 200) (by kernel_rfl)
theorem Xxb : Xe Tryz.prog 20 Xbw Xap := X2 X3 Xs X1 X4 X0c (fuel := 3000) (d := 200) (by kernel_rfl)
theorem Xxa : Xe Tryz.prog 103 Xbv Xao := X2 X3 Xs X1 X4 X0c (fuel := 3000) (d := 200) (by kernel_rfl)
theorem Xx9 : Xe Tryz.prog 20 Xbu Xan := X2 X3 Xs X1 X4 X0c (fuel := 3000) (d := 200) (by kernel_rfl)
noncomputable def M2 : Tab Xce := (.node 67 [(Xdg, Xcu)] (.node 43 [(Xdm, Xd0)] (.node 20 [(Xmi, Xjv), (Xmh, Xju), (Xmf, Xjs), (Xme, Xjr), (Xmc, Xjp), (Xma, Xjn), (Xm8, Xjl), (Xm6, Xjj), (Xm4, Xjh), (Xm2, Xjf), (Xm0, Xjd), (Xlz, Xjc), (Xcd, Xb6), (Xcb, Xb4), (Xc9, Xb2), (Xc7, Xb0), (Xc6, Xaz), (Xc4, Xax), (Xc2, Xav), (Xc0, Xat), (Xby, Xar), (Xbw, Xap), (Xbu, Xan)] (.node 19 [(Xsr, Xqu), (Xso, Xqr), (Xsl, Xqo), (Xsk, Xqn)] (.node 18 [(Xss, Xqv), (Xsq, Xqt), (Xsp, Xqs), (Xsn, Xqq), (Xsm, Xqp), (Xsj, Xqm)] .leaf .leaf) .leaf) (.node 33 [(Xig, Xg9)] (.node 24 [(Xih, Xga), (Xhl, Xfe)] .leaf .leaf) .leaf)) (.node 64 [(Xdi, Xcw)] (.node 63 [(Xdj, Xcx)] (.node 62 [(Xdk, Xcy)] .leaf .leaf) .leaf) (.node 66 [(Xdh, Xcv)] (.node 65 [(Xdf, Xct)] .leaf .leaf) .leaf))) (.node 100 [(Xi3, Xfw), (Xhy, Xfr), (Xh8, Xf1), (X9e, X84), (Xmg, Xjt), (Xmd, Xjq), (Xm9, Xjm), (Xm5, Xji), (Xly, Xjb), (Xca, Xb3), (Xc5, Xay), (Xc1, Xau), (Xbx, Xaq)] (.node 77 [(Xif, Xg8), (Xid, Xg6), (Xib, Xg4), (Xi9, Xg2), (Xi7, Xg0), (Xhk, Xfd), (Xhi, Xfb), (Xhg, Xf9), (Xhe, Xf7)] (.node 74 [(Xdl, Xcz), (Xdd, Xcr)] (.node 68 [(Xde, Xcs)] .leaf .leaf) .leaf) (.node 86 [(Xmn, Xk0), (Xm1, Xje)] (.node 78 [(Xie, Xg7), (Xic, Xg5), (Xia, Xg3), (Xi8, Xg1), (Xi6, Xfz), (Xhj, Xfc), (Xhh, Xfa), (Xhf, Xf8), (Xhd, Xf6)] .leaf .leaf) .leaf)) (.node 149 [(Xdn, Xd1)] (.node 103 [(Xmb, Xjo), (Xm7, Xjk), (Xm3, Xjg), (Xcc, Xb5), (Xc8, Xb1), (Xc3, Xaw), (Xbz, Xas), (Xbv, Xao)] (.node 102 [(Xi5, Xfy), (Xi4, Xfx), (Xi2, Xfv), (Xi1, Xfu), (Xi0, Xft), (Xhz, Xfs), (Xhx, Xfq), (Xhw, Xfp), (Xhv, Xfo), (Xhu, Xfn), (Xht, Xfm), (Xhs, Xfl), (Xhr, Xfk), (Xhq, Xfj), (Xhp, Xfi), (Xho, Xfh), (Xhn, Xfg), (Xhm, Xff), (Xhc, Xf5), (Xhb, Xf4), (Xha, Xf3), (Xh9, Xf2), (Xh7, Xf0), (Xh6, Xez), (Xh5, Xey), (Xh4, Xex), (X9t, X8j), (X9s, X8i), (X9r, X8h), (X9q, X8g), (X9p, X8f), (X9o, X8e), (X9n, X8d), (X9m, X8c), (X9l, X8b), (X9k, X8a), (X9j, X89), (X9i, X88), (X9h, X87), (X9g, X86), (X9f, X85), (X9d, X83), (X9c, X82), (X9b, X81), (X9a, X80), (X99, X7z), (X98, X7y), (X97, X7x), (X96, X7w), (X95, X7v), (X94, X7u), (X93, X7t), (X92, X7s), (X91, X7r), (X90, X7q), (X8z, X7p), (X8x, X7n), (X8w, X7m), (X8v, X7l), (X8u, X7k), (X8t, X7j)] .leaf .leaf) .leaf) (.node 176 [(X8y, X7o)] (.node 163 [(Xik, Xgd), (Xij, Xgc), (Xii, Xgb)] .leaf .leaf) .leaf))))
theorem Xoo : X48 Tryz.prog M2.find := X1w ⟨⟨m37, trivial⟩, ⟨⟨m16, trivial⟩, ⟨⟨m30, m41, m45, m49, m53, m57, m61, m66, m70, m75, m88, m94, Xxs, Xxq, Xxo, Xxm, Xxl, Xxj, Xxh, Xxf, Xxd, Xxb, Xx9, trivial⟩, ⟨⟨m1, m4, m7, m8, trivial⟩, ⟨⟨m0, m2, m3, m5, m6, m9, trivial⟩, trivial, trivial⟩, trivial⟩, ⟨⟨m19, trivial⟩, ⟨⟨m17, m78, trivial⟩, trivial, trivial⟩, trivial⟩⟩, ⟨⟨m35, trivial⟩, ⟨⟨m34, trivial⟩, ⟨⟨m33, trivial⟩, trivial, trivial⟩, trivial⟩, ⟨⟨m36, trivial⟩, ⟨⟨m38, trivial⟩, trivial, trivial⟩, trivial⟩⟩⟩, ⟨⟨m40, m48, m93, Xva, m44, m52, m60, m69, m99, Xxp, Xxk, Xxg, Xxc, trivial⟩, ⟨⟨m20, m22, m24, m26, m28, m80, m82, m84, m86, trivial⟩, ⟨⟨m18, m79, trivial⟩, ⟨⟨m39, trivial⟩, trivial, trivial⟩, trivial⟩, ⟨⟨m13, m76, trivial⟩, ⟨⟨m21, m23, m25, m27, m29, m81, m83, m85, m87, trivial⟩, trivial, trivial⟩, trivial⟩⟩, ⟨⟨m15, trivial⟩, ⟨⟨m56, m64, m73, Xxr, Xxn, Xxi, Xxe, Xxa, trivial⟩, ⟨⟨m31, m32, m42, m43, m46, m47, m50, m51, m54, m55, m58, m59, m62, m63, m67, m68, m71, m72, m89, m90, m91, m92, m95, m96, m97, m98, Xvp, Xvo, Xvn, Xvm, Xvl, Xvk, Xvj, Xvi, Xvh, Xvg, Xvf, Xve, Xvd, Xvc, Xvb, Xv9, Xv8, Xv7, Xv6, Xv5, Xv4, Xv3, Xv2, Xv1, Xv0, Xuz, Xuy, Xux, Xuw, Xuv, Xut, Xus, Xur, Xuq, Xup, trivial⟩, trivial, trivial⟩, trivial⟩, ⟨⟨Xuu, trivial⟩, ⟨⟨m10, m11, m12, trivial⟩, trivial, trivial⟩, trivial⟩⟩⟩⟩
theorem m14 : Xe Tryz.prog 39 Xoj Xnd := X2 X3 Xs X1 X4 Xoo (fuel := 3000) (d := 200) (by kernel_rfl)
theorem m65 : Xe Tryz.prog 14 Xoi Xnc := X2 X3 Xs X1 X4 Xoo (fuel := 3000) (d := 200) (by kernel_rfl)
theorem m74 : Xe Tryz.prog 14 Xoh Xnb := X2 X3 Xs X1 X4 Xoo (fuel := 3000) (d := 200) (by kernel_rfl)
theorem m77 : Xe Tryz.prog 39 Xog Xna := X2 X3 Xs X1 X4 Xoo (fuel := 3000) (d := 200) (by kernel_rfl)
noncomputable def M3 : Tab Xce := (.node 66 [(Xdh, Xcv)] (.node 39 [(Xoj, Xnd), (Xog, Xna)] (.node 20 [(Xmi, Xjv), (Xmh, Xju), (Xmf, Xjs), (Xme, Xjr), (Xmc, Xjp), (Xma, Xjn), (Xm8, Xjl), (Xm6, Xjj), (Xm4, Xjh), (Xm2, Xjf), (Xm0, Xjd), (Xlz, Xjc), (Xcd, Xb6), (Xcb, Xb4), (Xc9, Xb2), (Xc7, Xb0), (Xc6, Xaz), (Xc4, Xax), (Xc2, Xav), (Xc0, Xat), (Xby, Xar), (Xbw, Xap), (Xbu, Xan)] (.node 18 [(Xss, Xqv), (Xsq, Xqt), (Xsp, Xqs), (Xsn, Xqq), (Xsm, Xqp), (Xsj, Xqm)] (.node 14 [(Xoi, Xnc), (Xoh, Xnb)] .leaf .leaf) (.node 19 [(Xsr, Xqu), (Xso, Xqr), (Xsl, Xqo), (Xsk, Xqn)] .leaf .leaf)) (.node 33 [(Xig, Xg9)] (.node 24 [(Xih, Xga), (Xhl, Xfe)] .leaf .leaf) .leaf)) (.node 63 [(Xdj, Xcx)] (.node 62 [(Xdk, Xcy)] (.node 43 [(Xdm, Xd0)] .leaf .leaf) .leaf) (.node 65 [(Xdf, Xct)] (.node 64 [(Xdi, Xcw)] .leaf .leaf) .leaf))) (.node 100 [(Xi3, Xfw), (Xhy, Xfr), (Xh8, Xf1), (X9e, X84), (Xmg, Xjt), (Xmd, Xjq), (Xm9, Xjm), (Xm5, Xji), (Xly, Xjb), (Xca, Xb3), (Xc5, Xay), (Xc1, Xau), (Xbx, Xaq)] (.node 77 [(Xif, Xg8), (Xid, Xg6), (Xib, Xg4), (Xi9, Xg2), (Xi7, Xg0), (Xhk, Xfd), (Xhi, Xfb), (Xhg, Xf9), (Xhe, Xf7)] (.node 68 [(Xde, Xcs)] (.node 67 [(Xdg, Xcu)] .leaf .leaf) (.node 74 [(Xdl, Xcz), (Xdd, Xcr)] .leaf .leaf)) (.node 86 [(Xmn, Xk0), (Xm1, Xje)] (.node 78 [(Xie, Xg7), (Xic, Xg5), (Xia, Xg3), (Xi8, Xg1), (Xi6, Xfz), (Xhj, Xfc), (Xhh, Xfa), (Xhf, Xf8), (Xhd, Xf6)] .leaf .leaf) .leaf)) (.node 149 [(Xdn, Xd1)] (.node 103 [(Xmb, Xjo), (Xm7, Xjk), (Xm3, Xjg), (Xcc, Xb5), (Xc8, Xb1), (Xc3, Xaw), (Xbz, Xas), (Xbv, Xao)] (.node 102 [(Xi5, Xfy), (Xi4, Xfx), (Xi2, Xfv), (Xi1, Xfu), (Xi0, Xft), (Xhz, Xfs), (Xhx, Xfq), (Xhw, Xfp), (Xhv, Xfo), (Xhu, Xfn), (Xht, Xfm), (Xhs, Xfl), (Xhr, Xfk), (Xhq, Xfj), (Xhp, Xfi), (Xho, Xfh), (Xhn, Xfg), (Xhm, Xff), (Xhc, Xf5), (Xhb, Xf4), (Xha, Xf3), (Xh9, Xf2), (Xh7, Xf0), (Xh6, Xez), (Xh5, Xey), (Xh4, Xex), (X9t, X8j), (X9s, X8i), (X9r, X8h), (X9q, X8g), (X9p, X8f), (X9o, X8e), (X9n, X8d), (X9m, X8c), (X9l, X8b), (X9k, X8a), (X9j, X89), (X9i, X88), (X9h, X87), (X9g, X86), (X9f, X85), (X9d, X83), (X9c, X82), (X9b, X81), (X9a, X80), (X99, X7z), (X98, X7y), (X97, X7x), (X96, X7w), (X95, X7v), (X94, X7u), (X93, X7t), (X92, X7s), (X91, X7r), (X90, X7q), (X8z, X7p), (X8x, X7n), (X8w, X7m), (X8v, X7l), (X8u, X7k), (X8t, X7j)] .leaf .leaf) .leaf) (.node 176 [(X8y, X7o)] (.node 163 [(Xik, Xgd), (Xij, Xgc), (Xii, Xgb)] .leaf .leaf) .leaf))))
theorem Xon : X48 Tryz.prog M3.find := X1w ⟨⟨m36, trivial⟩, ⟨⟨m14, m77, trivial⟩, ⟨⟨m30, m41, m45, m49, m53, m57, m61, m66, m70, m75, m88, m94, Xxs, Xxq, Xxo, Xxm, Xxl, Xxj, Xxh, Xxf, Xxd, Xxb, Xx9, trivial⟩, ⟨⟨m0, m2, m3, m5, m6, m9, trivial⟩, ⟨⟨m65, m74, trivial⟩, trivial, trivial⟩, ⟨⟨m1, m4, m7, m8, trivial⟩, trivial, trivial⟩⟩, ⟨⟨m19, trivial⟩, ⟨⟨m17, m78, trivial⟩, trivial, trivial⟩, trivial⟩⟩, ⟨⟨m34, trivial⟩, ⟨⟨m33, trivial⟩, ⟨⟨m16, trivial⟩, trivial, trivial⟩, trivial⟩, ⟨⟨m38, trivial⟩, ⟨⟨m35, trivial⟩, trivial, trivial⟩, trivial⟩⟩⟩, ⟨⟨m40, m48, m93, Xva, m44, m52, m60, m69, m99, Xxp, Xxk, Xxg, Xxc, trivial⟩, ⟨⟨m20, m22, m24, m26, m28, m80, m82, m84, m86, trivial⟩, ⟨⟨m39, trivial⟩, ⟨⟨m37, trivial⟩, trivial, trivial⟩, ⟨⟨m18, m79, trivial⟩, trivial, trivial⟩⟩, ⟨⟨m13, m76, trivial⟩, ⟨⟨m21, m23, m25, m27, m29, m81, m83, m85, m87, trivial⟩, trivial, trivial⟩, trivial⟩⟩, ⟨⟨m15, trivial⟩, ⟨⟨m56, m64, m73, Xxr, Xxn, Xxi, Xxe, Xxa, trivial⟩, ⟨⟨m31, m32, m42, m43, m46, m47, m50, m51, m54, m55, m58, m59, m62, m63, m67, m68, m71, m72, m89, m90, m91, m92, m95, m96, m97, m98, Xvp, Xvo, Xvn, Xvm, Xvl, Xvk, Xvj, Xvi, Xvh, Xvg, Xvf, Xve, Xvd, Xvc, Xvb, Xv9, Xv8, Xv7, Xv6, Xv5, Xv4, Xv3, Xv2, Xv1, Xv0, Xuz, Xuy, Xux, Xuw, Xuv, Xut, Xus, Xur, Xuq, Xup, trivial⟩, trivial, trivial⟩, trivial⟩, ⟨⟨Xuu, trivial⟩, ⟨⟨m10, m11, m12, trivial⟩, trivial, trivial⟩, trivial⟩⟩⟩⟩
theorem m141 : Xe Tryz.prog 31 Xmm Xjz := X2 X3 Xs X1 X4 Xon (fuel := 3000) (d := 200) (by kernel_rfl)
theorem Xzz : Xe Tryz.prog 31 Xml Xjy := X2 X3 Xs X1 X4 Xon (fuel := 3000) (d := 200) (by kernel_rfl)
theorem Xzy : Xe Tryz.prog 31 Xmk Xjx := X2 X3 Xs X1 X4 Xon (fuel := 3000) (d := 200) (by kernel_rfl)
theorem Xzx : Xe Tryz.prog 31 Xmj Xjw := X2 X3 Xs X1 X4 Xon (fuel := 3000) (d := 200) (by kernel_rfl)
noncomputable def M4 : Tab Xce := (.node 66 [(Xdh, Xcv)] (.node 33 [(Xig, Xg9)] (.node 20 [(Xmi, Xjv), (Xmh, Xju), (Xmf, Xjs), (Xme, Xjr), (Xmc, Xjp), (Xma, Xjn), (Xm8, Xjl), (Xm6, Xjj), (Xm4, Xjh), (Xm2, Xjf), (Xm0, Xjd), (Xlz, Xjc), (Xcd, Xb6), (Xcb, Xb4), (Xc9, Xb2), (Xc7, Xb0), (Xc6, Xaz), (Xc4, Xax), (Xc2, Xav), (Xc0, Xat), (Xby, Xar), (Xbw, Xap), (Xbu, Xan)] (.node 18 [(Xss, Xqv), (Xsq, Xqt), (Xsp, Xqs), (Xsn, Xqq), (Xsm, Xqp), (Xsj, Xqm)] (.node 14 [(Xoi, Xnc), (Xoh, Xnb)] .leaf .leaf) (.node 19 [(Xsr, Xqu), (Xso, Xqr), (Xsl, Xqo), (Xsk, Xqn)] .leaf .leaf)) (.node 31 [(Xmm, Xjz), (Xml, Xjy), (Xmk, Xjx), (Xmj, Xjw)] (.node 24 [(Xih, Xga), (Xhl, Xfe)] .leaf .leaf) .leaf)) (.node 63 [(Xdj, Xcx)] (.node 43 [(Xdm, Xd0)] (.node 39 [(Xoj, Xnd), (Xog, Xna)] .leaf .leaf) (.node 62 [(Xdk, Xcy)] .leaf .leaf)) (.node 65 [(Xdf, Xct)] (.node 64 [(Xdi, Xcw)] .leaf .leaf) .leaf))) (.node 100 [(Xi3, Xfw), (Xhy, Xfr), (Xh8, Xf1), (X9e, X84), (Xmg, Xjt), (Xmd, Xjq), (Xm9, Xjm), (Xm5, Xji), (Xly, Xjb), (Xca, Xb3), (Xc5, Xay), (Xc1, Xau), (Xbx, Xaq)] (.node 77 [(Xif, Xg8), (Xid, Xg6), (Xib, Xg4), (Xi9, Xg2), (Xi7, Xg0), (Xhk, Xfd), (Xhi, Xfb), (Xhg, Xf9), (Xhe, Xf7)] (.node 68 [(Xde, Xcs)] (.node 67 [(Xdg, Xcu)] .leaf .leaf) (.node 74 [(Xdl, Xcz), (Xdd, Xcr)] .leaf .leaf)) (.node 86 [(Xmn, Xk0), (Xm1, Xje)] (.node 78 [(Xie, Xg7), (Xic, Xg5), (Xia, Xg3), (Xi8, Xg1), (Xi6, Xfz), (Xhj, Xfc), (Xhh, Xfa), (Xhf, Xf8), (Xhd, Xf6)] .leaf .leaf) .leaf)) (.node 149 [(Xdn, Xd1)] (.node 103 [(Xmb, Xjo), (Xm7, Xjk), (Xm3, Xjg), (Xcc, Xb5), (Xc8, Xb1), (Xc3, Xaw), (Xbz, Xas), (Xbv, Xao)] (.node 102 [(Xi5, Xfy), (Xi4, Xfx), (Xi2, Xfv), (Xi1, Xfu), (Xi0, Xft), (Xhz, Xfs), (Xhx, Xfq), (Xhw, Xfp), (Xhv, Xfo), (Xhu, Xfn), (Xht, Xfm), (Xhs, Xfl), (Xhr, Xfk), (Xhq, Xfj), (Xhp, Xfi), (Xho, Xfh), (Xhn, Xfg), (Xhm, Xff), (Xhc, Xf5), (Xhb, Xf4), (Xha, Xf3), (Xh9, Xf2), (Xh7, Xf0), (Xh6, Xez), (Xh5, Xey), (Xh4, Xex), (X9t, X8j), (X9s, X8i), (X9r, X8h), (X9q, X8g), (X9p, X8f), (X9o, X8e), (X9n, X8d), (X9m, X8c), (X9l, X8b), (X9k, X8a), (X9j, X89), (X9i, X88), (X9h, X87), (X9g, X86), (X9f, X85), (X9d, X83), (X9c, X82), (X9b, X81), (X9a, X80), (X99, X7z), (X98, X7y), (X97, X7x), (X96, X7w), (X95, X7v), (X94, X7u), (X93, X7t), (X92, X7s), (X91, X7r), (X90, X7q), (X8z, X7p), (X8x, X7n), (X8w, X7m), (X8v, X7l), (X8u, X7k), (X8t, X7j)] .leaf .leaf) .leaf) (.node 176 [(X8y, X7o)] (.node 163 [(Xik, Xgd), (Xij, Xgc), (Xii, Xgb)] .leaf .leaf) .leaf))))
theorem Xzn : X48 Tryz.prog M4.find := X1w ⟨⟨m36, trivial⟩, ⟨⟨m19, trivial⟩, ⟨⟨m30, m41, m45, m49, m53, m57, m61, m66, m70, m75, m88, m94, Xxs, Xxq, Xxo, Xxm, Xxl, Xxj, Xxh, Xxf, Xxd, Xxb, Xx9, trivial⟩, ⟨⟨m0, m2, m3, m5, m6, m9, trivial⟩, ⟨⟨m65, m74, trivial⟩, trivial, trivial⟩, ⟨⟨m1, m4, m7, m8, trivial⟩, trivial, trivial⟩⟩, ⟨⟨m141, Xzz, Xzy, Xzx, trivial⟩, ⟨⟨m17, m78, trivial⟩, trivial, trivial⟩, trivial⟩⟩, ⟨⟨m34, trivial⟩, ⟨⟨m16, trivial⟩, ⟨⟨m14, m77, trivial⟩, trivial, trivial⟩, ⟨⟨m33, trivial⟩, trivial, trivial⟩⟩, ⟨⟨m38, trivial⟩, ⟨⟨m35, trivial⟩, trivial, trivial⟩, trivial⟩⟩⟩, ⟨⟨m40, m48, m93, Xva, m44, m52, m60, m69, m99, Xxp, Xxk, Xxg, Xxc, trivial⟩, ⟨⟨m20, m22, m24, m26, m28, m80, m82, m84, m86, trivial⟩, ⟨⟨m39, trivial⟩, ⟨⟨m37, trivial⟩, trivial, trivial⟩, ⟨⟨m18, m79, trivial⟩, trivial, trivial⟩⟩, ⟨⟨m13, m76, trivial⟩, ⟨⟨m21, m23, m25, m27, m29, m81, m83, m85, m87, trivial⟩, trivial, trivial⟩, trivial⟩⟩, ⟨⟨m15, trivial⟩, ⟨⟨m56, m64, m73, Xxr, Xxn, Xxi, Xxe, Xxa, trivial⟩, ⟨⟨m31, m32, m42, m43, m46, m47, m50, m51, m54, m55, m58, m59, m62, m63, m67, m68, m71, m72, m89, m90, m91, m92, m95, m96, m97, m98, Xvp, Xvo, Xvn, Xvm, Xvl, Xvk, Xvj, Xvi, Xvh, Xvg, Xvf, Xve, Xvd, Xvc, Xvb, Xv9, Xv8, Xv7, Xv6, Xv5, Xv4, Xv3, Xv2, Xv1, Xv0, Xuz, Xuy, Xux, Xuw, Xuv, Xut, Xus, Xur, Xuq, Xup, trivial⟩, trivial, trivial⟩, trivial⟩, ⟨⟨Xuu, trivial⟩, ⟨⟨m10, m11, m12, trivial⟩, trivial, trivial⟩, trivial⟩⟩⟩⟩
theorem m161 : Xe Tryz.prog 5 Xpn Xoz := X2 X3 Xs X1 X4 Xzn (fuel := 3000) (d := 200) (by kernel_rfl)
noncomputable def M5 : Tab Xce := (.node 65 [(Xdf, Xct)] (.node 31 [(Xmm, Xjz), (Xml, Xjy), (Xmk, Xjx), (Xmj, Xjw)] (.node 19 [(Xsr, Xqu), (Xso, Xqr), (Xsl, Xqo), (Xsk, Xqn)] (.node 14 [(Xoi, Xnc), (Xoh, Xnb)] (.node 5 [(Xpn, Xoz)] .leaf .leaf) (.node 18 [(Xss, Xqv), (Xsq, Xqt), (Xsp, Xqs), (Xsn, Xqq), (Xsm, Xqp), (Xsj, Xqm)] .leaf .leaf)) (.node 24 [(Xih, Xga), (Xhl, Xfe)] (.node 20 [(Xmi, Xjv), (Xmh, Xju), (Xmf, Xjs), (Xme, Xjr), (Xmc, Xjp), (Xma, Xjn), (Xm8, Xjl), (Xm6, Xjj), (Xm4, Xjh), (Xm2, Xjf), (Xm0, Xjd), (Xlz, Xjc), (Xcd, Xb6), (Xcb, Xb4), (Xc9, Xb2), (Xc7, Xb0), (Xc6, Xaz), (Xc4, Xax), (Xc2, Xav), (Xc0, Xat), (Xby, Xar), (Xbw, Xap), (Xbu, Xan)] .leaf .leaf) .leaf)) (.node 62 [(Xdk, Xcy)] (.node 39 [(Xoj, Xnd), (Xog, Xna)] (.node 33 [(Xig, Xg9)] .leaf .leaf) (.node 43 [(Xdm, Xd0)] .leaf .leaf)) (.node 64 [(Xdi, Xcw)] (.node 63 [(Xdj, Xcx)] .leaf .leaf) .leaf))) (.node 86 [(Xmn, Xk0), (Xm1, Xje)] (.node 74 [(Xdl, Xcz), (Xdd, Xcr)] (.node 67 [(Xdg, Xcu)] (.node 66 [(Xdh, Xcv)] .leaf .leaf) (.node 68 [(Xde, Xcs)] .leaf .leaf)) (.node 78 [(Xie, Xg7), (Xic, Xg5), (Xia, Xg3), (Xi8, Xg1), (Xi6, Xfz), (Xhj, Xfc), (Xhh, Xfa), (Xhf, Xf8), (Xhd, Xf6)] (.node 77 [(Xif, Xg8), (Xid, Xg6), (Xib, Xg4), (Xi9, Xg2), (Xi7, Xg0), (Xhk, Xfd), (Xhi, Xfb), (Xhg, Xf9), (Xhe, Xf7)] .leaf .leaf) .leaf)) (.node 149 [(Xdn, Xd1)] (.node 102 [(Xi5, Xfy), (Xi4, Xfx), (Xi2, Xfv), (Xi1, Xfu), (Xi0, Xft), (Xhz, Xfs), (Xhx, Xfq), (Xhw, Xfp), (Xhv, Xfo), (Xhu, Xfn), (Xht, Xfm), (Xhs, Xfl), (Xhr, Xfk), (Xhq, Xfj), (Xhp, Xfi), (Xho, Xfh), (Xhn, Xfg), (Xhm, Xff), (Xhc, Xf5), (Xhb, Xf4), (Xha, Xf3), (Xh9, Xf2), (Xh7, Xf0), (Xh6, Xez), (Xh5, Xey), (Xh4, Xex), (X9t, X8j), (X9s, X8i), (X9r, X8h), (X9q, X8g), (X9p, X8f), (X9o, X8e), (X9n, X8d), (X9m, X8c), (X9l, X8b), (X9k, X8a), (X9j, X89), (X9i, X88), (X9h, X87), (X9g, X86), (X9f, X85), (X9d, X83), (X9c, X82), (X9b, X81), (X9a, X80), (X99, X7z), (X98, X7y), (X97, X7x), (X96, X7w), (X95, X7v), (X94, X7u), (X93, X7t), (X92, X7s), (X91, X7r), (X90, X7q), (X8z, X7p), (X8x, X7n), (X8w, X7m), (X8v, X7l), (X8u, X7k), (X8t, X7j)] (.node 100 [(Xi3, Xfw), (Xhy, Xfr), (Xh8, Xf1), (X9e, X84), (Xmg, Xjt), (Xmd, Xjq), (Xm9, Xjm), (Xm5, Xji), (Xly, Xjb), (Xca, Xb3), (Xc5, Xay), (Xc1, Xau), (Xbx, Xaq)] .leaf .leaf) (.node 103 [(Xmb, Xjo), (Xm7, Xjk), (Xm3, Xjg), (Xcc, Xb5), (Xc8, Xb1), (Xc3, Xaw), (Xbz, Xas), (Xbv, Xao)] .leaf .leaf)) (.node 176 [(X8y, X7o)] (.node 163 [(Xik, Xgd), (Xij, Xgc), (Xii, Xgb)] .leaf .leaf) .leaf))))
theorem Xzm : X48 Tryz.prog M5.find := X1w ⟨⟨m38, trivial⟩, ⟨⟨m141, Xzz, Xzy, Xzx, trivial⟩, ⟨⟨m1, m4, m7, m8, trivial⟩, ⟨⟨m65, m74, trivial⟩, ⟨⟨m161, trivial⟩, trivial, trivial⟩, ⟨⟨m0, m2, m3, m5, m6, m9, trivial⟩, trivial, trivial⟩⟩, ⟨⟨m17, m78, trivial⟩, ⟨⟨m30, m41, m45, m49, m53, m57, m61, m66, m70, m75, m88, m94, Xxs, Xxq, Xxo, Xxm, Xxl, Xxj, Xxh, Xxf, Xxd, Xxb, Xx9, trivial⟩, trivial, trivial⟩, trivial⟩⟩, ⟨⟨m33, trivial⟩, ⟨⟨m14, m77, trivial⟩, ⟨⟨m19, trivial⟩, trivial, trivial⟩, ⟨⟨m16, trivial⟩, trivial, trivial⟩⟩, ⟨⟨m35, trivial⟩, ⟨⟨m34, trivial⟩, trivial, trivial⟩, trivial⟩⟩⟩, ⟨⟨m13, m76, trivial⟩, ⟨⟨m18, m79, trivial⟩, ⟨⟨m37, trivial⟩, ⟨⟨m36, trivial⟩, trivial, trivial⟩, ⟨⟨m39, trivial⟩, trivial, trivial⟩⟩, ⟨⟨m21, m23, m25, m27, m29, m81, m83, m85, m87, trivial⟩, ⟨⟨m20, m22, m24, m26, m28, m80, m82, m84, m86, trivial⟩, trivial, trivial⟩, trivial⟩⟩, ⟨⟨m15, trivial⟩, ⟨⟨m31, m32, m42, m43, m46, m47, m50, m51, m54, m55, m58, m59, m62, m63, m67, m68, m71, m72, m89, m90, m91, m92, m95, m96, m97, m98, Xvp, Xvo, Xvn, Xvm, Xvl, Xvk, Xvj, Xvi, Xvh, Xvg, Xvf, Xve, Xvd, Xvc, Xvb, Xv9, Xv8, Xv7, Xv6, Xv5, Xv4, Xv3, Xv2, Xv1, Xv0, Xuz, Xuy, Xux, Xuw, Xuv, Xut, Xus, Xur, Xuq, Xup, trivial⟩, ⟨⟨m40, m48, m93, Xva, m44, m52, m60, m69, m99, Xxp, Xxk, Xxg, Xxc, trivial⟩, trivial, trivial⟩, ⟨⟨m56, m64, m73, Xxr, Xxn, Xxi, Xxe, Xxa, trivial⟩, trivial, trivial⟩⟩, ⟨⟨Xuu, trivial⟩, ⟨⟨m10, m11, m12, trivial⟩, trivial, trivial⟩, trivial⟩⟩⟩⟩
theorem m162 : Xe Tryz.prog 4 Xws Xu4 := X2 X3 Xs X1 X4 Xzm (fuel := 3000) (d := 200) (by kernel_rfl)
end Go.Av.Tryz
