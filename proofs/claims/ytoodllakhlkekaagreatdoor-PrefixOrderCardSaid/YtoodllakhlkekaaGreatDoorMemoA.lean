/- A closed run, in parts: what each part answers. -/
import Derived.Test.YtoodllakhlkekaaGreatDoorOrdZ
set_option linter.all false

set_option maxRecDepth 1000000
namespace Go.Av.TryzM
open Go.Av Go.Av.X Go.Proofs Go.D Go.Av.Tryz
set_option maxHeartbeats 4000000
noncomputable def Xt (f : Nat) : Option (List AV -> Option AV) := bif Nat.beq f 292 then some ixG else none
theorem X0t : Xeq Tryz.prog Xt := by
  intro f g h
  unfold Xt at h
  cases hb : Nat.beq f 292 with
  | true => rw [hb, cond_true] at h; cases h; rw [Nat.eq_of_beq_eq_true hb]; exact Xuh Tryz.func292 (by kernel_rfl) (by kernel_rfl) (by kernel_rfl) (by kernel_rfl)
  | false =>
  rw [hb, cond_false] at h
  cases h
theorem tmI0 : X1h Tryz.prog Xam.find /\ Tryz.prog.follows .mixedOrders = true := ⟨X4, by kernel_rfl⟩
instance tmI : TmD Tryz.prog Xam.find := ⟨tmI0⟩
def X1i (l : List Int) : Option Int := (X5p (List.length l)).bind fun _ => some ((X6k [] l).length : Int)
theorem X8 : Tryz.prog.follows .mixedOrders = true := by kernel_rfl
noncomputable def v0 : AV := .sc (.string ⟨⟨[115, 101, 108, 101, 99, 116, 32, 99, 111, 117, 110, 116, 40, 42, 41, 32, 102, 114, 111, 109, 32, 97, 32, 119, 105, 110, 100, 111, 119, 32, 116, 117, 109, 98, 108, 101, 32, 53]⟩⟩)
noncomputable def v1 : AV := .agg [.sc (.int .u8 1), .list false [], .list false [.sc (.int .i64 0)], .sc (.bool false), .list false [], .sc (.int .u8 1), .sc (.int .i64 5), .sc (.int .i64 0), .sc (.bool false), .sc (.int .u8 1)]
noncomputable def v2 : AV := .agg [.sc (.bool true), .sc (.int .i64 9), .sc (.int .i64 0), .sc (.int .i64 0), .sc (.int .i64 0)]
noncomputable def v3 : AV := .list false [.agg [.sc (.bool false), .sc (.int .i64 0), .sc (.int .i64 0), .sc (.int .i64 1), .sc (.int .i64 0)], v2]
noncomputable def v4 : AV := .list false [.agg [.sc (.int .u8 1), .sc (.int .i64 0)], .agg [.sc (.int .u8 2), .sc (.int .i64 0)], .agg [.sc (.int .u8 4), .sc (.int .i64 0)], .agg [.sc (.int .u8 6), .sc (.int .i64 0)]]
noncomputable def v5 : AV := .list false [.agg [.sc (.int .i64 0), .sc (.int .i64 0), .sc (.int .i64 1), .sc (.int .i64 0), .sc (.int .i64 1)], .agg [.sc (.int .i64 1), .sc (.int .i64 0), .sc (.int .i64 2), .sc (.int .i64 0), .sc (.int .i64 1)], .agg [.sc (.int .i64 2), .sc (.int .i64 0), .sc (.int .i64 3), .sc (.int .i64 0), .sc (.int .i64 1)]]
noncomputable def v6 : AV := .agg [.sc (.int .u8 2), .sc (.int .i64 0), .sc (.int .i64 0), .list false [], .list false [.sc (.int .i64 (-9223372036854775808))], .list false [], .list false [], .list false [], .list false []]
noncomputable def v7 : AV := .agg [.sc (.int .u8 4), .sc (.int .i64 0), .sc (.int .i64 0), .list false [], .list false [.sc (.int .i64 (-9223372036854775808))], .list false [], .list false [], .list false [], .list false []]
noncomputable def v8 : AV := .agg [.sc (.int .u8 6), .sc (.int .i64 0), .sc (.int .i64 0), .list false [], .list false [], .list false [], .list false [], .list false [], .list false []]
noncomputable def v9 : AV := .list false [.agg [.sc (.int .i64 1), .list false []], .agg [.sc (.int .i64 1), .list false []], .agg [.sc (.int .i64 1), .list false []]]
noncomputable def v10 : AV := .agg [.sc (.int .u8 1), .list false [], .list false [.sc (.int .i64 0)], .sc (.bool false), .list false [], .sc (.int .u8 1), .sc (.int .i64 5), .sc (.int .i64 0), .sc (.bool false), .sc (.int .u8 1), v4, v5, .list false [.agg [.sc (.int .u8 1), .sc (.int .i64 0), .sc (.int .i64 0), .list false [], .list false [], .list false [], v3, .list false [], .list false []], v6, v7, v8], v9]
noncomputable def v11 : AV := .agg [v4, v5]
noncomputable def v12 : AV := .list false [.agg [.sc (.int .i64 0), .sc (.int .u8 1), .sc (.int .i64 0), .sc (.int .i64 1), .sc (.int .i64 0), .sc (.int .i64 0), .sc (.int .i64 0), .sc (.int .i64 0), .sc (.int .i64 0), .sc (.int .i64 0), .sc (.int .i64 0)]]
noncomputable def v13 : AV := .list false [v2]
noncomputable def v14 : AV := .agg [.sc (.int .u8 1), .list false [], .list false [.sc (.int .i64 0)], .sc (.bool false), .list false [], .sc (.int .u8 1), .sc (.int .i64 5), .sc (.int .i64 0), .sc (.bool false), .sc (.int .u8 1), v4, v5, .list false [.agg [.sc (.int .u8 1), .sc (.int .i64 0), .sc (.int .i64 0), v12, .list false [], .list false [], v13, .list false [], .list false []], v6, v7, v8], v9]
noncomputable def v15 : AV := .agg [.sc (.int .u8 1), .sc (.int .i64 0), .sc (.int .i64 0), .list false [], .list false [], .list false [], v13, .list false [], .list false []]
noncomputable def v16 : AV := .list false [v15, v6, v7, v8]
noncomputable def v17 : AV := .agg [.sc (.int .i64 1), .list false [.agg [.sc (.int .u8 1), .sc (.int .i64 0), .sc (.int .i64 1), .sc (.int .i64 0), .sc (.int .i64 0), .sc (.int .i64 0), .sc (.int .i64 0), .sc (.int .i64 0), .sc (.int .i64 0), .sc (.int .i64 0)]]]
noncomputable def v18 : AV := .agg [.sc (.int .u8 1), .list false [], .list false [.sc (.int .i64 0)], .sc (.bool false), .list false [], .sc (.int .u8 1), .sc (.int .i64 5), .sc (.int .i64 0), .sc (.bool false), .sc (.int .u8 1), v4, v5, v16, .list false [v17, .agg [.sc (.int .i64 1), .list false []], .agg [.sc (.int .i64 1), .list false []]]]
noncomputable def v19 : AV := .list true [v17]
noncomputable def v20 : AV := .agg [.sc (.int .u8 1), .list false [], .list false [.sc (.int .i64 0)], .sc (.bool false), .list false [], .sc (.int .u8 1), .sc (.int .i64 5), .sc (.int .i64 0), .sc (.bool false), .sc (.int .u8 1), v4, v5, .list false [v15, .agg [.sc (.int .u8 2), .sc (.int .i64 0), .sc (.int .i64 0), v12, .list false [.sc (.int .i64 (-9223372036854775808))], .list false [], .list false [], .list false [], .list false []], v7, v8], v9]
noncomputable def v21 : AV := .agg [.sc (.int .u8 1), .list false [], .list false [.sc (.int .i64 0)], .sc (.bool false), .list false [], .sc (.int .u8 1), .sc (.int .i64 5), .sc (.int .i64 0), .sc (.bool false), .sc (.int .u8 1), v4, v5, v16, .list false [.agg [.sc (.int .i64 1), .list false []], v17, .agg [.sc (.int .i64 1), .list false []]]]
noncomputable def v22 : AV := .agg [.sc (.int .u8 4), .sc (.int .i64 0), .sc (.int .i64 0), .list false [], .list false [.sc (.int .i64 (-9223372036854775808))], .list false [.agg [.sc (.int .i64 0), .sc (.int .i64 0), .sc (.int .i64 5), .sc (.int .i64 1), .sc (.int .i64 0), .sc (.int .i64 0), .sc (.int .i64 0), .sc (.int .i64 0), .sc (.int .i64 0), .sc (.int .i64 0), .sc (.int .i64 0)]], .list false [], .list false [], .list false []]
noncomputable def v23 : AV := .agg [.sc (.int .u8 1), .list false [], .list false [.sc (.int .i64 0)], .sc (.bool false), .list false [], .sc (.int .u8 1), .sc (.int .i64 5), .sc (.int .i64 0), .sc (.bool false), .sc (.int .u8 1), v4, v5, .list false [v15, v6, v22, v8], v9]
noncomputable def v24 : AV := .list false [.agg [.sc (.int .i64 0), .sc (.int .u8 2), .sc (.int .i64 0), .sc (.int .i64 0), .sc (.int .i64 0), .sc (.int .i64 9), .sc (.int .i64 0), .sc (.int .i64 0), .sc (.int .i64 0), .sc (.int .i64 0), .sc (.int .i64 0)]]
noncomputable def v25 : AV := .agg [.sc (.int .u8 1), .list false [], .list false [.sc (.int .i64 0)], .sc (.bool false), .list false [], .sc (.int .u8 1), .sc (.int .i64 5), .sc (.int .i64 0), .sc (.bool false), .sc (.int .u8 1), v4, v5, .list false [.agg [.sc (.int .u8 1), .sc (.int .i64 0), .sc (.int .i64 0), v24, .list false [], .list false [], .list false [], .list false [], .list false []], v6, v22, v8], v9]
noncomputable def v26 : AV := .agg [.sc (.int .u8 1), .sc (.int .i64 0), .sc (.int .i64 0), .list false [], .list false [], .list false [], .list false [], .list false [], .list false []]
noncomputable def v27 : AV := .agg [.sc (.int .u8 2), .sc (.int .i64 0), .sc (.int .i64 0), .sc (.int .i64 0), .sc (.int .i64 9), .sc (.int .i64 0), .sc (.int .i64 0), .sc (.int .i64 0), .sc (.int .i64 0), .sc (.int .i64 0)]
noncomputable def v28 : AV := .agg [.sc (.int .i64 1), .list false [v27]]
noncomputable def v29 : AV := .agg [.sc (.int .u8 1), .list false [], .list false [.sc (.int .i64 0)], .sc (.bool false), .list false [], .sc (.int .u8 1), .sc (.int .i64 5), .sc (.int .i64 0), .sc (.bool false), .sc (.int .u8 1), v4, v5, .list false [v26, v6, v22, v8], .list false [v28, .agg [.sc (.int .i64 1), .list false []], .agg [.sc (.int .i64 1), .list false []]]]
noncomputable def v30 : AV := .list true [v28]
noncomputable def v31 : AV := .agg [.sc (.int .u8 1), .list false [], .list false [.sc (.int .i64 0)], .sc (.bool false), .list false [], .sc (.int .u8 1), .sc (.int .i64 5), .sc (.int .i64 0), .sc (.bool false), .sc (.int .u8 1), v4, v5, .list false [v26, .agg [.sc (.int .u8 2), .sc (.int .i64 0), .sc (.int .i64 0), v24, .list false [.sc (.int .i64 9)], .list false [], .list false [], .list false [], .list false []], v22, v8], v9]
noncomputable def v32 : AV := .agg [.sc (.int .u8 2), .sc (.int .i64 0), .sc (.int .i64 0), .list false [], .list false [.sc (.int .i64 9)], .list false [], .list false [], .list false [], .list false []]
noncomputable def v33 : AV := .agg [.sc (.int .u8 1), .list false [], .list false [.sc (.int .i64 0)], .sc (.bool false), .list false [], .sc (.int .u8 1), .sc (.int .i64 5), .sc (.int .i64 0), .sc (.bool false), .sc (.int .u8 1), v4, v5, .list false [v26, v32, v22, v8], .list false [.agg [.sc (.int .i64 1), .list false []], v28, .agg [.sc (.int .i64 1), .list false []]]]
noncomputable def v34 : AV := .tup [v33, .sc (.bool true)]
noncomputable def v35 : AV := .agg [.sc (.int .u8 4), .sc (.int .i64 0), .sc (.int .i64 0), .list false [.agg [.sc (.int .i64 0), .sc (.int .u8 3), .sc (.int .i64 0), .sc (.int .i64 0), .sc (.int .i64 0), .sc (.int .i64 0), .sc (.int .i64 0), .sc (.int .i64 0), .sc (.int .i64 5), .sc (.int .i64 1), .sc (.int .i64 0)]], .list false [.sc (.int .i64 9)], .list false [], .list false [], .list false [], .list false []]
noncomputable def v36 : AV := .agg [.sc (.int .u8 1), .list false [], .list false [.sc (.int .i64 0)], .sc (.bool false), .list false [], .sc (.int .u8 1), .sc (.int .i64 5), .sc (.int .i64 0), .sc (.bool false), .sc (.int .u8 1), v4, v5, .list false [v26, v32, v35, v8], v9]
noncomputable def v37 : AV := .agg [.sc (.int .u8 4), .sc (.int .i64 0), .sc (.int .i64 0), .list false [], .list false [.sc (.int .i64 9)], .list false [], .list false [], .list false [], .list false []]
noncomputable def v38 : AV := .agg [.sc (.int .i64 1), .list false [.agg [.sc (.int .u8 3), .sc (.int .i64 0), .sc (.int .i64 0), .sc (.int .i64 0), .sc (.int .i64 0), .sc (.int .i64 0), .sc (.int .i64 0), .sc (.int .i64 5), .sc (.int .i64 1), .sc (.int .i64 0)]]]
noncomputable def v39 : AV := .agg [.sc (.int .u8 1), .list false [], .list false [.sc (.int .i64 0)], .sc (.bool false), .list false [], .sc (.int .u8 1), .sc (.int .i64 5), .sc (.int .i64 0), .sc (.bool false), .sc (.int .u8 1), v4, v5, .list false [v26, v32, v37, v8], .list false [.agg [.sc (.int .i64 1), .list false []], .agg [.sc (.int .i64 1), .list false []], v38]]
noncomputable def v40 : AV := .tup [v39, .sc (.bool true)]
noncomputable def v41 : AV := .agg [.sc (.int .u8 1), .list false [], .list false [.sc (.int .i64 0)], .sc (.bool false), .list false [], .sc (.int .u8 1), .sc (.int .i64 5), .sc (.int .i64 0), .sc (.bool false), .sc (.int .u8 1), v4, v5, .list false [v26, v32, v37, .agg [.sc (.int .u8 6), .sc (.int .i64 0), .sc (.int .i64 0), .list false [], .list false [], .list false [], .list false [], .list false [.agg [.sc (.int .i64 0), .sc (.int .i64 0), .sc (.int .i64 5), .sc (.int .i64 1), .sc (.int .i64 0)]], .list false []]], v9]
noncomputable def Xvh : List AV := [.sc (.string ⟨⟨[99, 111, 117, 110, 116]⟩⟩)]
noncomputable def Xtj : AV := .sc (.bool true)
noncomputable def Xvg : List AV := [.sc (.string ⟨⟨[97]⟩⟩)]
noncomputable def Xti : AV := .sc (.bool true)
noncomputable def Xvf : List AV := [.sc (.string ⟨⟨[116, 117, 109, 98, 108, 101]⟩⟩)]
noncomputable def Xth : AV := .sc (.bool true)
noncomputable def Xw2 : List AV := [v0]
noncomputable def Xvt : AV := .tup [.list true [.agg [.sc (.int .u8 2), .sc (.string ⟨⟨[115, 101, 108, 101, 99, 116]⟩⟩), .sc (.int .i64 0)], .agg [.sc (.int .u8 2), .sc (.string ⟨⟨[99, 111, 117, 110, 116]⟩⟩), .sc (.int .i64 7)], .agg [.sc (.int .u8 3), .sc (.string ⟨⟨[40]⟩⟩), .sc (.int .i64 12)], .agg [.sc (.int .u8 3), .sc (.string ⟨⟨[42]⟩⟩), .sc (.int .i64 13)], .agg [.sc (.int .u8 3), .sc (.string ⟨⟨[41]⟩⟩), .sc (.int .i64 14)], .agg [.sc (.int .u8 2), .sc (.string ⟨⟨[102, 114, 111, 109]⟩⟩), .sc (.int .i64 16)], .agg [.sc (.int .u8 2), .sc (.string ⟨⟨[97]⟩⟩), .sc (.int .i64 21)], .agg [.sc (.int .u8 2), .sc (.string ⟨⟨[119, 105, 110, 100, 111, 119]⟩⟩), .sc (.int .i64 23)], .agg [.sc (.int .u8 2), .sc (.string ⟨⟨[116, 117, 109, 98, 108, 101]⟩⟩), .sc (.int .i64 30)], .agg [.sc (.int .u8 1), .sc (.string ⟨⟨[53]⟩⟩), .sc (.int .i64 37)]], .sc (.int .i64 38), .sc (.int .i64 0)]
noncomputable def Xy2 : List AV := [v0]
noncomputable def Xwi : AV := .tup [v1, .sc (.int .i64 38), .sc (.int .i64 0)]
noncomputable def Xsb : List AV := [.list false [.sc (.int .i64 0)]]
noncomputable def Xrx : AV := .sc (.int .i64 1)
noncomputable def Xsa : List AV := [.list false []]
noncomputable def Xrw : AV := .nils
noncomputable def Xve : List AV := [v1, .list false [v3], .sc (.int .i64 1), .sc (.int .i64 1)]
noncomputable def Xtg : AV := .tup [v10, .sc (.int .i64 0)]
noncomputable def Xs9 : List AV := [v11]
noncomputable def Xrv : AV := .list true [.sc (.int .i64 0), .sc (.int .i64 1), .sc (.int .i64 2), .sc (.int .i64 3)]
noncomputable def Xvb : List AV := [v11, .sc (.int .i64 0)]
noncomputable def Xtd : AV := .list false []
noncomputable def Xkk : List AV := [v11, .sc (.int .i64 0)]
noncomputable def Xh5 : AV := .list true [.sc (.int .i64 0)]
noncomputable def Xkj : List AV := [v11, .sc (.int .i64 1)]
noncomputable def Xh4 : AV := .list true [.sc (.int .i64 0)]
noncomputable def Xki : List AV := [v11, .sc (.int .i64 1)]
noncomputable def Xh3 : AV := .list true [.sc (.int .i64 1)]
noncomputable def Xkh : List AV := [v11, .sc (.int .i64 2)]
noncomputable def Xh2 : AV := .list true [.sc (.int .i64 1)]
noncomputable def Xkg : List AV := [v11, .sc (.int .i64 2)]
noncomputable def Xh1 : AV := .list true [.sc (.int .i64 2)]
noncomputable def Xkf : List AV := [v11, .sc (.int .i64 3)]
noncomputable def Xh0 : AV := .list true [.sc (.int .i64 2)]
noncomputable def Xke : List AV := [v11, .sc (.int .i64 3)]
noncomputable def Xgz : AV := .list false []
noncomputable def Xnr : List AV := [v10]
noncomputable def Xlu : AV := .sc (.int .i64 0)
noncomputable def Xen : List AV := [.list false []]
noncomputable def Xdn : AV := .nils
noncomputable def Xem : List AV := [.list false []]
noncomputable def Xdm : AV := .nils
noncomputable def Xkd : List AV := [v10, .list false [.sc (.int .i64 2)]]
noncomputable def Xgy : AV := .list true [.agg [.sc (.int .i64 1), .list false []]]
noncomputable def Xkc : List AV := [v10, .list false []]
noncomputable def Xgx : AV := .list false []
noncomputable def Xkb : List AV := [v10, .list false [.sc (.int .i64 1)]]
noncomputable def Xgw : AV := .list true [.agg [.sc (.int .i64 1), .list false []]]
noncomputable def Xka : List AV := [v10, .list false [.sc (.int .i64 0)]]
noncomputable def Xgv : AV := .list true [.agg [.sc (.int .i64 1), .list false []]]
noncomputable def Xel : List AV := [.list false []]
noncomputable def Xdl : AV := .nils
noncomputable def Xek : List AV := [.list false []]
noncomputable def Xdk : AV := .nils
noncomputable def Xej : List AV := [.list false []]
noncomputable def Xdj : AV := .nils
noncomputable def Xei : List AV := [.list false []]
noncomputable def Xdi : AV := .nils
noncomputable def Xeh : List AV := [.list false []]
noncomputable def Xdh : AV := .nils
noncomputable def Xk9 : List AV := [v10, .sc (.int .i64 0)]
noncomputable def Xgu : AV := .tup [v14, .sc (.bool true)]
noncomputable def Xnq : List AV := [v14]
noncomputable def Xlt : AV := .sc (.int .i64 0)
noncomputable def Xk8 : List AV := [v14, .list false [.sc (.int .i64 2)]]
noncomputable def Xgt : AV := .list true [.agg [.sc (.int .i64 1), .list false []]]
noncomputable def Xk7 : List AV := [v14, .list false []]
noncomputable def Xgs : AV := .list false []
noncomputable def Xk6 : List AV := [v14, .list false [.sc (.int .i64 1)]]
noncomputable def Xgr : AV := .list true [.agg [.sc (.int .i64 1), .list false []]]
noncomputable def Xk5 : List AV := [v14, .list false [.sc (.int .i64 0)]]
noncomputable def Xgq : AV := .list true [.agg [.sc (.int .i64 1), .list false []]]
noncomputable def Xnp : List AV := [v14, .sc (.int .i64 0)]
noncomputable def Xls : AV := .tup [v18, .sc (.bool true)]
noncomputable def Xno : List AV := [v18]
noncomputable def Xlr : AV := .sc (.int .i64 0)
noncomputable def Xk4 : List AV := [v18, .list false [.sc (.int .i64 2)]]
noncomputable def Xgp : AV := .list true [.agg [.sc (.int .i64 1), .list false []]]
noncomputable def Xk3 : List AV := [v18, .list false []]
noncomputable def Xgo : AV := .list false []
noncomputable def Xk2 : List AV := [v18, .list false [.sc (.int .i64 1)]]
noncomputable def Xgn : AV := .list true [.agg [.sc (.int .i64 1), .list false []]]
noncomputable def Xk1 : List AV := [v18, .list false [.sc (.int .i64 0)]]
noncomputable def Xgm : AV := v19
noncomputable def Xnn : List AV := [v18, .sc (.int .i64 1), .sc (.int .i64 0), .sc (.int .i64 0)]
noncomputable def Xlq : AV := .tup [v20, .sc (.int .i64 0)]
noncomputable def Xnm : List AV := [v20]
noncomputable def Xlp : AV := .sc (.int .i64 0)
noncomputable def Xk0 : List AV := [v20, .list false [.sc (.int .i64 2)]]
noncomputable def Xgl : AV := .list true [.agg [.sc (.int .i64 1), .list false []]]
noncomputable def Xjz : List AV := [v20, .list false []]
noncomputable def Xgk : AV := .list false []
noncomputable def Xjy : List AV := [v20, .list false [.sc (.int .i64 1)]]
noncomputable def Xgj : AV := .list true [.agg [.sc (.int .i64 1), .list false []]]
noncomputable def Xjx : List AV := [v20, .list false [.sc (.int .i64 0)]]
noncomputable def Xgi : AV := .list true [.agg [.sc (.int .i64 1), .list false []]]
noncomputable def Xnl : List AV := [v20, .sc (.int .i64 1)]
noncomputable def Xlo : AV := .tup [v21, .sc (.bool true)]
noncomputable def Xnk : List AV := [v21]
noncomputable def Xln : AV := .sc (.int .i64 0)
noncomputable def Xjw : List AV := [v21, .list false [.sc (.int .i64 2)]]
noncomputable def Xgh : AV := .list true [.agg [.sc (.int .i64 1), .list false []]]
noncomputable def Xjv : List AV := [v21, .list false []]
noncomputable def Xgg : AV := .list false []
noncomputable def Xju : List AV := [v21, .list false [.sc (.int .i64 1)]]
noncomputable def Xgf : AV := v19
noncomputable def Xnj : List AV := [v21, .sc (.int .i64 2), .sc (.int .i64 0), .sc (.int .i64 0)]
noncomputable def Xlm : AV := .tup [v23, .sc (.int .i64 0)]
noncomputable def Xni : List AV := [v23]
noncomputable def Xll : AV := .sc (.int .i64 0)
noncomputable def Xjt : List AV := [v23, .list false [.sc (.int .i64 2)]]
noncomputable def Xge : AV := .list true [.agg [.sc (.int .i64 1), .list false []]]
noncomputable def Xjs : List AV := [v23, .list false []]
noncomputable def Xgd : AV := .list false []
noncomputable def Xjr : List AV := [v23, .list false [.sc (.int .i64 1)]]
noncomputable def Xgc : AV := .list true [.agg [.sc (.int .i64 1), .list false []]]
noncomputable def Xjq : List AV := [v23, .list false [.sc (.int .i64 0)]]
noncomputable def Xgb : AV := .list true [.agg [.sc (.int .i64 1), .list false []]]
noncomputable def Xjp : List AV := [v23, .sc (.int .i64 0)]
noncomputable def Xga : AV := .tup [v25, .sc (.bool true)]
noncomputable def Xnh : List AV := [v25]
noncomputable def Xlk : AV := .sc (.int .i64 0)
noncomputable def Xjo : List AV := [v25, .list false [.sc (.int .i64 2)]]
noncomputable def Xg9 : AV := .list true [.agg [.sc (.int .i64 1), .list false []]]
noncomputable def Xjn : List AV := [v25, .list false []]
noncomputable def Xg8 : AV := .list false []
noncomputable def Xjm : List AV := [v25, .list false [.sc (.int .i64 1)]]
noncomputable def Xg7 : AV := .list true [.agg [.sc (.int .i64 1), .list false []]]
noncomputable def Xjl : List AV := [v25, .list false [.sc (.int .i64 0)]]
noncomputable def Xg6 : AV := .list true [.agg [.sc (.int .i64 1), .list false []]]
noncomputable def Xng : List AV := [v25, .sc (.int .i64 0)]
noncomputable def Xlj : AV := .tup [v29, .sc (.bool true)]
noncomputable def Xnf : List AV := [v29]
noncomputable def Xli : AV := .sc (.int .i64 0)
noncomputable def Xjk : List AV := [v29, .list false [.sc (.int .i64 2)]]
noncomputable def Xg5 : AV := .list true [.agg [.sc (.int .i64 1), .list false []]]
noncomputable def Xjj : List AV := [v29, .list false []]
noncomputable def Xg4 : AV := .list false []
noncomputable def Xji : List AV := [v29, .list false [.sc (.int .i64 1)]]
noncomputable def Xg3 : AV := .list true [.agg [.sc (.int .i64 1), .list false []]]
noncomputable def Xjh : List AV := [v29, .list false [.sc (.int .i64 0)]]
noncomputable def Xg2 : AV := v30
noncomputable def Xne : List AV := [v29, .sc (.int .i64 1), .sc (.int .i64 0), .sc (.int .i64 0)]
noncomputable def Xlh : AV := .tup [v31, .sc (.int .i64 0)]
noncomputable def Xnd : List AV := [v31]
noncomputable def Xlg : AV := .sc (.int .i64 0)
noncomputable def Xjg : List AV := [v31, .list false [.sc (.int .i64 2)]]
noncomputable def Xg1 : AV := .list true [.agg [.sc (.int .i64 1), .list false []]]
noncomputable def Xjf : List AV := [v31, .list false []]
noncomputable def Xg0 : AV := .list false []
noncomputable def Xje : List AV := [v31, .list false [.sc (.int .i64 1)]]
noncomputable def Xfz : AV := .list true [.agg [.sc (.int .i64 1), .list false []]]
noncomputable def Xjd : List AV := [v31, .list false [.sc (.int .i64 0)]]
noncomputable def Xfy : AV := .list true [.agg [.sc (.int .i64 1), .list false []]]
noncomputable def Xnc : List AV := [v31, .sc (.int .i64 1)]
noncomputable def Xlf : AV := v34
noncomputable def Xvd : List AV := [.sc (.int .i64 9)]
noncomputable def Xtf : AV := v34
noncomputable def Xnb : List AV := [v33]
noncomputable def Xle : AV := .sc (.int .i64 0)
noncomputable def Xjc : List AV := [v33, .list false [.sc (.int .i64 2)]]
noncomputable def Xfx : AV := .list true [.agg [.sc (.int .i64 1), .list false []]]
noncomputable def Xjb : List AV := [v33, .list false []]
noncomputable def Xfw : AV := .list false []
noncomputable def Xja : List AV := [v33, .list false [.sc (.int .i64 1)]]
noncomputable def Xfv : AV := v30
noncomputable def Xj9 : List AV := [v1, v22, .sc (.int .i64 0), v27]
noncomputable def Xfu : AV := .tup [v35, .sc (.int .i64 0)]
noncomputable def Xna : List AV := [v33, .sc (.int .i64 2), .sc (.int .i64 0), .sc (.int .i64 0)]
noncomputable def Xld : AV := .tup [v36, .sc (.int .i64 0)]
noncomputable def Xvc : List AV := [.sc (.int .i64 10)]
noncomputable def Xte : AV := .tup [v36, .sc (.bool true)]
noncomputable def Xn9 : List AV := [v36]
noncomputable def Xlc : AV := .sc (.int .i64 0)
noncomputable def Xj8 : List AV := [v36, .list false [.sc (.int .i64 2)]]
noncomputable def Xft : AV := .list true [.agg [.sc (.int .i64 1), .list false []]]
noncomputable def Xj7 : List AV := [v36, .list false []]
noncomputable def Xfs : AV := .list false []
noncomputable def Xj6 : List AV := [v36, .list false [.sc (.int .i64 1)]]
noncomputable def Xfr : AV := .list true [.agg [.sc (.int .i64 1), .list false []]]
noncomputable def Xn8 : List AV := [v36, .sc (.int .i64 2)]
noncomputable def Xlb : AV := v40
noncomputable def Xva : List AV := [.sc (.int .i64 11)]
noncomputable def Xtc : AV := v40
noncomputable def Xn7 : List AV := [v39]
noncomputable def Xla : AV := .sc (.int .i64 0)
noncomputable def Xj5 : List AV := [v39, .list false [.sc (.int .i64 2)]]
noncomputable def Xfq : AV := .list true [v38]
noncomputable def Xj4 : List AV := [v39, .list false []]
noncomputable def Xfp : AV := .list false []
noncomputable def Xn6 : List AV := [v39, .sc (.int .i64 3), .sc (.int .i64 0), .sc (.int .i64 0)]
noncomputable def Xl9 : AV := .tup [v41, .sc (.int .i64 0)]
noncomputable def Xv9 : List AV := [.sc (.int .i64 12)]
noncomputable def Xtb : AV := .tup [v41, .sc (.bool true)]
noncomputable def Xn5 : List AV := [v41]
noncomputable def Xl8 : AV := .sc (.int .i64 0)
noncomputable def Xy1 : List AV := []
noncomputable def Xwh : AV := .sc (.bool true)
theorem fn43 : X5d Tryz.prog 43 Tryz.f43 (X3 Tryz.f43) := ⟨Tryz.func43, by kernel_rfl, rfl⟩
theorem Xee : Xu Tryz.prog 43 [.list false []] .nils := by
  refine Xu.sym X4 fn43 (nt := 8) rfl rfl ?_ okM
  refine X3b [] ?_
  refine Xd.eqNil X4 (may := true) rfl rfl rfl rfl rfl rfl trivial (by simp [X3c]) fun b2 qb2 => ?_
  cases b2
  · exact X0a [.br false, .ne false] (k := fi)
  · exact X0a [.br true] (k := fi)
theorem fn62 : X5d Tryz.prog 62 Tryz.f62 (X3 Tryz.f62) := ⟨Tryz.func62, by kernel_rfl, rfl⟩
theorem Xed : Xu Tryz.prog 62 [.list false []] .nils := by
  refine Xu.sym X4 fn62 (nt := 8) rfl rfl ?_ okM
  refine X3b [] ?_
  refine Xd.eqNil X4 (may := true) rfl rfl rfl rfl rfl rfl trivial (by simp [X3c]) fun b2 qb2 => ?_
  cases b2
  · exact X0a [.br false, .ne false] (k := fi)
  · exact X0a [.br true] (k := fi)
theorem fn63 : X5d Tryz.prog 63 Tryz.f63 (X3 Tryz.f63) := ⟨Tryz.func63, by kernel_rfl, rfl⟩
theorem Xec : Xu Tryz.prog 63 [.list false []] .nils := by
  refine Xu.sym X4 fn63 (nt := 8) rfl rfl ?_ okM
  refine X3b [] ?_
  refine Xd.eqNil X4 (may := true) rfl rfl rfl rfl rfl rfl trivial (by simp [X3c]) fun b2 qb2 => ?_
  cases b2
  · exact X0a [.br false, .ne false] (k := fi)
  · exact X0a [.br true] (k := fi)
theorem fn64 : X5d Tryz.prog 64 Tryz.f64 (X3 Tryz.f64) := ⟨Tryz.func64, by kernel_rfl, rfl⟩
theorem Xeb : Xu Tryz.prog 64 [.list false []] .nils := by
  refine Xu.sym X4 fn64 (nt := 8) rfl rfl ?_ okM
  refine X3b [] ?_
  refine Xd.eqNil X4 (may := true) rfl rfl rfl rfl rfl rfl trivial (by simp [X3c]) fun b2 qb2 => ?_
  cases b2
  · exact X0a [.br false, .ne false] (k := fi)
  · exact X0a [.br true] (k := fi)
theorem fn65 : X5d Tryz.prog 65 Tryz.f65 (X3 Tryz.f65) := ⟨Tryz.func65, by kernel_rfl, rfl⟩
theorem Xea : Xu Tryz.prog 65 [.list false []] .nils := by
  refine Xu.sym X4 fn65 (nt := 8) rfl rfl ?_ okM
  refine X3b [] ?_
  refine Xd.eqNil X4 (may := true) rfl rfl rfl rfl rfl rfl trivial (by simp [X3c]) fun b2 qb2 => ?_
  cases b2
  · exact X0a [.br false, .ne false] (k := fi)
  · exact X0a [.br true] (k := fi)
theorem fn66 : X5d Tryz.prog 66 Tryz.f66 (X3 Tryz.f66) := ⟨Tryz.func66, by kernel_rfl, rfl⟩
theorem Xe9 : Xu Tryz.prog 66 [.list false []] .nils := by
  refine Xu.sym X4 fn66 (nt := 8) rfl rfl ?_ okM
  refine X3b [] ?_
  refine Xd.eqNil X4 (may := true) rfl rfl rfl rfl rfl rfl trivial (by simp [X3c]) fun b2 qb2 => ?_
  cases b2
  · exact X0a [.br false, .ne false] (k := fi)
  · exact X0a [.br true] (k := fi)
theorem fn67 : X5d Tryz.prog 67 Tryz.f67 (X3 Tryz.f67) := ⟨Tryz.func67, by kernel_rfl, rfl⟩
theorem Xe8 : Xu Tryz.prog 67 [.list false []] .nils := by
  refine Xu.sym X4 fn67 (nt := 8) rfl rfl ?_ okM
  refine X3b [] ?_
  refine Xd.eqNil X4 (may := true) rfl rfl rfl rfl rfl rfl trivial (by simp [X3c]) fun b2 qb2 => ?_
  cases b2
  · exact X0a [.br false, .ne false] (k := fi)
  · exact X0a [.br true] (k := fi)
theorem fn68 : X5d Tryz.prog 68 Tryz.f68 (X3 Tryz.f68) := ⟨Tryz.func68, by kernel_rfl, rfl⟩
theorem Xe7 : Xu Tryz.prog 68 [.list false []] .nils := by
  refine Xu.sym X4 fn68 (nt := 8) rfl rfl ?_ okM
  refine X3b [] ?_
  refine Xd.eqNil X4 (may := true) rfl rfl rfl rfl rfl rfl trivial (by simp [X3c]) fun b2 qb2 => ?_
  cases b2
  · exact X0a [.br false, .ne false] (k := fi)
  · exact X0a [.br true] (k := fi)
theorem Xhj (z : Int) : ∀ (ks : List Int), X4l (.int .i64 z) (.bool true) (ks.map X8x) = (Xa9 ks z).map X8x := by
  intro ks
  unfold Xa9
  induction ks with
  | nil => simp [X4l, X8x]
  | cons a r ih =>
    simp only [List.map_cons, X8x, X4l]
    by_cases h : a = z
    · subst h; simp [X8x]
    · have h1 : ¬ (Value.int .i64 a = Value.int .i64 z) := by simpa using h
      rw [if_neg h1]
      have ih' : X4l (.int .i64 z) (.bool true) (r.map X8x) = (if z ∈ r then r else r ++ [z]).map X8x := ih
      rw [ih']
      have h2 : ¬ z = a := fun e => h e.symm
      by_cases hz : z ∈ r <;> simp [hz, h2, X8x]
theorem wkA {P : Prop} (h : P := by
  first
    | exact trivial
    | rfl
    | exact .sc
    | exact .list
    | exact .nils
    | assumption
    | (refine congrArg (fun z => AV.sc (Value.int IntKind.i64 z)) ?_; first | rfl | omega | assumption | (simp; done) | (simp; omega))
    | (simp [AV.ren, *]; done)) : P := h
theorem Xxj : X5d Tryz.prog 149 Tryz.f149 (X3 Tryz.f149) := ⟨Tryz.func149, by kernel_rfl, rfl⟩
theorem tmD : X1h Tryz.prog Xam.find /\ Tryz.prog.follows .mixedOrders = true := ⟨X4, by kernel_rfl⟩
theorem X4d {Q : Xc -> St -> Mu -> Prop} {μ : Mu} (b : Nat) (l : List Int) (hl : List.length l <= 140737488355328) : ∀ (xs : List Int) (k : Nat) (hx : l.drop k = xs) (ks : List Int)
    (C : Xd Tryz.prog 18 0 Q (.exit (.exit 0)) [] ⟨fr [(3, .sc (.map (some b)))], hp [], 0⟩ ((b, (X6k ks xs).map X8x) :: μ)),
    Xd Tryz.prog 18 0 Q (.loop (X6w 0 (X3 Tryz.f149))) [] ⟨fr [(3, .sc (.map (some b))), (7, AV.list false (List.map (aI .i64) l)), (8, aI .i64 (List.length l : Int)), (9, aI .i64 (k : Int))], hp [], 0⟩ ((b, ks.map X8x) :: μ) := by
  intro xs
  induction xs with
  | nil =>
    intro k hx ks C
    have hk := X3f hx
    have hc : decide ((k : Int) < (List.length l : Int)) = false := decide_eq_false (by omega)
    refine Xd.round ?_
    refine X4q tmD 4000 [.br false] rfl (by repeat' first | refine And.intro ?_ ?_ | exact hc | exact X6n) ?_
    exact Xd.weakTo [] C rfl (by repeat' first | refine And.intro ?_ ?_ | exact wkA) trivial
  | cons x xs ih =>
    intro k hx ks C
    obtain ⟨hk, hg, hx1⟩ := X2i hx
    have hc : decide ((k : Int) < (List.length l : Int)) = true := decide_eq_true (by omega)
    refine Xd.round ?_
    refine X4q tmD 4000 [.br true, .el (aI .i64 x)] rfl (by repeat' first | refine And.intro ?_ ?_ | exact hc | exact ixm hg | exact X6n) ?_
    refine Xd.mapUpd (d := .int .i64) X4 rfl rfl rfl rfl rfl Tryz.underlying2 rfl rfl rfl trivial trivial trivial rfl (by
      intro p hp; obtain ⟨z, _, rfl⟩ := List.mem_map.1 hp; rfl) ?_
    rw [Xhj]
    refine X4q tmD 4000 [] rfl (by repeat' first | refine And.intro ?_ ?_ | exact X6n) ?_
    exact Xd.weakTo [] (ih (k + 1) hx1 (Xa9 ks x) C) rfl (by repeat' first | refine And.intro ?_ ?_ | exact wkA) trivial
theorem X4c (a0 : (List Int)) (r : Int) (h : X1i a0 = some r) : Xu Tryz.prog 149 [(AV.list false (List.map (aI .i64) a0))] (aI .i64 r) := by
  refine Xu.sym X4 Xxj (nt := 18) rfl rfl ?_ (X0o .list X35)
  unfold X1i at h
  refine X94 h ?_
  clear h; intro u h1 h
  have q1 := X3d h1
  obtain rfl := Option.some.inj h
  refine X4q tmD 4000 [] rfl (by repeat' first | refine And.intro ?_ ?_ | exact X6n) ?_
  refine Xd.mapNew rfl rfl rfl fun b => ?_
  refine X4q tmD 4000 [] rfl (by repeat' first | refine And.intro ?_ ?_ | exact X6n) ?_
  refine Xd.weakTo [] (Xd.cut (X4d b a0 q1 a0 0 (by simp) [] ?_)) rfl (by repeat' first | refine And.intro ?_ ?_ | exact wkA) trivial
  refine Xd.glue ?_
  refine X4q tmD 4000 [] rfl (by repeat' first | refine And.intro ?_ ?_ | exact X6n) ?_
  refine Xd.mapLen X4 rfl rfl rfl rfl rfl rfl trivial ?_
  rw [List.length_map]
  refine X4q tmD 4000 [] rfl (by repeat' first | refine And.intro ?_ ?_ | exact X6n) ?_
  refine X72 rfl ?_
  exact .sc
theorem Xe3 (l : List Int) (h : List.length l <= 1000) : Xu Tryz.prog 149 [.list false (l.map (aI .i64))] (aI .i64 ((X6k [] l).length : Int)) := X4c l _ (by unfold X1i X5p; rw [if_pos (by omega)]; rfl)
theorem m5 : Xu Tryz.prog 149 Xsb Xrx := Xe3 [0] (by simp)
theorem m6 : Xu Tryz.prog 43 Xsa Xrw := Xee
theorem m8 : Xu Tryz.prog 74 Xs9 Xrv := X8z.ok ⟨[⟨(1), (0)⟩, ⟨(2), (0)⟩, ⟨(4), (0)⟩, ⟨(6), (0)⟩], [⟨(0), (0), (1), (0), (1)⟩, ⟨(1), (0), (2), (0), (1)⟩, ⟨(2), (0), (3), (0), (1)⟩]⟩ [0, 1, 2, 3] (by kernel_rfl)
theorem m18 : Xu Tryz.prog 66 Xen Xdn := Xe9
theorem m19 : Xu Tryz.prog 67 Xem Xdm := Xe8
theorem m24 : Xu Tryz.prog 62 Xel Xdl := Xed
theorem m25 : Xu Tryz.prog 63 Xek Xdk := Xec
theorem m26 : Xu Tryz.prog 64 Xej Xdj := Xeb
theorem m27 : Xu Tryz.prog 65 Xei Xdi := Xea
theorem m28 : Xu Tryz.prog 68 Xeh Xdh := Xe7
noncomputable def M0 : Tab Xbl := (.node 66 [(Xen, Xdn)] (.node 63 [(Xek, Xdk)] (.node 62 [(Xel, Xdl)] (.node 43 [(Xsa, Xrw)] .leaf .leaf) .leaf) (.node 65 [(Xei, Xdi)] (.node 64 [(Xej, Xdj)] .leaf .leaf) .leaf)) (.node 74 [(Xs9, Xrv)] (.node 68 [(Xeh, Xdh)] (.node 67 [(Xem, Xdm)] .leaf .leaf) .leaf) (.node 149 [(Xsb, Xrx)] .leaf .leaf)))
theorem X09 : X6m Tryz.prog M0.find := X3t ⟨⟨m18, trivial⟩, ⟨⟨m25, trivial⟩, ⟨⟨m24, trivial⟩, ⟨⟨m6, trivial⟩, trivial, trivial⟩, trivial⟩, ⟨⟨m27, trivial⟩, ⟨⟨m26, trivial⟩, trivial, trivial⟩, trivial⟩⟩, ⟨⟨m8, trivial⟩, ⟨⟨m28, trivial⟩, ⟨⟨m19, trivial⟩, trivial, trivial⟩, trivial⟩, ⟨⟨m5, trivial⟩, trivial, trivial⟩⟩⟩
theorem m0 : Xu Tryz.prog 163 Xvh Xtj := X6 X8 X0t X4 X9 X09 (fuel := 3000) (d := 200) (by kernel_rfl)
theorem m1 : Xu Tryz.prog 163 Xvg Xti := X6 X8 X0t X4 X9 X09 (fuel := 3000) (d := 200) (by kernel_rfl)
theorem m2 : Xu Tryz.prog 163 Xvf Xth := X6 X8 X0t X4 X9 X09 (fuel := 3000) (d := 200) (by kernel_rfl)
theorem m7 : Xu Tryz.prog 24 Xve Xtg := X6 X8 X0t X4 X9 X09 (fuel := 3000) (d := 200) (by kernel_rfl)
theorem m9 : Xu Tryz.prog 77 Xvb Xtd := X6 X8 X0t X4 X9 X09 (fuel := 3000) (d := 200) (by kernel_rfl)
theorem m10 : Xu Tryz.prog 78 Xkk Xh5 := X6 X8 X0t X4 X9 X09 (fuel := 3000) (d := 200) (by kernel_rfl)
theorem m11 : Xu Tryz.prog 77 Xkj Xh4 := X6 X8 X0t X4 X9 X09 (fuel := 3000) (d := 200) (by kernel_rfl)
theorem m12 : Xu Tryz.prog 78 Xki Xh3 := X6 X8 X0t X4 X9 X09 (fuel := 3000) (d := 200) (by kernel_rfl)
theorem m13 : Xu Tryz.prog 77 Xkh Xh2 := X6 X8 X0t X4 X9 X09 (fuel := 3000) (d := 200) (by kernel_rfl)
theorem m14 : Xu Tryz.prog 78 Xkg Xh1 := X6 X8 X0t X4 X9 X09 (fuel := 3000) (d := 200) (by kernel_rfl)
theorem m15 : Xu Tryz.prog 77 Xkf Xh0 := X6 X8 X0t X4 X9 X09 (fuel := 3000) (d := 200) (by kernel_rfl)
theorem m16 : Xu Tryz.prog 78 Xke Xgz := X6 X8 X0t X4 X9 X09 (fuel := 3000) (d := 200) (by kernel_rfl)
theorem m20 : Xu Tryz.prog 102 Xkd Xgy := X6 X8 X0t X4 X9 X09 (fuel := 3000) (d := 200) (by kernel_rfl)
theorem m21 : Xu Tryz.prog 102 Xkc Xgx := X6 X8 X0t X4 X9 X09 (fuel := 3000) (d := 200) (by kernel_rfl)
theorem m22 : Xu Tryz.prog 102 Xkb Xgw := X6 X8 X0t X4 X9 X09 (fuel := 3000) (d := 200) (by kernel_rfl)
theorem m23 : Xu Tryz.prog 102 Xka Xgv := X6 X8 X0t X4 X9 X09 (fuel := 3000) (d := 200) (by kernel_rfl)
theorem m29 : Xu Tryz.prog 100 Xk9 Xgu := X6 X8 X0t X4 X9 X09 (fuel := 3000) (d := 200) (by kernel_rfl)
theorem m31 : Xu Tryz.prog 102 Xk8 Xgt := X6 X8 X0t X4 X9 X09 (fuel := 3000) (d := 200) (by kernel_rfl)
theorem m32 : Xu Tryz.prog 102 Xk7 Xgs := X6 X8 X0t X4 X9 X09 (fuel := 3000) (d := 200) (by kernel_rfl)
theorem m33 : Xu Tryz.prog 102 Xk6 Xgr := X6 X8 X0t X4 X9 X09 (fuel := 3000) (d := 200) (by kernel_rfl)
theorem m34 : Xu Tryz.prog 102 Xk5 Xgq := X6 X8 X0t X4 X9 X09 (fuel := 3000) (d := 200) (by kernel_rfl)
theorem m37 : Xu Tryz.prog 102 Xk4 Xgp := X6 X8 X0t X4 X9 X09 (fuel := 3000) (d := 200) (by kernel_rfl)
theorem m38 : Xu Tryz.prog 102 Xk3 Xgo := X6 X8 X0t X4 X9 X09 (fuel := 3000) (d := 200) (by kernel_rfl)
theorem m39 : Xu Tryz.prog 102 Xk2 Xgn := X6 X8 X0t X4 X9 X09 (fuel := 3000) (d := 200) (by kernel_rfl)
theorem m40 : Xu Tryz.prog 102 Xk1 Xgm := X6 X8 X0t X4 X9 X09 (fuel := 3000) (d := 200) (by kernel_rfl)
theorem m43 : Xu Tryz.prog 102 Xk0 Xgl := X6 X8 X0t X4 X9 X09 (fuel := 3000) (d := 200) (by kernel_rfl)
theorem m44 : Xu Tryz.prog 102 Xjz Xgk := X6 X8 X0t X4 X9 X09 (fuel := 3000) (d := 200) (by kernel_rfl)
theorem m45 : Xu Tryz.prog 102 Xjy Xgj := X6 X8 X0t X4 X9 X09 (fuel := 3000) (d := 200) (by kernel_rfl)
theorem m46 : Xu Tryz.prog 102 Xjx Xgi := X6 X8 X0t X4 X9 X09 (fuel := 3000) (d := 200) (by kernel_rfl)
theorem m49 : Xu Tryz.prog 102 Xjw Xgh := X6 X8 X0t X4 X9 X09 (fuel := 3000) (d := 200) (by kernel_rfl)
theorem m50 : Xu Tryz.prog 102 Xjv Xgg := X6 X8 X0t X4 X9 X09 (fuel := 3000) (d := 200) (by kernel_rfl)
theorem m51 : Xu Tryz.prog 102 Xju Xgf := X6 X8 X0t X4 X9 X09 (fuel := 3000) (d := 200) (by kernel_rfl)
theorem m54 : Xu Tryz.prog 102 Xjt Xge := X6 X8 X0t X4 X9 X09 (fuel := 3000) (d := 200) (by kernel_rfl)
theorem m55 : Xu Tryz.prog 102 Xjs Xgd := X6 X8 X0t X4 X9 X09 (fuel := 3000) (d := 200) (by kernel_rfl)
theorem m56 : Xu Tryz.prog 102 Xjr Xgc := X6 X8 X0t X4 X9 X09 (fuel := 3000) (d := 200) (by kernel_rfl)
theorem m57 : Xu Tryz.prog 102 Xjq Xgb := X6 X8 X0t X4 X9 X09 (fuel := 3000) (d := 200) (by kernel_rfl)
theorem m58 : Xu Tryz.prog 100 Xjp Xga := X6 X8 X0t X4 X9 X09 (fuel := 3000) (d := 200) (by kernel_rfl)
theorem m60 : Xu Tryz.prog 102 Xjo Xg9 := X6 X8 X0t X4 X9 X09 (fuel := 3000) (d := 200) (by kernel_rfl)
theorem m61 : Xu Tryz.prog 102 Xjn Xg8 := X6 X8 X0t X4 X9 X09 (fuel := 3000) (d := 200) (by kernel_rfl)
theorem m62 : Xu Tryz.prog 102 Xjm Xg7 := X6 X8 X0t X4 X9 X09 (fuel := 3000) (d := 200) (by kernel_rfl)
theorem m63 : Xu Tryz.prog 102 Xjl Xg6 := X6 X8 X0t X4 X9 X09 (fuel := 3000) (d := 200) (by kernel_rfl)
theorem m66 : Xu Tryz.prog 102 Xjk Xg5 := X6 X8 X0t X4 X9 X09 (fuel := 3000) (d := 200) (by kernel_rfl)
theorem m67 : Xu Tryz.prog 102 Xjj Xg4 := X6 X8 X0t X4 X9 X09 (fuel := 3000) (d := 200) (by kernel_rfl)
theorem m68 : Xu Tryz.prog 102 Xji Xg3 := X6 X8 X0t X4 X9 X09 (fuel := 3000) (d := 200) (by kernel_rfl)
theorem m69 : Xu Tryz.prog 102 Xjh Xg2 := X6 X8 X0t X4 X9 X09 (fuel := 3000) (d := 200) (by kernel_rfl)
theorem m72 : Xu Tryz.prog 102 Xjg Xg1 := X6 X8 X0t X4 X9 X09 (fuel := 3000) (d := 200) (by kernel_rfl)
theorem m73 : Xu Tryz.prog 102 Xjf Xg0 := X6 X8 X0t X4 X9 X09 (fuel := 3000) (d := 200) (by kernel_rfl)
theorem m74 : Xu Tryz.prog 102 Xje Xfz := X6 X8 X0t X4 X9 X09 (fuel := 3000) (d := 200) (by kernel_rfl)
theorem m75 : Xu Tryz.prog 102 Xjd Xfy := X6 X8 X0t X4 X9 X09 (fuel := 3000) (d := 200) (by kernel_rfl)
theorem m79 : Xu Tryz.prog 102 Xjc Xfx := X6 X8 X0t X4 X9 X09 (fuel := 3000) (d := 200) (by kernel_rfl)
theorem m80 : Xu Tryz.prog 102 Xjb Xfw := X6 X8 X0t X4 X9 X09 (fuel := 3000) (d := 200) (by kernel_rfl)
theorem m81 : Xu Tryz.prog 102 Xja Xfv := X6 X8 X0t X4 X9 X09 (fuel := 3000) (d := 200) (by kernel_rfl)
theorem m82 : Xu Tryz.prog 176 Xj9 Xfu := X6 X8 X0t X4 X9 X09 (fuel := 3000) (d := 200) (by kernel_rfl)
theorem m86 : Xu Tryz.prog 102 Xj8 Xft := X6 X8 X0t X4 X9 X09 (fuel := 3000) (d := 200) (by kernel_rfl)
theorem m87 : Xu Tryz.prog 102 Xj7 Xfs := X6 X8 X0t X4 X9 X09 (fuel := 3000) (d := 200) (by kernel_rfl)
theorem m88 : Xu Tryz.prog 102 Xj6 Xfr := X6 X8 X0t X4 X9 X09 (fuel := 3000) (d := 200) (by kernel_rfl)
theorem m92 : Xu Tryz.prog 102 Xj5 Xfq := X6 X8 X0t X4 X9 X09 (fuel := 3000) (d := 200) (by kernel_rfl)
theorem m93 : Xu Tryz.prog 102 Xj4 Xfp := X6 X8 X0t X4 X9 X09 (fuel := 3000) (d := 200) (by kernel_rfl)
noncomputable def M1 : Tab Xbl := (.node 68 [(Xeh, Xdh)] (.node 64 [(Xej, Xdj)] (.node 62 [(Xel, Xdl)] (.node 43 [(Xsa, Xrw)] (.node 24 [(Xve, Xtg)] .leaf .leaf) .leaf) (.node 63 [(Xek, Xdk)] .leaf .leaf)) (.node 66 [(Xen, Xdn)] (.node 65 [(Xei, Xdi)] .leaf .leaf) (.node 67 [(Xem, Xdm)] .leaf .leaf))) (.node 102 [(Xkd, Xgy), (Xkc, Xgx), (Xkb, Xgw), (Xka, Xgv), (Xk8, Xgt), (Xk7, Xgs), (Xk6, Xgr), (Xk5, Xgq), (Xk4, Xgp), (Xk3, Xgo), (Xk2, Xgn), (Xk1, Xgm), (Xk0, Xgl), (Xjz, Xgk), (Xjy, Xgj), (Xjx, Xgi), (Xjw, Xgh), (Xjv, Xgg), (Xju, Xgf), (Xjt, Xge), (Xjs, Xgd), (Xjr, Xgc), (Xjq, Xgb), (Xjo, Xg9), (Xjn, Xg8), (Xjm, Xg7), (Xjl, Xg6), (Xjk, Xg5), (Xjj, Xg4), (Xji, Xg3), (Xjh, Xg2), (Xjg, Xg1), (Xjf, Xg0), (Xje, Xfz), (Xjd, Xfy), (Xjc, Xfx), (Xjb, Xfw), (Xja, Xfv), (Xj8, Xft), (Xj7, Xfs), (Xj6, Xfr), (Xj5, Xfq), (Xj4, Xfp)] (.node 78 [(Xkk, Xh5), (Xki, Xh3), (Xkg, Xh1), (Xke, Xgz)] (.node 77 [(Xvb, Xtd), (Xkj, Xh4), (Xkh, Xh2), (Xkf, Xh0)] (.node 74 [(Xs9, Xrv)] .leaf .leaf) .leaf) (.node 100 [(Xk9, Xgu), (Xjp, Xga)] .leaf .leaf)) (.node 163 [(Xvh, Xtj), (Xvg, Xti), (Xvf, Xth)] (.node 149 [(Xsb, Xrx)] .leaf .leaf) (.node 176 [(Xj9, Xfu)] .leaf .leaf))))
theorem X2o : X6m Tryz.prog M1.find := X3t ⟨⟨m28, trivial⟩, ⟨⟨m26, trivial⟩, ⟨⟨m24, trivial⟩, ⟨⟨m6, trivial⟩, ⟨⟨m7, trivial⟩, trivial, trivial⟩, trivial⟩, ⟨⟨m25, trivial⟩, trivial, trivial⟩⟩, ⟨⟨m18, trivial⟩, ⟨⟨m27, trivial⟩, trivial, trivial⟩, ⟨⟨m19, trivial⟩, trivial, trivial⟩⟩⟩, ⟨⟨m20, m21, m22, m23, m31, m32, m33, m34, m37, m38, m39, m40, m43, m44, m45, m46, m49, m50, m51, m54, m55, m56, m57, m60, m61, m62, m63, m66, m67, m68, m69, m72, m73, m74, m75, m79, m80, m81, m86, m87, m88, m92, m93, trivial⟩, ⟨⟨m10, m12, m14, m16, trivial⟩, ⟨⟨m9, m11, m13, m15, trivial⟩, ⟨⟨m8, trivial⟩, trivial, trivial⟩, trivial⟩, ⟨⟨m29, m58, trivial⟩, trivial, trivial⟩⟩, ⟨⟨m0, m1, m2, trivial⟩, ⟨⟨m5, trivial⟩, trivial, trivial⟩, ⟨⟨m82, trivial⟩, trivial, trivial⟩⟩⟩⟩
theorem m3 : Xu Tryz.prog 86 Xw2 Xvt := X6 X8 X0t X4 X9 X2o (fuel := 3000) (d := 200) (by kernel_rfl)
theorem m17 : Xu Tryz.prog 20 Xnr Xlu := X6 X8 X0t X4 X9 X2o (fuel := 3000) (d := 200) (by kernel_rfl)
theorem m30 : Xu Tryz.prog 20 Xnq Xlt := X6 X8 X0t X4 X9 X2o (fuel := 3000) (d := 200) (by kernel_rfl)
theorem m35 : Xu Tryz.prog 100 Xnp Xls := X6 X8 X0t X4 X9 X2o (fuel := 3000) (d := 200) (by kernel_rfl)
theorem m36 : Xu Tryz.prog 20 Xno Xlr := X6 X8 X0t X4 X9 X2o (fuel := 3000) (d := 200) (by kernel_rfl)
theorem m41 : Xu Tryz.prog 103 Xnn Xlq := X6 X8 X0t X4 X9 X2o (fuel := 3000) (d := 200) (by kernel_rfl)
theorem m42 : Xu Tryz.prog 20 Xnm Xlp := X6 X8 X0t X4 X9 X2o (fuel := 3000) (d := 200) (by kernel_rfl)
theorem m47 : Xu Tryz.prog 100 Xnl Xlo := X6 X8 X0t X4 X9 X2o (fuel := 3000) (d := 200) (by kernel_rfl)
theorem m48 : Xu Tryz.prog 20 Xnk Xln := X6 X8 X0t X4 X9 X2o (fuel := 3000) (d := 200) (by kernel_rfl)
theorem m52 : Xu Tryz.prog 103 Xnj Xlm := X6 X8 X0t X4 X9 X2o (fuel := 3000) (d := 200) (by kernel_rfl)
theorem m53 : Xu Tryz.prog 20 Xni Xll := X6 X8 X0t X4 X9 X2o (fuel := 3000) (d := 200) (by kernel_rfl)
theorem m59 : Xu Tryz.prog 20 Xnh Xlk := X6 X8 X0t X4 X9 X2o (fuel := 3000) (d := 200) (by kernel_rfl)
theorem m64 : Xu Tryz.prog 100 Xng Xlj := X6 X8 X0t X4 X9 X2o (fuel := 3000) (d := 200) (by kernel_rfl)
theorem m65 : Xu Tryz.prog 20 Xnf Xli := X6 X8 X0t X4 X9 X2o (fuel := 3000) (d := 200) (by kernel_rfl)
theorem m70 : Xu Tryz.prog 103 Xne Xlh := X6 X8 X0t X4 X9 X2o (fuel := 3000) (d := 200) (by kernel_rfl)
theorem m71 : Xu Tryz.prog 20 Xnd Xlg := X6 X8 X0t X4 X9 X2o (fuel := 3000) (d := 200) (by kernel_rfl)
theorem m76 : Xu Tryz.prog 100 Xnc Xlf := X6 X8 X0t X4 X9 X2o (fuel := 3000) (d := 200) (by kernel_rfl)
theorem m78 : Xu Tryz.prog 20 Xnb Xle := X6 X8 X0t X4 X9 X2o (fuel := 3000) (d := 200) (by kernel_rfl)
theorem m83 : Xu Tryz.prog 103 Xna Xld := X6 X8 X0t X4 X9 X2o (fuel := 3000) (d := 200) (by kernel_rfl)
theorem m85 : Xu Tryz.prog 20 Xn9 Xlc := X6 X8 X0t X4 X9 X2o (fuel := 3000) (d := 200) (by kernel_rfl)
theorem m89 : Xu Tryz.prog 100 Xn8 Xlb := X6 X8 X0t X4 X9 X2o (fuel := 3000) (d := 200) (by kernel_rfl)
theorem m91 : Xu Tryz.prog 20 Xn7 Xla := X6 X8 X0t X4 X9 X2o (fuel := 3000) (d := 200) (by kernel_rfl)
theorem m94 : Xu Tryz.prog 103 Xn6 Xl9 := X6 X8 X0t X4 X9 X2o (fuel := 3000) (d := 200) (by kernel_rfl)
theorem m96 : Xu Tryz.prog 20 Xn5 Xl8 := X6 X8 X0t X4 X9 X2o (fuel := 3000) (d := 200) (by kernel_rfl)
noncomputable def M2 : Tab Xbl := (.node 74 [(Xs9, Xrv)] (.node 64 [(Xej, Xdj)] (.node 43 [(Xsa, Xrw)] (.node 24 [(Xve, Xtg)] (.node 20 [(Xnr, Xlu), (Xnq, Xlt), (Xno, Xlr), (Xnm, Xlp), (Xnk, Xln), (Xni, Xll), (Xnh, Xlk), (Xnf, Xli), (Xnd, Xlg), (Xnb, Xle), (Xn9, Xlc), (Xn7, Xla), (Xn5, Xl8)] .leaf .leaf) .leaf) (.node 63 [(Xek, Xdk)] (.node 62 [(Xel, Xdl)] .leaf .leaf) .leaf)) (.node 67 [(Xem, Xdm)] (.node 66 [(Xen, Xdn)] (.node 65 [(Xei, Xdi)] .leaf .leaf) .leaf) (.node 68 [(Xeh, Xdh)] .leaf .leaf))) (.node 102 [(Xkd, Xgy), (Xkc, Xgx), (Xkb, Xgw), (Xka, Xgv), (Xk8, Xgt), (Xk7, Xgs), (Xk6, Xgr), (Xk5, Xgq), (Xk4, Xgp), (Xk3, Xgo), (Xk2, Xgn), (Xk1, Xgm), (Xk0, Xgl), (Xjz, Xgk), (Xjy, Xgj), (Xjx, Xgi), (Xjw, Xgh), (Xjv, Xgg), (Xju, Xgf), (Xjt, Xge), (Xjs, Xgd), (Xjr, Xgc), (Xjq, Xgb), (Xjo, Xg9), (Xjn, Xg8), (Xjm, Xg7), (Xjl, Xg6), (Xjk, Xg5), (Xjj, Xg4), (Xji, Xg3), (Xjh, Xg2), (Xjg, Xg1), (Xjf, Xg0), (Xje, Xfz), (Xjd, Xfy), (Xjc, Xfx), (Xjb, Xfw), (Xja, Xfv), (Xj8, Xft), (Xj7, Xfs), (Xj6, Xfr), (Xj5, Xfq), (Xj4, Xfp)] (.node 86 [(Xw2, Xvt)] (.node 78 [(Xkk, Xh5), (Xki, Xh3), (Xkg, Xh1), (Xke, Xgz)] (.node 77 [(Xvb, Xtd), (Xkj, Xh4), (Xkh, Xh2), (Xkf, Xh0)] .leaf .leaf) .leaf) (.node 100 [(Xk9, Xgu), (Xjp, Xga), (Xnp, Xls), (Xnl, Xlo), (Xng, Xlj), (Xnc, Xlf), (Xn8, Xlb)] .leaf .leaf)) (.node 163 [(Xvh, Xtj), (Xvg, Xti), (Xvf, Xth)] (.node 149 [(Xsb, Xrx)] (.node 103 [(Xnn, Xlq), (Xnj, Xlm), (Xne, Xlh), (Xna, Xld), (Xn6, Xl9)] .leaf .leaf) .leaf) (.node 176 [(Xj9, Xfu)] .leaf .leaf))))
theorem Xy6 : X6m Tryz.prog M2.find := X3t ⟨⟨m8, trivial⟩, ⟨⟨m26, trivial⟩, ⟨⟨m6, trivial⟩, ⟨⟨m7, trivial⟩, ⟨⟨m17, m30, m36, m42, m48, m53, m59, m65, m71, m78, m85, m91, m96, trivial⟩, trivial, trivial⟩, trivial⟩, ⟨⟨m25, trivial⟩, ⟨⟨m24, trivial⟩, trivial, trivial⟩, trivial⟩⟩, ⟨⟨m19, trivial⟩, ⟨⟨m18, trivial⟩, ⟨⟨m27, trivial⟩, trivial, trivial⟩, trivial⟩, ⟨⟨m28, trivial⟩, trivial, trivial⟩⟩⟩, ⟨⟨m20, m21, m22, m23, m31, m32, m33, m34, m37, m38, m39, m40, m43, m44, m45, m46, m49, m50, m51, m54, m55, m56, m57, m60, m61, m62, m63, m66, m67, m68, m69, m72, m73, m74, m75, m79, m80, m81, m86, m87, m88, m92, m93, trivial⟩, ⟨⟨m3, trivial⟩, ⟨⟨m10, m12, m14, m16, trivial⟩, ⟨⟨m9, m11, m13, m15, trivial⟩, trivial, trivial⟩, trivial⟩, ⟨⟨m29, m58, m35, m47, m64, m76, m89, trivial⟩, trivial, trivial⟩⟩, ⟨⟨m0, m1, m2, trivial⟩, ⟨⟨m5, trivial⟩, ⟨⟨m41, m52, m70, m83, m94, trivial⟩, trivial, trivial⟩, trivial⟩, ⟨⟨m82, trivial⟩, trivial, trivial⟩⟩⟩⟩
theorem m4 : Xu Tryz.prog 39 Xy2 Xwi := X6 X8 X0t X4 X9 Xy6 (fuel := 3000) (d := 200) (by kernel_rfl)
noncomputable def M3 : Tab Xbl := (.node 68 [(Xeh, Xdh)] (.node 63 [(Xek, Xdk)] (.node 39 [(Xy2, Xwi)] (.node 24 [(Xve, Xtg)] (.node 20 [(Xnr, Xlu), (Xnq, Xlt), (Xno, Xlr), (Xnm, Xlp), (Xnk, Xln), (Xni, Xll), (Xnh, Xlk), (Xnf, Xli), (Xnd, Xlg), (Xnb, Xle), (Xn9, Xlc), (Xn7, Xla), (Xn5, Xl8)] .leaf .leaf) .leaf) (.node 62 [(Xel, Xdl)] (.node 43 [(Xsa, Xrw)] .leaf .leaf) .leaf)) (.node 66 [(Xen, Xdn)] (.node 65 [(Xei, Xdi)] (.node 64 [(Xej, Xdj)] .leaf .leaf) .leaf) (.node 67 [(Xem, Xdm)] .leaf .leaf))) (.node 102 [(Xkd, Xgy), (Xkc, Xgx), (Xkb, Xgw), (Xka, Xgv), (Xk8, Xgt), (Xk7, Xgs), (Xk6, Xgr), (Xk5, Xgq), (Xk4, Xgp), (Xk3, Xgo), (Xk2, Xgn), (Xk1, Xgm), (Xk0, Xgl), (Xjz, Xgk), (Xjy, Xgj), (Xjx, Xgi), (Xjw, Xgh), (Xjv, Xgg), (Xju, Xgf), (Xjt, Xge), (Xjs, Xgd), (Xjr, Xgc), (Xjq, Xgb), (Xjo, Xg9), (Xjn, Xg8), (Xjm, Xg7), (Xjl, Xg6), (Xjk, Xg5), (Xjj, Xg4), (Xji, Xg3), (Xjh, Xg2), (Xjg, Xg1), (Xjf, Xg0), (Xje, Xfz), (Xjd, Xfy), (Xjc, Xfx), (Xjb, Xfw), (Xja, Xfv), (Xj8, Xft), (Xj7, Xfs), (Xj6, Xfr), (Xj5, Xfq), (Xj4, Xfp)] (.node 78 [(Xkk, Xh5), (Xki, Xh3), (Xkg, Xh1), (Xke, Xgz)] (.node 77 [(Xvb, Xtd), (Xkj, Xh4), (Xkh, Xh2), (Xkf, Xh0)] (.node 74 [(Xs9, Xrv)] .leaf .leaf) .leaf) (.node 100 [(Xk9, Xgu), (Xjp, Xga), (Xnp, Xls), (Xnl, Xlo), (Xng, Xlj), (Xnc, Xlf), (Xn8, Xlb)] (.node 86 [(Xw2, Xvt)] .leaf .leaf) .leaf)) (.node 163 [(Xvh, Xtj), (Xvg, Xti), (Xvf, Xth)] (.node 149 [(Xsb, Xrx)] (.node 103 [(Xnn, Xlq), (Xnj, Xlm), (Xne, Xlh), (Xna, Xld), (Xn6, Xl9)] .leaf .leaf) .leaf) (.node 176 [(Xj9, Xfu)] .leaf .leaf))))
theorem Xnv : X6m Tryz.prog M3.find := X3t ⟨⟨m28, trivial⟩, ⟨⟨m25, trivial⟩, ⟨⟨m4, trivial⟩, ⟨⟨m7, trivial⟩, ⟨⟨m17, m30, m36, m42, m48, m53, m59, m65, m71, m78, m85, m91, m96, trivial⟩, trivial, trivial⟩, trivial⟩, ⟨⟨m24, trivial⟩, ⟨⟨m6, trivial⟩, trivial, trivial⟩, trivial⟩⟩, ⟨⟨m18, trivial⟩, ⟨⟨m27, trivial⟩, ⟨⟨m26, trivial⟩, trivial, trivial⟩, trivial⟩, ⟨⟨m19, trivial⟩, trivial, trivial⟩⟩⟩, ⟨⟨m20, m21, m22, m23, m31, m32, m33, m34, m37, m38, m39, m40, m43, m44, m45, m46, m49, m50, m51, m54, m55, m56, m57, m60, m61, m62, m63, m66, m67, m68, m69, m72, m73, m74, m75, m79, m80, m81, m86, m87, m88, m92, m93, trivial⟩, ⟨⟨m10, m12, m14, m16, trivial⟩, ⟨⟨m9, m11, m13, m15, trivial⟩, ⟨⟨m8, trivial⟩, trivial, trivial⟩, trivial⟩, ⟨⟨m29, m58, m35, m47, m64, m76, m89, trivial⟩, ⟨⟨m3, trivial⟩, trivial, trivial⟩, trivial⟩⟩, ⟨⟨m0, m1, m2, trivial⟩, ⟨⟨m5, trivial⟩, ⟨⟨m41, m52, m70, m83, m94, trivial⟩, trivial, trivial⟩, trivial⟩, ⟨⟨m82, trivial⟩, trivial, trivial⟩⟩⟩⟩
theorem m77 : Xu Tryz.prog 31 Xvd Xtf := X6 X8 X0t X4 X9 Xnv (fuel := 3000) (d := 200) (by kernel_rfl)
theorem m84 : Xu Tryz.prog 31 Xvc Xte := X6 X8 X0t X4 X9 Xnv (fuel := 3000) (d := 200) (by kernel_rfl)
theorem m90 : Xu Tryz.prog 31 Xva Xtc := X6 X8 X0t X4 X9 Xnv (fuel := 3000) (d := 200) (by kernel_rfl)
theorem m95 : Xu Tryz.prog 31 Xv9 Xtb := X6 X8 X0t X4 X9 Xnv (fuel := 3000) (d := 200) (by kernel_rfl)
noncomputable def M4 : Tab Xbl := (.node 68 [(Xeh, Xdh)] (.node 62 [(Xel, Xdl)] (.node 31 [(Xvd, Xtf), (Xvc, Xte), (Xva, Xtc), (Xv9, Xtb)] (.node 24 [(Xve, Xtg)] (.node 20 [(Xnr, Xlu), (Xnq, Xlt), (Xno, Xlr), (Xnm, Xlp), (Xnk, Xln), (Xni, Xll), (Xnh, Xlk), (Xnf, Xli), (Xnd, Xlg), (Xnb, Xle), (Xn9, Xlc), (Xn7, Xla), (Xn5, Xl8)] .leaf .leaf) .leaf) (.node 43 [(Xsa, Xrw)] (.node 39 [(Xy2, Xwi)] .leaf .leaf) .leaf)) (.node 65 [(Xei, Xdi)] (.node 64 [(Xej, Xdj)] (.node 63 [(Xek, Xdk)] .leaf .leaf) .leaf) (.node 67 [(Xem, Xdm)] (.node 66 [(Xen, Xdn)] .leaf .leaf) .leaf))) (.node 102 [(Xkd, Xgy), (Xkc, Xgx), (Xkb, Xgw), (Xka, Xgv), (Xk8, Xgt), (Xk7, Xgs), (Xk6, Xgr), (Xk5, Xgq), (Xk4, Xgp), (Xk3, Xgo), (Xk2, Xgn), (Xk1, Xgm), (Xk0, Xgl), (Xjz, Xgk), (Xjy, Xgj), (Xjx, Xgi), (Xjw, Xgh), (Xjv, Xgg), (Xju, Xgf), (Xjt, Xge), (Xjs, Xgd), (Xjr, Xgc), (Xjq, Xgb), (Xjo, Xg9), (Xjn, Xg8), (Xjm, Xg7), (Xjl, Xg6), (Xjk, Xg5), (Xjj, Xg4), (Xji, Xg3), (Xjh, Xg2), (Xjg, Xg1), (Xjf, Xg0), (Xje, Xfz), (Xjd, Xfy), (Xjc, Xfx), (Xjb, Xfw), (Xja, Xfv), (Xj8, Xft), (Xj7, Xfs), (Xj6, Xfr), (Xj5, Xfq), (Xj4, Xfp)] (.node 78 [(Xkk, Xh5), (Xki, Xh3), (Xkg, Xh1), (Xke, Xgz)] (.node 77 [(Xvb, Xtd), (Xkj, Xh4), (Xkh, Xh2), (Xkf, Xh0)] (.node 74 [(Xs9, Xrv)] .leaf .leaf) .leaf) (.node 100 [(Xk9, Xgu), (Xjp, Xga), (Xnp, Xls), (Xnl, Xlo), (Xng, Xlj), (Xnc, Xlf), (Xn8, Xlb)] (.node 86 [(Xw2, Xvt)] .leaf .leaf) .leaf)) (.node 163 [(Xvh, Xtj), (Xvg, Xti), (Xvf, Xth)] (.node 149 [(Xsb, Xrx)] (.node 103 [(Xnn, Xlq), (Xnj, Xlm), (Xne, Xlh), (Xna, Xld), (Xn6, Xl9)] .leaf .leaf) .leaf) (.node 176 [(Xj9, Xfu)] .leaf .leaf))))
theorem Xy5 : X6m Tryz.prog M4.find := X3t ⟨⟨m28, trivial⟩, ⟨⟨m24, trivial⟩, ⟨⟨m77, m84, m90, m95, trivial⟩, ⟨⟨m7, trivial⟩, ⟨⟨m17, m30, m36, m42, m48, m53, m59, m65, m71, m78, m85, m91, m96, trivial⟩, trivial, trivial⟩, trivial⟩, ⟨⟨m6, trivial⟩, ⟨⟨m4, trivial⟩, trivial, trivial⟩, trivial⟩⟩, ⟨⟨m27, trivial⟩, ⟨⟨m26, trivial⟩, ⟨⟨m25, trivial⟩, trivial, trivial⟩, trivial⟩, ⟨⟨m19, trivial⟩, ⟨⟨m18, trivial⟩, trivial, trivial⟩, trivial⟩⟩⟩, ⟨⟨m20, m21, m22, m23, m31, m32, m33, m34, m37, m38, m39, m40, m43, m44, m45, m46, m49, m50, m51, m54, m55, m56, m57, m60, m61, m62, m63, m66, m67, m68, m69, m72, m73, m74, m75, m79, m80, m81, m86, m87, m88, m92, m93, trivial⟩, ⟨⟨m10, m12, m14, m16, trivial⟩, ⟨⟨m9, m11, m13, m15, trivial⟩, ⟨⟨m8, trivial⟩, trivial, trivial⟩, trivial⟩, ⟨⟨m29, m58, m35, m47, m64, m76, m89, trivial⟩, ⟨⟨m3, trivial⟩, trivial, trivial⟩, trivial⟩⟩, ⟨⟨m0, m1, m2, trivial⟩, ⟨⟨m5, trivial⟩, ⟨⟨m41, m52, m70, m83, m94, trivial⟩, trivial, trivial⟩, trivial⟩, ⟨⟨m82, trivial⟩, trivial, trivial⟩⟩⟩⟩
theorem m97 : Xu Tryz.prog 5 Xy1 Xwh := X6 X8 X0t X4 X9 Xy5 (fuel := 3000) (d := 200) (by kernel_rfl)
end Go.Av.TryzM
