/- PairAgree: for every input the call returns true, and its arguments read as they did. -/
import Derived.Test.YtmmmcpeickfolaaYaA16
import Derived.Test.YtmmmcpeickfolaaYaA22
import Derived.Test.YtmmmcpeickfolaaYaA23
import Derived.Test.YtmmmcpeickfolaaYaA10
import Derived.KernelRfl
import Derived.Test.YtmmmcpeickfolaaYaA18
import Derived.Test.YtmmmcpeickfolaaYaA12
import Derived.Test.YtmmmcpeickfolaaRows
set_option linter.all false
namespace Go.Proofs.Ytmmmcpeickfolaa
open Go.RowKit
set_option maxRecDepth 1000000
set_option maxHeartbeats 4000000
def gc25:BCode:=(.seq (R_ 0 [O_ 0 (.mv (b_ false)) 0]) (.seq (R_ 1 [O_ 15 (.bd [(.lit (.string ⟨#[]⟩)),(.lit (.string ⟨#[]⟩))] [(0,1,(.const (.string ⟨#[97,64,120]⟩))),(1,1,(.const (.string ⟨#[98,64,120]⟩)))]) 0,O_ 1 (.al (.agg [(.lit (.string ⟨#[]⟩)),(.lit (.string ⟨#[]⟩))])) 0,U_ (.st 2 (t_ 1) (t_ 15)) 1]) (.seq (R_ 2 [O_ 17 (.ld 2 true (t_ 1)) 0,O_ 18 (.bd [(.lit (.int .i64 0)),(.lit (.int .i64 0)),(.sl [] true),(.sl [] true),(.lit (.int .i64 0)),(.lit (.int .i64 0)),(.sl [] true),(.sl [] true)] []) 0,O_ 19 (.bd [(.lit (.int .u8 0)),(.lit (.bool false))] [(0,1,(.const (.int .u8 7)))]) 0,O_ 20 (.bd [(.lit (.int .u8 0)),(.lit (.bool false))] [(0,1,(.const (.int .u8 8))),(1,1,(b_ true))]) 0,O_ 21 (.bd [(.lit (.int .u8 0)),(.lit (.bool false))] [(0,1,(.const (.int .u8 8)))]) 0,O_ 22 (.bs 2 3 [(.lit (.int .u8 0)),(.lit (.bool false)),(.lit (.int .u8 0)),(.lit (.bool false)),(.lit (.int .u8 0)),(.lit (.bool false))] [(0,(t_ 19)),(1,(t_ 20)),(2,(t_ 21))]) 0,O_ 23 (.cl 59 [(t_ 17),(t_ 18),(t_ 22)]) 1,O_ 16 (.mv (t_ 23)) 1,O_ 24 (.ex (t_ 16) 0) 1,O_ 25 (.ex (t_ 16) 1) 1,O_ 2 (.al (.agg [(.lit (.int .i64 0)),(.lit (.int .i64 0)),(.sl [] true),(.sl [] true),(.lit (.int .i64 0)),(.lit (.int .i64 0)),(.sl [] true),(.sl [] true)])) 1,U_ (.st 8 (t_ 2) (t_ 24)) 2,O_ 3 (.mv (t_ 25)) 2]) (.seq (R_ 2 [O_ 27 (.ld 2 true (t_ 1)) 0,O_ 28 (.ld 8 true (t_ 2)) 0,O_ 29 (.cl 27 [(t_ 27),(t_ 28)]) 0,O_ 26 (.mv (t_ 29)) 0,O_ 30 (.ex (t_ 26) 0) 0,O_ 31 (.ex (t_ 26) 1) 0,O_ 32 (.ex (t_ 26) 2) 0,O_ 4 (.al (.agg [(.lit (.int .i64 0)),(.lit (.int .i64 0)),(.sl [] true),(.sl [] true),(.lit (.int .i64 0)),(.lit (.int .i64 0)),(.sl [] true),(.sl [] true)])) 0,O_ 5 (.al (.agg [(.lit (.bool false)),(.lit (.bool false))])) 1,U_ (.st 8 (t_ 4) (t_ 30)) 2,U_ (.st 2 (t_ 5) (t_ 31)) 2,O_ 6 (.mv (t_ 32)) 2]) (.seq (R_ 2 [O_ 34 (.ld 2 true (t_ 1)) 0,O_ 35 (.ld 8 true (t_ 2)) 0,O_ 36 (.cl 26 [(t_ 34),(t_ 35)]) 0,O_ 33 (.mv (t_ 36)) 0,O_ 37 (.ex (t_ 33) 0) 0,O_ 38 (.ex (t_ 33) 1) 0,O_ 7 (.al (.agg [(.lit (.string ⟨#[]⟩)),(.lit (.string ⟨#[]⟩))])) 0,O_ 8 (.al (.agg [(.lit (.int .i64 0)),(.lit (.int .i64 0)),(.sl [] true),(.sl [] true),(.lit (.int .i64 0)),(.lit (.int .i64 0)),(.sl [] true),(.sl [] true)])) 1,U_ (.st 2 (t_ 7) (t_ 37)) 2,U_ (.st 8 (t_ 8) (t_ 38)) 2]) (.seq (R_ 2 [O_ 40 (.ld 2 true (t_ 1)) 0,O_ 41 (.ld 8 true (t_ 4)) 0,O_ 42 (.cl 27 [(t_ 40),(t_ 41)]) 0,O_ 39 (.mv (t_ 42)) 0,O_ 43 (.ex (t_ 39) 0) 0,O_ 44 (.ex (t_ 39) 1) 0,O_ 45 (.ex (t_ 39) 2) 0,O_ 9 (.al (.agg [(.lit (.int .i64 0)),(.lit (.int .i64 0)),(.sl [] true),(.sl [] true),(.lit (.int .i64 0)),(.lit (.int .i64 0)),(.sl [] true),(.sl [] true)])) 0,O_ 10 (.al (.agg [(.lit (.bool false)),(.lit (.bool false))])) 1,U_ (.st 8 (t_ 9) (t_ 43)) 2,U_ (.st 2 (t_ 10) (t_ 44)) 2,O_ 11 (.mv (t_ 45)) 2]) (.seq (R_ 2 [O_ 47 (.ld 2 true (t_ 1)) 0,O_ 48 (.ld 8 true (t_ 2)) 0,O_ 49 (.cl 29 [(t_ 47),(t_ 48),(.const (.int .u8 15))]) 0,O_ 46 (.mv (t_ 49)) 0,O_ 50 (.ex (t_ 46) 0) 0,O_ 51 (.ex (t_ 46) 1) 0,O_ 52 (.ex (t_ 46) 2) 0,O_ 12 (.al (.agg [(.lit (.int .i64 0)),(.lit (.int .i64 0)),(.sl [] true),(.sl [] true),(.lit (.int .i64 0)),(.lit (.int .i64 0)),(.sl [] true),(.sl [] true)])) 0,O_ 13 (.al (.agg [(.lit (.bool false)),(.lit (.bool false)),(.lit (.bool false)),(.lit (.bool false))])) 1,U_ (.st 8 (t_ 12) (t_ 50)) 2,U_ (.st 4 (t_ 13) (t_ 51)) 2,O_ 14 (.mv (t_ 52)) 2]) (.seq (R_ 1 [O_ 53 (.mv (t_ 3)) 0,O_ 54 (.cl 61 [(t_ 53)]) 0,O_ 55 (.bd [(.lit (.bool false)),(.lit (.bool false)),(.lit (.bool false)),(.lit (.bool false))] [(0,1,(b_ true)),(1,1,(b_ true)),(2,1,(b_ true)),(3,1,(b_ true))]) 0,O_ 56 (.bd [(.lit (.bool false)),(.lit (.bool false)),(.lit (.bool false)),(.lit (.bool false))] [(0,1,(b_ true)),(1,1,(b_ true)),(2,1,(b_ true)),(3,1,(b_ true))]) 0,O_ 57 (.bd [(.lit (.bool false)),(.lit (.bool false)),(.lit (.bool false)),(.lit (.bool false))] []) 0,O_ 58 (.bs 4 3 [(.lit (.bool false)),(.lit (.bool false)),(.lit (.bool false)),(.lit (.bool false)),(.lit (.bool false)),(.lit (.bool false)),(.lit (.bool false)),(.lit (.bool false)),(.lit (.bool false)),(.lit (.bool false)),(.lit (.bool false)),(.lit (.bool false))] [(0,(t_ 55)),(1,(t_ 56)),(2,(t_ 57))]) 0,O_ 59 (.cl 60 [(t_ 54),(t_ 58)]) 1,O_ 60 (.mv (t_ 59)) 1,⟨(some 61),.ld 2 true (t_ 1),(some (60,true)),1⟩,⟨(some 62),.ld 8 true (t_ 2),(some (60,true)),1⟩,⟨(some 63),.cl 28 [(t_ 61),(t_ 62)],(some (60,true)),1⟩,O_ 64 (.pick (t_ 60) (t_ 63) (b_ false)) 1,O_ 65 (.mv (t_ 64)) 1,⟨(some 66),.ld 2 true (t_ 7),(some (65,true)),1⟩,⟨(some 67),.ld 8 true (t_ 8),(some (65,true)),1⟩,⟨(some 68),.cl 28 [(t_ 66),(t_ 67)],(some (65,true)),1⟩,⟨(some 69),.un .not (t_ 68),(some (65,true)),1⟩,O_ 70 (.pick (t_ 65) (t_ 69) (b_ false)) 1,O_ 71 (.mv (t_ 70)) 1,⟨(some 72),.ld 2 true (t_ 1),(some (71,true)),1⟩,⟨(some 73),.ld 8 true (t_ 2),(some (71,true)),1⟩,⟨(some 74),.cl 30 [(t_ 72),(t_ 73)],(some (71,true)),1⟩,O_ 75 (.pick (t_ 71) (t_ 74) (b_ false)) 1,O_ 76 (.mv (t_ 75)) 1,⟨(some 77),.mv (t_ 6),(some (76,true)),1⟩,⟨(some 78),.bin .eql (t_ 77) (i_ 0),(some (76,true)),1⟩,O_ 79 (.pick (t_ 76) (t_ 78) (b_ false)) 1,O_ 80 (.mv (t_ 79)) 1,⟨(some 81),.ld 2 true (t_ 5),(some (80,true)),1⟩,⟨(some 82),.bd [(.lit (.bool false)),(.lit (.bool false))] [(0,1,(b_ true)),(1,1,(b_ false))],(some (80,true)),1⟩,⟨(some 83),.eqa false [0,0] (t_ 81) (t_ 82),(some (80,true)),1⟩,O_ 84 (.pick (t_ 80) (t_ 83) (b_ false)) 1,O_ 85 (.mv (t_ 84)) 1,⟨(some 86),.ld 2 true (t_ 1),(some (85,true)),1⟩,⟨(some 87),.ld 8 true (t_ 4),(some (85,true)),1⟩,⟨(some 88),.cl 28 [(t_ 86),(t_ 87)],(some (85,true)),1⟩,⟨(some 89),.un .not (t_ 88),(some (85,true)),1⟩,O_ 90 (.pick (t_ 85) (t_ 89) (b_ false)) 1,O_ 91 (.mv (t_ 90)) 1,⟨(some 92),.mv (t_ 11),(some (91,true)),1⟩,⟨(some 93),.bin .eql (t_ 92) (i_ 6),(some (91,true)),1⟩,O_ 94 (.pick (t_ 91) (t_ 93) (b_ false)) 1,O_ 95 (.mv (t_ 94)) 1,⟨(some 96),.mv (t_ 14),(some (95,true)),1⟩,⟨(some 97),.bin .eql (t_ 96) (i_ 12),(some (95,true)),1⟩,O_ 98 (.pick (t_ 95) (t_ 97) (b_ false)) 1,O_ 99 (.mv (t_ 98)) 1,⟨(some 100),.ld 2 true (t_ 1),(some (99,true)),1⟩,⟨(some 101),.ld 8 true (t_ 4),(some (99,true)),1⟩,⟨(some 102),.cl 31 [(t_ 100),(t_ 101)],(some (99,true)),1⟩,⟨(some 103),.bin .eql (t_ 102) (i_ 0),(some (99,true)),1⟩,O_ 104 (.pick (t_ 99) (t_ 103) (b_ false)) 1,O_ 105 (.mv (t_ 104)) 1,⟨(some 106),.bd [(.lit (.string ⟨#[]⟩)),(.lit (.string ⟨#[]⟩))] [(0,1,(.const (.string ⟨#[97,64,120]⟩))),(1,1,(.const (.string ⟨#[97,64,120]⟩)))],(some (105,true)),1⟩,⟨(some 107),.ld 8 true (t_ 4),(some (105,true)),1⟩,⟨(some 108),.cl 31 [(t_ 106),(t_ 107)],(some (105,true)),1⟩,⟨(some 109),.bin .eql (t_ 108) (i_ 2),(some (105,true)),1⟩,O_ 110 (.pick (t_ 105) (t_ 109) (b_ false)) 1,O_ 111 (.mv (t_ 110)) 1,O_ 112 (.pick (t_ 111) (b_ true) (b_ false)) 1,O_ 0 (.mv (t_ 112)) 1]) .ret))))))))
theorem gc25_ok:compF Try.prog Try.f25=some (gc25.er,113,[.tmp 0]):=by unfold gc25;kernel_rfl
theorem p_law22_awake_t:CallsO Try.prog 25 [] V.b (tru? (p_law22_awake)):=by
 refine callsO_comp mix Try.func25 gc25_ok fun r H=>?_
 have H1:=tru_of H
 clear H
 obtain ⟨rfl,H⟩:=H1
 rw [p_law22_awake] at H
 conv=>whnf
 refine lq_ ?_;conv=>whnf
 refine askF_c (p_pair_Run_v _ _ _) H (.cons (fzagg (.cons (.id rfl) (.cons (.id rfl) (.nil))) rfl) (.cons (fzagg (.cons (.id rfl) (.cons (.id rfl) (.cons (.slw) (.cons (.slw) (.cons (.id rfl) (.cons (.id rfl) (.cons (.slw) (.cons (.slw) (.nil))))))))) rfl) (.cons (.c (fzown (f:=PairAct.v) (l:=[(PairAct.mk (7:Int) false),(PairAct.mk (8:Int) true),(PairAct.mk (8:Int) false)]) rfl rfl (fun _=>rfl) (fun _=>rfl))) (.nil)))) (fun v1 H=>?_);conv=>whnf
 refine lq_ ?_;conv=>whnf
 refine ask_c (p_pair_Remove_v _ _) H rfl rfl (fun v2 H=>?_);conv=>whnf
 refine lq_ ?_;conv=>whnf
 refine lq_ ?_;conv=>whnf
 refine ask_c (p_pair_Turn_v _ _) H rfl rfl (fun v3 H=>?_);conv=>whnf
 refine lq_ ?_;conv=>whnf
 refine lq_ ?_;conv=>whnf
 refine ask_c (p_pair_Remove_v _ _) H rfl rfl (fun v4 H=>?_);conv=>whnf
 refine lq_ ?_;conv=>whnf
 refine lq_ ?_;conv=>whnf
 refine ask_c (p_pair_Say_v _ _ _) H rfl rfl (fun v5 H=>?_);conv=>whnf
 refine lq_ ?_;conv=>whnf
 refine lq_ ?_;conv=>whnf
 refine ask_c (p_law22_done_v _) H rfl rfl (fun v6 H=>?_);conv=>whnf
 refine askF_c (p_ref22_SameDone_v _ _) H (.cons (.c (.id rfl)) (.cons (.c (fzown (f:=PairDone.v) (l:=[(PairDone.mk true true true true),(PairDone.mk true true true true),(PairDone.mk false false false false)]) rfl rfl (fun _=>rfl) (fun _=>rfl))) (.nil))) (fun v7 H=>?_);conv=>whnf
 refine tstT_c H (fun b8 H=>?_);conv=>whnf
 iterate 2 (refine Tst.T ?_;conv=>whnf)
 refine ask_c (p_pair_Sees_v _ _) H rfl rfl (fun v9 H=>?_);conv=>whnf
 refine Tst.T ?_;conv=>whnf
 refine tstT_c H (fun b10 H=>?_);conv=>whnf
 iterate 2 (refine Tst.T ?_;conv=>whnf)
 refine ask_c (p_pair_Sees_v _ _) H rfl rfl (fun v11 H=>?_);conv=>whnf
 iterate 2 (refine Tst.T ?_;conv=>whnf)
 refine Tst.not ?_
 refine tstF_c H (fun b12 H=>?_);conv=>whnf
 iterate 2 (refine Tst.T ?_;conv=>whnf)
 refine ask_c (p_pair_Agree_v _ _) H rfl rfl (fun v13 H=>?_);conv=>whnf
 refine Tst.T ?_;conv=>whnf
 refine tstT_c H (fun b14 H=>?_);conv=>whnf
 iterate 2 (refine Tst.T ?_;conv=>whnf)
 refine tstT_c H (fun b15 H=>?_);conv=>whnf
 iterate 3 (refine Tst.T ?_;conv=>whnf)
 refine tstT_c H (fun b16 H=>?_);conv=>whnf
 iterate 2 (refine Tst.T ?_;conv=>whnf)
 refine ask_c (p_pair_Sees_v _ _) H rfl rfl (fun v17 H=>?_);conv=>whnf
 iterate 2 (refine Tst.T ?_;conv=>whnf)
 refine Tst.not ?_
 refine tstF_c H (fun b18 H=>?_);conv=>whnf
 iterate 2 (refine Tst.T ?_;conv=>whnf)
 refine tstT_c H (fun b19 H=>?_);conv=>whnf
 iterate 2 (refine Tst.T ?_;conv=>whnf)
 refine tstT_c H (fun b20 H=>?_);conv=>whnf
 iterate 2 (refine Tst.T ?_;conv=>whnf)
 refine ask_c (p_pair_Check_v _ _) H rfl rfl (fun v21 H=>?_);conv=>whnf
 iterate 2 (refine Tst.T ?_;conv=>whnf)
 refine tstT_c H (fun b22 H=>?_);conv=>whnf
 iterate 2 (refine Tst.T ?_;conv=>whnf)
 refine ask_c (p_pair_Check_v _ _) H rfl rfl (fun v23 H=>?_);conv=>whnf
 iterate 2 (refine Tst.T ?_;conv=>whnf)
 refine tstT_c H (fun b24 H=>?_);conv=>whnf
 exact fb_ H
theorem p_law22_awake_true:p_law22_awake=some true:=by kernel_rfl
theorem p_law22_awake_v:CallsO Try.prog 25 [] V.b p_law22_awake:=tru_closed p_law22_awake_t p_law22_awake_true
end Go.Proofs.Ytmmmcpeickfolaa

namespace Go.Proofs.Ytmmmcpeickfolaa
open Go.RowKit Go.Deep
theorem pairAgree_all (l:List PairAct) (h:∀ x ∈ l,PairAct.Wf x):p_law22_PairAgree l=some true:=pairAgree_pure p_law22_awake_true l fun x hx=>(bounds_u8 (h x hx).Kind).1
end Go.Proofs.Ytmmmcpeickfolaa

namespace Go.Proofs.Ytmmmcpeickfolaa
open Go.RowKit
set_option maxRecDepth 1000000
set_option maxHeartbeats 4000000
def gc6:BCode:=(.seq (R_ 0 [O_ 2 (.mv (b_ false)) 0]) (.seq (.seq (R_ 0 [O_ 16 (.mv (t_ 0)) 0,O_ 17 (.lens (t_ 16)) 0,O_ 18 (.bin .gtr (t_ 17) (i_ 60)) 0]) (.cond (t_ 18) (.seq (R_ 0 [O_ 19 (.cl 25 []) 0,O_ 2 (.mv (t_ 19)) 0]) .ret) .skip)) (.seq (R_ 1 [O_ 20 (.bd [(.lit (.string ⟨#[]⟩)),(.lit (.string ⟨#[]⟩))] [(0,1,(.const (.string ⟨#[97,110,110,64,120]⟩))),(1,1,(.const (.string ⟨#[98,111,98,64,121]⟩)))]) 0,O_ 3 (.al (.agg [(.lit (.string ⟨#[]⟩)),(.lit (.string ⟨#[]⟩))])) 0,U_ (.st 2 (t_ 3) (t_ 20)) 1]) (.seq (R_ 1 [O_ 4 (.al (.agg [(.lit (.int .i64 0)),(.lit (.int .i64 0)),(.sl [] true),(.sl [] true),(.lit (.int .i64 0)),(.lit (.int .i64 0)),(.sl [] true),(.sl [] true)])) 0]) (.seq (.seq (R_ 0 [O_ 5 (.mv (i_ 0)) 0]) (.block 0 (.loop (.seq (.seq (R_ 0 [O_ 21 (.mv (t_ 5)) 0,O_ 22 (.mv (t_ 0)) 0,O_ 23 (.lens (t_ 22)) 0,O_ 24 (.bin .lss (t_ 21) (t_ 23)) 0]) (.cond (t_ 24) .skip (.exit 0))) (.seq (.block 1 (.seq (.reg 2 [O_ 27 (.ld 2 true (t_ 3)) 0,O_ 28 (.ld 8 true (t_ 4)) 0,O_ 6 (.al (.agg [(.lit (.string ⟨#[]⟩)),(.lit (.string ⟨#[]⟩))])) 0,O_ 7 (.al (.agg [(.lit (.int .i64 0)),(.lit (.int .i64 0)),(.sl [] true),(.sl [] true),(.lit (.int .i64 0)),(.lit (.int .i64 0)),(.sl [] true),(.sl [] true)])) 1,U_ (.st 2 (t_ 6) (t_ 27)) 2,U_ (.st 8 (t_ 7) (t_ 28)) 2] (some [[],[],[],[],[3,0,2],[2,0,4,1,3]]) 0 []) (.join (.seq (R_ 0 [O_ 29 (.mv (t_ 0)) 0,O_ 30 (.mv (t_ 5)) 0,O_ 31 (.ixs 2 (t_ 29) (t_ 30)) 0,O_ 32 (.fa 1 (t_ 31)) 0,O_ 33 (.ld 1 false (t_ 32)) 0]) (.cond (t_ 33) (R_ 0 [O_ 35 (.ld 2 true (t_ 3)) 0,O_ 36 (.ld 8 true (t_ 4)) 0,O_ 37 (.cl 26 [(t_ 35),(t_ 36)]) 0,O_ 34 (.mv (t_ 37)) 0,O_ 38 (.ex (t_ 34) 0) 0,O_ 39 (.ex (t_ 34) 1) 0,U_ (.st 2 (t_ 6) (t_ 38)) 0,U_ (.st 8 (t_ 7) (t_ 39)) 0]) .skip)) (.join (.seq (R_ 0 [O_ 40 (.mv (t_ 0)) 0,O_ 41 (.mv (t_ 5)) 0,O_ 42 (.ixs 2 (t_ 40) (t_ 41)) 0,O_ 43 (.fa 0 (t_ 42)) 0,O_ 44 (.ld 1 false (t_ 43)) 0,O_ 45 (.bin .rem (t_ 44) (.const (.int .u8 5))) 0,O_ 46 (.bin .eql (t_ 45) (.const (.int .u8 4))) 0]) (.cond (t_ 46) (.seq (R_ 2 [O_ 48 (.ld 2 true (t_ 6)) 0,O_ 49 (.ld 8 true (t_ 7)) 0,O_ 50 (.cl 27 [(t_ 48),(t_ 49)]) 0,O_ 47 (.mv (t_ 50)) 0,O_ 51 (.ex (t_ 47) 0) 0,O_ 52 (.ex (t_ 47) 1) 0,O_ 53 (.ex (t_ 47) 2) 0,O_ 8 (.al (.agg [(.lit (.int .i64 0)),(.lit (.int .i64 0)),(.sl [] true),(.sl [] true),(.lit (.int .i64 0)),(.lit (.int .i64 0)),(.sl [] true),(.sl [] true)])) 0,O_ 9 (.al (.agg [(.lit (.bool false)),(.lit (.bool false))])) 1,U_ (.st 8 (t_ 8) (t_ 51)) 2,U_ (.st 2 (t_ 9) (t_ 52)) 2,O_ 10 (.mv (t_ 53)) 2]) (.seq (R_ 2 [O_ 55 (.ld 2 true (t_ 6)) 0,O_ 56 (.ld 8 true (t_ 8)) 0,O_ 57 (.cl 26 [(t_ 55),(t_ 56)]) 0,O_ 54 (.mv (t_ 57)) 0,O_ 58 (.ex (t_ 54) 0) 0,O_ 59 (.ex (t_ 54) 1) 0,O_ 11 (.al (.agg [(.lit (.string ⟨#[]⟩)),(.lit (.string ⟨#[]⟩))])) 0,O_ 12 (.al (.agg [(.lit (.int .i64 0)),(.lit (.int .i64 0)),(.sl [] true),(.sl [] true),(.lit (.int .i64 0)),(.lit (.int .i64 0)),(.sl [] true),(.sl [] true)])) 1,U_ (.st 2 (t_ 11) (t_ 58)) 2,U_ (.st 8 (t_ 12) (t_ 59)) 2]) (.seq (.seq (R_ 0 [O_ 60 (.mv (t_ 10)) 0,O_ 61 (.bin .eql (t_ 60) (i_ 0)) 0,O_ 62 (.mv (t_ 61)) 0,⟨(some 63),.ld 2 true (t_ 6),(some (62,true)),0⟩,⟨(some 64),.ld 8 true (t_ 8),(some (62,true)),0⟩,⟨(some 65),.cl 28 [(t_ 63),(t_ 64)],(some (62,true)),0⟩,⟨(some 66),.mv (t_ 65),(some (62,true)),0⟩,⟨(some 67),.ld 2 true (t_ 11),(some (66,false)),0⟩,⟨(some 68),.ld 8 true (t_ 12),(some (66,false)),0⟩,⟨(some 69),.cl 28 [(t_ 67),(t_ 68)],(some (66,false)),0⟩,⟨(some 70),.pick (t_ 66) (b_ true) (t_ 69),(some (62,true)),0⟩,O_ 71 (.pick (t_ 62) (t_ 70) (b_ false)) 0,O_ 72 (.mv (t_ 71)) 0,⟨(some 73),.mv (t_ 10),(some (72,false)),0⟩,⟨(some 74),.bin .neq (t_ 73) (i_ 0),(some (72,false)),0⟩,⟨(some 75),.mv (t_ 74),(some (72,false)),0⟩,⟨(some 76),.mv (t_ 10),(some (75,true)),0⟩,⟨(some 77),.bin .neq (t_ 76) (i_ 6),(some (75,true)),0⟩,⟨(some 78),.pick (t_ 75) (t_ 77) (b_ false),(some (72,false)),0⟩,O_ 79 (.pick (t_ 72) (b_ true) (t_ 78)) 0]) (.cond (t_ 79) (.seq (R_ 0 [O_ 2 (.mv (b_ false)) 0]) .ret) .skip)) (R_ 0 [O_ 80 (.ld 8 true (t_ 8)) 0,U_ (.st 8 (t_ 7) (t_ 80)) 0])))) (.seq (.reg 2 [O_ 82 (.ld 2 true (t_ 6)) 0,O_ 83 (.ld 8 true (t_ 7)) 0,O_ 84 (.mv (t_ 0)) 0,O_ 85 (.mv (t_ 5)) 0,O_ 86 (.ixs 2 (t_ 84) (t_ 85)) 0,O_ 87 (.fa 0 (t_ 86)) 0,O_ 88 (.ld 1 false (t_ 87)) 0,O_ 89 (.bin .rem (t_ 88) (.const (.int .u8 5))) 0,O_ 90 (.bin .add (.const (.int .u8 7)) (t_ 89)) 0,O_ 91 (.cl 29 [(t_ 82),(t_ 83),(t_ 90)]) 0,O_ 81 (.mv (t_ 91)) 0,O_ 92 (.ex (t_ 81) 0) 0,O_ 93 (.ex (t_ 81) 1) 0,O_ 94 (.ex (t_ 81) 2) 0,O_ 13 (.al (.agg [(.lit (.int .i64 0)),(.lit (.int .i64 0)),(.sl [] true),(.sl [] true),(.lit (.int .i64 0)),(.lit (.int .i64 0)),(.sl [] true),(.sl [] true)])) 0,O_ 14 (.al (.agg [(.lit (.bool false)),(.lit (.bool false)),(.lit (.bool false)),(.lit (.bool false))])) 1,U_ (.st 8 (t_ 13) (t_ 92)) 2,U_ (.st 4 (t_ 14) (t_ 93)) 2,O_ 15 (.mv (t_ 94)) 2] (some [[],[],[],[],[3,2],[2,3,4],[4,3,2,5],[5,2,3,4,6],[6,4,3,2,5,7],[7,5,2,3,4,6,8,1,0],[0,1,8,6,4,3,2,5,7,9],[9,7,5,2,3,4,6,8,1,0,10],[9,7,5,2,3,4,6,8,1,0,10],[9,7,5,2,3,4,6,8,1,0,10],[],[],[15,10,0,1,8,6,4,3,2,5,7,9,11,14],[14,11,16,10,0,1,8,6,4,3,2,5,7,9,12,15],[15,12,16,11,14,17,10,0,1,8,6,4,3,2,5,7,9,13]]) 0 []) (.seq (.seq (R_ 0 [O_ 95 (.mv (t_ 15)) 0,O_ 96 (.bin .neq (t_ 95) (i_ 0)) 0,O_ 97 (.mv (t_ 96)) 0,⟨(some 98),.fa 1 (t_ 14),(some (97,false)),0⟩,⟨(some 99),.ld 1 false (t_ 98),(some (97,false)),0⟩,⟨(some 100),.mv (t_ 99),(some (97,false)),0⟩,⟨(some 101),.fa 0 (t_ 14),(some (100,true)),0⟩,⟨(some 102),.ld 1 false (t_ 101),(some (100,true)),0⟩,⟨(some 103),.un .not (t_ 102),(some (100,true)),0⟩,⟨(some 104),.pick (t_ 100) (t_ 103) (b_ false),(some (97,false)),0⟩,O_ 105 (.pick (t_ 97) (b_ true) (t_ 104)) 0,O_ 106 (.mv (t_ 105)) 0,⟨(some 107),.fa 0 (t_ 14),(some (106,false)),0⟩,⟨(some 108),.ld 1 false (t_ 107),(some (106,false)),0⟩,⟨(some 109),.un .not (t_ 108),(some (106,false)),0⟩,⟨(some 110),.mv (t_ 109),(some (106,false)),0⟩,⟨(some 111),.fa 3 (t_ 14),(some (110,true)),0⟩,⟨(some 112),.ld 1 false (t_ 111),(some (110,true)),0⟩,⟨(some 113),.mv (t_ 112),(some (110,true)),0⟩,⟨(some 114),.fa 2 (t_ 14),(some (113,false)),0⟩,⟨(some 115),.ld 1 false (t_ 114),(some (113,false)),0⟩,⟨(some 116),.pick (t_ 113) (b_ true) (t_ 115),(some (110,true)),0⟩,⟨(some 117),.pick (t_ 110) (t_ 116) (b_ false),(some (106,false)),0⟩,O_ 118 (.pick (t_ 106) (b_ true) (t_ 117)) 0]) (.cond (t_ 118) (.seq (R_ 0 [O_ 2 (.mv (b_ false)) 0]) .ret) .skip)) (R_ 0 [O_ 119 (.ld 8 true (t_ 13)) 0,U_ (.st 8 (t_ 7) (t_ 119)) 0]))))) (.join (.seq (R_ 0 [O_ 120 (.mv (t_ 0)) 0,O_ 121 (.mv (t_ 5)) 0,O_ 122 (.ixs 2 (t_ 120) (t_ 121)) 0,O_ 123 (.fa 1 (t_ 122)) 0,O_ 124 (.ld 1 false (t_ 123)) 0]) (.cond (t_ 124) (R_ 0 [O_ 126 (.ld 2 true (t_ 6)) 0,O_ 127 (.ld 8 true (t_ 7)) 0,O_ 128 (.cl 26 [(t_ 126),(t_ 127)]) 0,O_ 125 (.mv (t_ 128)) 0,O_ 129 (.ex (t_ 125) 0) 0,O_ 130 (.ex (t_ 125) 1) 0,U_ (.st 2 (t_ 6) (t_ 129)) 0,U_ (.st 8 (t_ 7) (t_ 130)) 0]) .skip)) (.seq (.seq (R_ 0 [O_ 131 (.ld 2 true (t_ 6)) 0,O_ 132 (.ld 2 true (t_ 3)) 0,O_ 133 (.eqa true [2,2] (t_ 131) (t_ 132)) 0,O_ 134 (.mv (t_ 133)) 0,⟨(some 135),.ld 2 true (t_ 3),(some (134,false)),0⟩,⟨(some 136),.ld 8 true (t_ 7),(some (134,false)),0⟩,⟨(some 137),.cl 30 [(t_ 135),(t_ 136)],(some (134,false)),0⟩,⟨(some 138),.un .not (t_ 137),(some (134,false)),0⟩,O_ 139 (.pick (t_ 134) (b_ true) (t_ 138)) 0,O_ 140 (.mv (t_ 139)) 0,⟨(some 141),.ld 2 true (t_ 3),(some (140,false)),0⟩,⟨(some 142),.ld 8 true (t_ 7),(some (140,false)),0⟩,⟨(some 143),.cl 31 [(t_ 141),(t_ 142)],(some (140,false)),0⟩,⟨(some 144),.bin .neq (t_ 143) (i_ 0),(some (140,false)),0⟩,O_ 145 (.pick (t_ 140) (b_ true) (t_ 144)) 0]) (.cond (t_ 145) (.seq (R_ 0 [O_ 2 (.mv (b_ false)) 0]) .ret) .skip)) (R_ 0 [O_ 146 (.ld 8 true (t_ 7)) 0,U_ (.st 8 (t_ 4) (t_ 146)) 0]))))))) (R_ 0 [O_ 25 (.mv (t_ 5)) 0,O_ 26 (.bin .add (t_ 25) (i_ 1)) 0,O_ 5 (.mv (t_ 26)) 0])))))) (.seq (R_ 0 [O_ 147 (.cl 25 []) 0,O_ 2 (.mv (t_ 147)) 0]) .ret))))))
theorem gc6_ok:compF Try.prog Try.f6=some (gc6.er,148,[.tmp 2]):=by unfold gc6;kernel_rfl
theorem p_law22_PairAgree_v {u1:Bool} (a0:List PairAct):CallsO Try.prog 6 [.sl (List.map PairAct.v a0) u1] V.b (tru? (p_law22_PairAgree a0)):=by
 refine callsO_comp mix Try.func6 gc6_ok fun r H=>?_
 have H1:=tru_of H
 clear H
 obtain ⟨rfl,H⟩:=H1
 rw [p_law22_PairAgree] at H
 conv=>whnf
 refine LenQ.M ?_;conv=>whnf
 refine tst_c H (fun b1 H=>?_) (fun b1 H=>?_)
 ·conv=>whnf
  refine ask_c (p_law22_awake_v) H rfl rfl (fun v2 H=>?_);conv=>whnf
  exact fb_ H
 conv=>whnf
 refine lq_ ?_;conv=>whnf
 obtain ⟨o4,HL5,HQ6⟩:=bind_c H
 refine loop_c [2,5] [6,7,8,9,10,11,12,13,14,15,21,22,23,24,25,26,27,28,29,30,31,32,33,34,35,36,37,38,39,40,41,42,43,44,45,46,47,48,49,50,51,52,53,54,55,56,57,58,59,60,61,62,63,64,65,66,67,68,69,70,71,72,73,74,75,76,77,78,79,80,81,82,83,84,85,86,87,88,89,90,91,92,93,94,95,96,97,98,99,100,101,102,103,104,105,106,107,108,109,110,111,112,113,114,115,116,117,118,119,120,121,122,123,124,125,126,127,128,129,130,131,132,133,134,135,136,137,138,139,140,141,142,143,144,145,146] [6,7,8,9,10,11,12,13,14,15,21,22,23,24,25,26,27,28,29,30,31,32,33,34,35,36,37,38,39,40,41,42,43,44,45,46,47,48,49,50,51,52,53,54,55,56,57,58,59,60,61,62,63,64,65,66,67,68,69,70,71,72,73,74,75,76,77,78,79,80,81,82,83,84,85,86,87,88,89,90,91,92,93,94,95,96,97,98,99,100,101,102,103,104,105,106,107,108,109,110,111,112,113,114,115,116,117,118,119,120,121,122,123,124,125,126,127,128,129,130,131,132,133,134,135,136,137,138,139,140,141,142,143,144,145,146] (fun n vals st=>(∃ y8 y9 u10 u11 u12 u13,p_law22_PairAgree_l1  a0 (Ref22Names.mk (⟨#[97,110,110,64,120]⟩ : ByteArray) (⟨#[98,111,98,64,121]⟩ : ByteArray)) n y8 y9=some o4∧vals=[.b false,.i y8]∧st=[.live [.s (⟨#[97,110,110,64,120]⟩ : ByteArray),.s (⟨#[98,111,98,64,121]⟩ : ByteArray)] 0,.live [.i y9.A.Ver,.i y9.A.Floor,.sl (List.map ItemItem.v y9.A.Items) u10,.sl (List.map RosterGone.v y9.A.Gone) u11,.i y9.B.Ver,.i y9.B.Floor,.sl (List.map ItemItem.v y9.B.Items) u12,.sl (List.map RosterGone.v y9.B.Gone) u13] 0])) fuel 2 [] (⟨_,_,_,_,_,_,HL5,rfl,rfl⟩) (Nat.zero_le _) rfl (by kernel_rfl) (by kernel_rfl) rfl ⟨⟨rfl,rfl,rfl⟩,⟨⟨rfl,rfl,rfl⟩,trivial⟩⟩ ?_
 rintro (_ | n7) _ _ (⟨y8,y9,u10,u11,u12,u13,H,rfl,rfl⟩)
 ·rw [p_law22_PairAgree_l1] at H;cases H
 rw [p_law22_PairAgree_l1] at H
 conv=>whnf
 refine LenQ.M ?_;conv=>whnf
 refine tst_d H (fun b14 H=>?_) (fun b14 H=>?_)
 ·conv=>whnf
  obtain rfl:=Option.some.inj H
  have H:=HQ6
  try dsimp only at H
  refine ask_c (p_law22_awake_v) H rfl rfl (fun v120 H=>?_);conv=>whnf
  exact fb_ H
 conv=>whnf
 refine lq_ ?_;conv=>whnf
 refine lq_ ?_;conv=>whnf
 refine FootQ.mk ⟨rfl,?_⟩;conv=>whnf
 obtain ⟨K15,hK16,o17,HL18,HQ19⟩:=join0_c H
 refine join_c [3,4,6,7] [29,30,31,32,33,34,35,36,37,38,39] (fun vals st=>(∃ y24 y25,K15 (y24,y25)=some o4∧vals=[.ptr 0 0,.ptr 1 0,.ptr 2 0,.ptr 3 0]∧st=[.live [.s (⟨#[97,110,110,64,120]⟩ : ByteArray),.s (⟨#[98,111,98,64,121]⟩ : ByteArray)] 0,.live [.i y9.A.Ver,.i y9.A.Floor,.sl (List.map ItemItem.v y9.A.Items) u10,.sl (List.map RosterGone.v y9.A.Gone) u11,.i y9.B.Ver,.i y9.B.Floor,.sl (List.map ItemItem.v y9.B.Items) u12,.sl (List.map RosterGone.v y9.B.Gone) u13] 0,.live [.s y24.A,.s y24.B] 0,.live [.i y25.A.Ver,.i y25.A.Floor,.sl (List.map ItemItem.v y25.A.Items) false,.sl (List.map RosterGone.v y25.A.Gone) false,.i y25.B.Ver,.i y25.B.Floor,.sl (List.map ItemItem.v y25.B.Items) false,.sl (List.map RosterGone.v y25.B.Gone) false] 0])∨(∃ y26 y27,K15 (y26,y27)=some o4∧vals=[.ptr 0 0,.ptr 1 0,.ptr 2 0,.ptr 3 0]∧st=[.live [.s (⟨#[97,110,110,64,120]⟩ : ByteArray),.s (⟨#[98,111,98,64,121]⟩ : ByteArray)] 0,.live [.i y9.A.Ver,.i y9.A.Floor,.sl (List.map ItemItem.v y9.A.Items) u10,.sl (List.map RosterGone.v y9.A.Gone) u11,.i y9.B.Ver,.i y9.B.Floor,.sl (List.map ItemItem.v y9.B.Items) u12,.sl (List.map RosterGone.v y9.B.Gone) u13] 0,.live [.s y26.A,.s y26.B] 0,.live [.i y27.A.Ver,.i y27.A.Floor,.sl (List.map ItemItem.v y27.A.Items) u10,.sl (List.map RosterGone.v y27.A.Gone) u11,.i y27.B.Ver,.i y27.B.Floor,.sl (List.map ItemItem.v y27.B.Items) u12,.sl (List.map RosterGone.v y27.B.Gone) u13] 0])) ?_ ?_
 ·have H:=HL18
  conv=>whnf
  refine ixs_c (f:=PairAct.v) H (fun _=>rfl) (fun x21 H=>?_);conv=>whnf
  refine lq_ ?_;conv=>whnf
  refine tst_d H (fun b22 H=>?_) (fun b22 H=>?_)
  ·conv=>whnf
   obtain rfl:=Option.some.inj H
   exact arrive_c [29,30,31,32,33,34,35,36,37,38,39] 4 [] (.inr (⟨_,_,HQ19,rfl,rfl⟩)) (Nat.zero_le _) rfl (by kernel_rfl) (by kernel_rfl) rfl ⟨⟨rfl,rfl,rfl⟩,⟨⟨rfl,rfl,rfl⟩,⟨⟨rfl,rfl,rfl⟩,⟨⟨rfl,rfl,rfl⟩,trivial⟩⟩⟩⟩
  conv=>whnf
  refine ask_c (p_pair_Turn_v _ _) H rfl rfl (fun v23 H=>?_);conv=>whnf
  refine lq_ ?_;conv=>whnf
  refine lq_ ?_;conv=>whnf
  obtain rfl:=Option.some.inj H
  exact arrive_c [29,30,31,32,33,34,35,36,37,38,39] 4 [] (.inl (⟨_,_,HQ19,rfl,rfl⟩)) (Nat.zero_le _) rfl (by kernel_rfl) (by kernel_rfl) rfl ⟨⟨rfl,rfl,rfl⟩,⟨⟨rfl,rfl,rfl⟩,⟨⟨rfl,rfl,rfl⟩,⟨⟨rfl,rfl,rfl⟩,trivial⟩⟩⟩⟩
 rintro _ _ (⟨y24,y25,H,rfl,rfl⟩ | ⟨y26,y27,H,rfl,rfl⟩)
 ·rw [hK16] at H
  try dsimp only at H
  conv=>whnf
  obtain ⟨K28,hK29,o30,HL31,HQ32⟩:=join0_c H
  refine join_c [2,3,4,6,7] [8,9,10,11,12,13,14,15,40,41,42,43,44,45,46,47,48,49,50,51,52,53,54,55,56,57,58,59,60,61,62,63,64,65,66,67,68,69,70,71,72,73,74,75,76,77,78,79,80,81,82,83,84,85,86,87,88,89,90,91,92,93,94,95,96,97,98,99,100,101,102,103,104,105,106,107,108,109,110,111,112,113,114,115,116,117,118,119] (fun vals st=>(∃ y45,K28 (.inr y45)=some o4∧vals=[.b false,.ptr 0 0,.ptr 1 0,.ptr 2 0,.ptr 3 0]∧st=[.live [.s (⟨#[97,110,110,64,120]⟩ : ByteArray),.s (⟨#[98,111,98,64,121]⟩ : ByteArray)] 0,.live [.i y9.A.Ver,.i y9.A.Floor,.sl (List.map ItemItem.v y9.A.Items) u10,.sl (List.map RosterGone.v y9.A.Gone) u11,.i y9.B.Ver,.i y9.B.Floor,.sl (List.map ItemItem.v y9.B.Items) u12,.sl (List.map RosterGone.v y9.B.Gone) u13] 0,.live [.s y24.A,.s y24.B] 0,.live [.i y45.A.Ver,.i y45.A.Floor,.sl (List.map ItemItem.v y45.A.Items) false,.sl (List.map RosterGone.v y45.A.Gone) false,.i y45.B.Ver,.i y45.B.Floor,.sl (List.map ItemItem.v y45.B.Items) false,.sl (List.map RosterGone.v y45.B.Gone) false] 0])) ?_ ?_
  ·have H:=HL31
   conv=>whnf
   refine ixs_c (f:=PairAct.v) H (fun _=>rfl) (fun x34 H=>?_);conv=>whnf
   refine lq_ ?_;conv=>whnf
   refine ⟨by decide,?_⟩;conv=>whnf
   refine tst_d H (fun b35 H=>?_) (fun b35 H=>?_)
   ·conv=>whnf
    refine ixs_c (f:=PairAct.v) H (fun _=>rfl) (fun x48 H=>?_);conv=>whnf
    refine lq_ ?_;conv=>whnf
    refine ⟨by decide,?_⟩;conv=>whnf
    refine Ari.w ?_;conv=>whnf
    refine ask_c (p_pair_Say_v _ _ _) H rfl rfl (fun v49 H=>?_);conv=>whnf
    refine lq_ ?_;conv=>whnf
    refine lq_ ?_;conv=>whnf
    refine FootQ.mk ⟨rfl,?_⟩;conv=>whnf
    refine tst_c H (fun b50 H=>?_) (fun b50 H=>?_)
    ·conv=>whnf
     iterate 11 (refine Tst.T ?_;conv=>whnf)
     obtain rfl:=Option.some.inj H
     have H:=HQ32
     rw [hK29] at H
     try dsimp only at H
     obtain rfl:=Option.some.inj H
     have H:=HQ6
     try dsimp only at H
     exact fb_ H
    conv=>whnf
    iterate 2 (refine Tst.F ?_;conv=>whnf)
    refine tst_c H (fun b51 H=>?_) (fun b51 H=>?_)
    ·conv=>whnf
     iterate 2 (refine Tst.T ?_;conv=>whnf)
     refine Tst.F ?_;conv=>whnf
     refine Tst.T ?_;conv=>whnf
     refine Tst.F ?_;conv=>whnf
     refine Tst.not ?_
     refine tst_d H (fun b52 H=>?_) (fun b52 H=>?_)
     ·conv=>whnf
      iterate 6 (refine Tst.T ?_;conv=>whnf)
      obtain rfl:=Option.some.inj H
      have H:=HQ32
      rw [hK29] at H
      try dsimp only at H
      obtain rfl:=Option.some.inj H
      have H:=HQ6
      try dsimp only at H
      exact fb_ H
     conv=>whnf
     iterate 3 (refine Tst.F ?_;conv=>whnf)
     refine Tst.not ?_
     refine Tst.isT b52 ?_;conv=>whnf
     iterate 7 (refine Tst.F ?_;conv=>whnf)
     refine lq_ ?_;conv=>whnf
     obtain rfl:=Option.some.inj H
     exact arrive_c [8,9,10,11,12,13,14,15,40,41,42,43,44,45,46,47,48,49,50,51,52,53,54,55,56,57,58,59,60,61,62,63,64,65,66,67,68,69,70,71,72,73,74,75,76,77,78,79,80,81,82,83,84,85,86,87,88,89,90,91,92,93,94,95,96,97,98,99,100,101,102,103,104,105,106,107,108,109,110,111,112,113,114,115,116,117,118,119] 4 [] (⟨_,HQ32,rfl,rfl⟩) (Nat.zero_le _) rfl (by kernel_rfl) (by kernel_rfl) rfl ⟨⟨rfl,rfl,rfl⟩,⟨⟨rfl,rfl,rfl⟩,⟨⟨rfl,rfl,rfl⟩,⟨⟨rfl,rfl,rfl⟩,trivial⟩⟩⟩⟩
    conv=>whnf
    iterate 9 (refine Tst.F ?_;conv=>whnf)
    refine Tst.not ?_
    refine tst_c H (fun b53 H=>?_) (fun b53 H=>?_)
    ·conv=>whnf
     iterate 7 (refine Tst.F ?_;conv=>whnf)
     refine lq_ ?_;conv=>whnf
     obtain rfl:=Option.some.inj H
     exact arrive_c [8,9,10,11,12,13,14,15,40,41,42,43,44,45,46,47,48,49,50,51,52,53,54,55,56,57,58,59,60,61,62,63,64,65,66,67,68,69,70,71,72,73,74,75,76,77,78,79,80,81,82,83,84,85,86,87,88,89,90,91,92,93,94,95,96,97,98,99,100,101,102,103,104,105,106,107,108,109,110,111,112,113,114,115,116,117,118,119] 4 [] (⟨_,HQ32,rfl,rfl⟩) (Nat.zero_le _) rfl (by kernel_rfl) (by kernel_rfl) rfl ⟨⟨rfl,rfl,rfl⟩,⟨⟨rfl,rfl,rfl⟩,⟨⟨rfl,rfl,rfl⟩,⟨⟨rfl,rfl,rfl⟩,trivial⟩⟩⟩⟩
    conv=>whnf
    iterate 2 (refine Tst.T ?_;conv=>whnf)
    refine tst_c H (fun b54 H=>?_) (fun b54 H=>?_)
    ·conv=>whnf
     iterate 3 (refine Tst.T ?_;conv=>whnf)
     refine Tst.F ?_;conv=>whnf
     refine Tst.T ?_;conv=>whnf
     refine Tst.F ?_;conv=>whnf
     refine Tst.T ?_;conv=>whnf
     obtain rfl:=Option.some.inj H
     have H:=HQ32
     rw [hK29] at H
     try dsimp only at H
     obtain rfl:=Option.some.inj H
     have H:=HQ6
     try dsimp only at H
     exact fb_ H
    conv=>whnf
    refine Tst.F ?_;conv=>whnf
    refine Tst.T ?_;conv=>whnf
    iterate 2 (refine Tst.F ?_;conv=>whnf)
    refine Tst.T ?_;conv=>whnf
    refine Tst.F ?_;conv=>whnf
    refine tst_c H (fun b55 H=>?_) (fun b55 H=>?_)
    ·conv=>whnf
     obtain rfl:=Option.some.inj H
     have H:=HQ32
     rw [hK29] at H
     try dsimp only at H
     obtain rfl:=Option.some.inj H
     have H:=HQ6
     try dsimp only at H
     exact fb_ H
    conv=>whnf
    refine lq_ ?_;conv=>whnf
    obtain rfl:=Option.some.inj H
    exact arrive_c [8,9,10,11,12,13,14,15,40,41,42,43,44,45,46,47,48,49,50,51,52,53,54,55,56,57,58,59,60,61,62,63,64,65,66,67,68,69,70,71,72,73,74,75,76,77,78,79,80,81,82,83,84,85,86,87,88,89,90,91,92,93,94,95,96,97,98,99,100,101,102,103,104,105,106,107,108,109,110,111,112,113,114,115,116,117,118,119] 4 [] (⟨_,HQ32,rfl,rfl⟩) (Nat.zero_le _) rfl (by kernel_rfl) (by kernel_rfl) rfl ⟨⟨rfl,rfl,rfl⟩,⟨⟨rfl,rfl,rfl⟩,⟨⟨rfl,rfl,rfl⟩,⟨⟨rfl,rfl,rfl⟩,trivial⟩⟩⟩⟩
   conv=>whnf
   refine ask_c (p_pair_Remove_v _ _) H rfl rfl (fun v36 H=>?_);conv=>whnf
   refine lq_ ?_;conv=>whnf
   refine lq_ ?_;conv=>whnf
   refine ask_c (p_pair_Turn_v _ _) H rfl rfl (fun v37 H=>?_);conv=>whnf
   refine lq_ ?_;conv=>whnf
   refine lq_ ?_;conv=>whnf
   refine tst_d H (fun b38 H=>?_) (fun b38 H=>?_)
   ·conv=>whnf
    iterate 8 (refine Tst.F ?_;conv=>whnf)
    refine tst_d H (fun b46 H=>?_) (fun b46 H=>?_)
    ·conv=>whnf
     iterate 5 (refine Tst.F ?_;conv=>whnf)
     refine lq_ ?_;conv=>whnf
     obtain rfl:=Option.some.inj H
     exact arrive_c [8,9,10,11,12,13,14,15,40,41,42,43,44,45,46,47,48,49,50,51,52,53,54,55,56,57,58,59,60,61,62,63,64,65,66,67,68,69,70,71,72,73,74,75,76,77,78,79,80,81,82,83,84,85,86,87,88,89,90,91,92,93,94,95,96,97,98,99,100,101,102,103,104,105,106,107,108,109,110,111,112,113,114,115,116,117,118,119] 4 [] (⟨_,HQ32,rfl,rfl⟩) (Nat.zero_le _) rfl (by kernel_rfl) (by kernel_rfl) rfl ⟨⟨rfl,rfl,rfl⟩,⟨⟨rfl,rfl,rfl⟩,⟨⟨rfl,rfl,rfl⟩,⟨⟨rfl,rfl,rfl⟩,trivial⟩⟩⟩⟩
    conv=>whnf
    refine Tst.T ?_;conv=>whnf
    refine Tst.F ?_;conv=>whnf
    refine Tst.T ?_;conv=>whnf
    refine Tst.F ?_;conv=>whnf
    refine tst_c H (fun b47 H=>?_) (fun b47 H=>?_)
    ·conv=>whnf
     obtain rfl:=Option.some.inj H
     have H:=HQ32
     rw [hK29] at H
     try dsimp only at H
     obtain rfl:=Option.some.inj H
     have H:=HQ6
     try dsimp only at H
     exact fb_ H
    conv=>whnf
    refine lq_ ?_;conv=>whnf
    obtain rfl:=Option.some.inj H
    exact arrive_c [8,9,10,11,12,13,14,15,40,41,42,43,44,45,46,47,48,49,50,51,52,53,54,55,56,57,58,59,60,61,62,63,64,65,66,67,68,69,70,71,72,73,74,75,76,77,78,79,80,81,82,83,84,85,86,87,88,89,90,91,92,93,94,95,96,97,98,99,100,101,102,103,104,105,106,107,108,109,110,111,112,113,114,115,116,117,118,119] 4 [] (⟨_,HQ32,rfl,rfl⟩) (Nat.zero_le _) rfl (by kernel_rfl) (by kernel_rfl) rfl ⟨⟨rfl,rfl,rfl⟩,⟨⟨rfl,rfl,rfl⟩,⟨⟨rfl,rfl,rfl⟩,⟨⟨rfl,rfl,rfl⟩,trivial⟩⟩⟩⟩
   conv=>whnf
   iterate 2 (refine Tst.T ?_;conv=>whnf)
   refine ask_c (p_pair_Sees_v _ _) H rfl rfl (fun v39 H=>?_);conv=>whnf
   refine Tst.T ?_;conv=>whnf
   refine tst_c H (fun b40 H=>?_) (fun b40 H=>?_)
   ·conv=>whnf
    iterate 11 (refine Tst.T ?_;conv=>whnf)
    obtain rfl:=Option.some.inj H
    have H:=HQ32
    rw [hK29] at H
    try dsimp only at H
    obtain rfl:=Option.some.inj H
    have H:=HQ6
    try dsimp only at H
    exact fb_ H
   conv=>whnf
   iterate 2 (refine Tst.F ?_;conv=>whnf)
   refine ask_c (p_pair_Sees_v _ _) H rfl rfl (fun v41 H=>?_);conv=>whnf
   refine Tst.T ?_;conv=>whnf
   refine Tst.F ?_;conv=>whnf
   refine Tst.T ?_;conv=>whnf
   refine tst_c H (fun b42 H=>?_) (fun b42 H=>?_)
   ·conv=>whnf
    iterate 5 (refine Tst.T ?_;conv=>whnf)
    obtain rfl:=Option.some.inj H
    have H:=HQ32
    rw [hK29] at H
    try dsimp only at H
    obtain rfl:=Option.some.inj H
    have H:=HQ6
    try dsimp only at H
    exact fb_ H
   conv=>whnf
   iterate 2 (refine Tst.F ?_;conv=>whnf)
   refine tst_d H (fun b43 H=>?_) (fun b43 H=>?_)
   ·conv=>whnf
    iterate 5 (refine Tst.F ?_;conv=>whnf)
    refine lq_ ?_;conv=>whnf
    obtain rfl:=Option.some.inj H
    exact arrive_c [8,9,10,11,12,13,14,15,40,41,42,43,44,45,46,47,48,49,50,51,52,53,54,55,56,57,58,59,60,61,62,63,64,65,66,67,68,69,70,71,72,73,74,75,76,77,78,79,80,81,82,83,84,85,86,87,88,89,90,91,92,93,94,95,96,97,98,99,100,101,102,103,104,105,106,107,108,109,110,111,112,113,114,115,116,117,118,119] 4 [] (⟨_,HQ32,rfl,rfl⟩) (Nat.zero_le _) rfl (by kernel_rfl) (by kernel_rfl) rfl ⟨⟨rfl,rfl,rfl⟩,⟨⟨rfl,rfl,rfl⟩,⟨⟨rfl,rfl,rfl⟩,⟨⟨rfl,rfl,rfl⟩,trivial⟩⟩⟩⟩
   conv=>whnf
   refine Tst.T ?_;conv=>whnf
   refine Tst.F ?_;conv=>whnf
   refine Tst.T ?_;conv=>whnf
   refine Tst.F ?_;conv=>whnf
   refine tst_c H (fun b44 H=>?_) (fun b44 H=>?_)
   ·conv=>whnf
    obtain rfl:=Option.some.inj H
    have H:=HQ32
    rw [hK29] at H
    try dsimp only at H
    obtain rfl:=Option.some.inj H
    have H:=HQ6
    try dsimp only at H
    exact fb_ H
   conv=>whnf
   refine lq_ ?_;conv=>whnf
   obtain rfl:=Option.some.inj H
   exact arrive_c [8,9,10,11,12,13,14,15,40,41,42,43,44,45,46,47,48,49,50,51,52,53,54,55,56,57,58,59,60,61,62,63,64,65,66,67,68,69,70,71,72,73,74,75,76,77,78,79,80,81,82,83,84,85,86,87,88,89,90,91,92,93,94,95,96,97,98,99,100,101,102,103,104,105,106,107,108,109,110,111,112,113,114,115,116,117,118,119] 4 [] (⟨_,HQ32,rfl,rfl⟩) (Nat.zero_le _) rfl (by kernel_rfl) (by kernel_rfl) rfl ⟨⟨rfl,rfl,rfl⟩,⟨⟨rfl,rfl,rfl⟩,⟨⟨rfl,rfl,rfl⟩,⟨⟨rfl,rfl,rfl⟩,trivial⟩⟩⟩⟩
  rintro _ _ (⟨y45,H,rfl,rfl⟩)
  rw [hK29] at H
  try dsimp only at H
  conv=>whnf
  obtain ⟨K56,hK57,o58,HL59,HQ60⟩:=join0_c H
  refine join_c [3,4,6,7] [120,121,122,123,124,125,126,127,128,129,130] (fun vals st=>(∃ y65 y66,K56 (y65,y66)=some o4∧vals=[.ptr 0 0,.ptr 1 0,.ptr 2 0,.ptr 3 0]∧st=[.live [.s (⟨#[97,110,110,64,120]⟩ : ByteArray),.s (⟨#[98,111,98,64,121]⟩ : ByteArray)] 0,.live [.i y9.A.Ver,.i y9.A.Floor,.sl (List.map ItemItem.v y9.A.Items) u10,.sl (List.map RosterGone.v y9.A.Gone) u11,.i y9.B.Ver,.i y9.B.Floor,.sl (List.map ItemItem.v y9.B.Items) u12,.sl (List.map RosterGone.v y9.B.Gone) u13] 0,.live [.s y65.A,.s y65.B] 0,.live [.i y66.A.Ver,.i y66.A.Floor,.sl (List.map ItemItem.v y66.A.Items) false,.sl (List.map RosterGone.v y66.A.Gone) false,.i y66.B.Ver,.i y66.B.Floor,.sl (List.map ItemItem.v y66.B.Items) false,.sl (List.map RosterGone.v y66.B.Gone) false] 0])) ?_ ?_
  ·have H:=HL59
   conv=>whnf
   refine ixs_c (f:=PairAct.v) H (fun _=>rfl) (fun x62 H=>?_);conv=>whnf
   refine lq_ ?_;conv=>whnf
   refine tst_d H (fun b63 H=>?_) (fun b63 H=>?_)
   ·conv=>whnf
    obtain rfl:=Option.some.inj H
    exact arrive_c [120,121,122,123,124,125,126,127,128,129,130] 4 [] (⟨_,_,HQ60,rfl,rfl⟩) (Nat.zero_le _) rfl (by kernel_rfl) (by kernel_rfl) rfl ⟨⟨rfl,rfl,rfl⟩,⟨⟨rfl,rfl,rfl⟩,⟨⟨rfl,rfl,rfl⟩,⟨⟨rfl,rfl,rfl⟩,trivial⟩⟩⟩⟩
   conv=>whnf
   refine ask_c (p_pair_Turn_v _ _) H rfl rfl (fun v64 H=>?_);conv=>whnf
   refine lq_ ?_;conv=>whnf
   refine lq_ ?_;conv=>whnf
   obtain rfl:=Option.some.inj H
   exact arrive_c [120,121,122,123,124,125,126,127,128,129,130] 4 [] (⟨_,_,HQ60,rfl,rfl⟩) (Nat.zero_le _) rfl (by kernel_rfl) (by kernel_rfl) rfl ⟨⟨rfl,rfl,rfl⟩,⟨⟨rfl,rfl,rfl⟩,⟨⟨rfl,rfl,rfl⟩,⟨⟨rfl,rfl,rfl⟩,trivial⟩⟩⟩⟩
  rintro _ _ (⟨y65,y66,H,rfl,rfl⟩)
  rw [hK57] at H
  try dsimp only at H
  conv=>whnf
  refine Tst.not ?_
  refine tst_d H (fun b67 H=>?_) (fun b67 H=>?_)
  ·conv=>whnf
   iterate 10 (refine Tst.T ?_;conv=>whnf)
   obtain rfl:=Option.some.inj H
   have H:=HQ6
   try dsimp only at H
   exact fb_ H
  conv=>whnf
  iterate 2 (refine Tst.F ?_;conv=>whnf)
  refine ask_c (p_pair_Agree_v _ _) H rfl rfl (fun v68 H=>?_);conv=>whnf
  iterate 2 (refine Tst.F ?_;conv=>whnf)
  refine Tst.not ?_
  refine tst_d H (fun b69 H=>?_) (fun b69 H=>?_)
  ·conv=>whnf
   iterate 5 (refine Tst.T ?_;conv=>whnf)
   obtain rfl:=Option.some.inj H
   have H:=HQ6
   try dsimp only at H
   exact fb_ H
  conv=>whnf
  iterate 2 (refine Tst.F ?_;conv=>whnf)
  refine ask_c (p_pair_Check_v _ _) H rfl rfl (fun v70 H=>?_);conv=>whnf
  iterate 2 (refine Tst.F ?_;conv=>whnf)
  refine tst_c H (fun b71 H=>?_) (fun b71 H=>?_)
  ·conv=>whnf
   obtain rfl:=Option.some.inj H
   have H:=HQ6
   try dsimp only at H
   exact fb_ H
  conv=>whnf
  refine lq_ ?_;conv=>whnf
  refine Ari.w ?_;conv=>whnf
  exact again_c [6,7,8,9,10,11,12,13,14,15,21,22,23,24,25,26,27,28,29,30,31,32,33,34,35,36,37,38,39,40,41,42,43,44,45,46,47,48,49,50,51,52,53,54,55,56,57,58,59,60,61,62,63,64,65,66,67,68,69,70,71,72,73,74,75,76,77,78,79,80,81,82,83,84,85,86,87,88,89,90,91,92,93,94,95,96,97,98,99,100,101,102,103,104,105,106,107,108,109,110,111,112,113,114,115,116,117,118,119,120,121,122,123,124,125,126,127,128,129,130,131,132,133,134,135,136,137,138,139,140,141,142,143,144,145,146] n7 2 [] (⟨_,_,_,_,_,_,H,rfl,rfl⟩) (Nat.lt_succ_self _) (Nat.zero_le _) rfl (by kernel_rfl) (by kernel_rfl) rfl ⟨⟨rfl,rfl,rfl⟩,⟨⟨rfl,rfl,rfl⟩,trivial⟩⟩
 rw [hK16] at H
 try dsimp only at H
 conv=>whnf
 obtain ⟨K74,hK75,o76,HL77,HQ78⟩:=join0_c H
 refine join_c [2,3,4,6,7] [8,9,10,11,12,13,14,15,40,41,42,43,44,45,46,47,48,49,50,51,52,53,54,55,56,57,58,59,60,61,62,63,64,65,66,67,68,69,70,71,72,73,74,75,76,77,78,79,80,81,82,83,84,85,86,87,88,89,90,91,92,93,94,95,96,97,98,99,100,101,102,103,104,105,106,107,108,109,110,111,112,113,114,115,116,117,118,119] (fun vals st=>(∃ y91,K74 (.inr y91)=some o4∧vals=[.b false,.ptr 0 0,.ptr 1 0,.ptr 2 0,.ptr 3 0]∧st=[.live [.s (⟨#[97,110,110,64,120]⟩ : ByteArray),.s (⟨#[98,111,98,64,121]⟩ : ByteArray)] 0,.live [.i y9.A.Ver,.i y9.A.Floor,.sl (List.map ItemItem.v y9.A.Items) u10,.sl (List.map RosterGone.v y9.A.Gone) u11,.i y9.B.Ver,.i y9.B.Floor,.sl (List.map ItemItem.v y9.B.Items) u12,.sl (List.map RosterGone.v y9.B.Gone) u13] 0,.live [.s y26.A,.s y26.B] 0,.live [.i y91.A.Ver,.i y91.A.Floor,.sl (List.map ItemItem.v y91.A.Items) false,.sl (List.map RosterGone.v y91.A.Gone) false,.i y91.B.Ver,.i y91.B.Floor,.sl (List.map ItemItem.v y91.B.Items) false,.sl (List.map RosterGone.v y91.B.Gone) false] 0])) ?_ ?_
 ·have H:=HL77
  conv=>whnf
  refine ixs_c (f:=PairAct.v) H (fun _=>rfl) (fun x80 H=>?_);conv=>whnf
  refine lq_ ?_;conv=>whnf
  refine ⟨by decide,?_⟩;conv=>whnf
  refine tst_d H (fun b81 H=>?_) (fun b81 H=>?_)
  ·conv=>whnf
   refine ixs_c (f:=PairAct.v) H (fun _=>rfl) (fun x94 H=>?_);conv=>whnf
   refine lq_ ?_;conv=>whnf
   refine ⟨by decide,?_⟩;conv=>whnf
   refine Ari.w ?_;conv=>whnf
   refine ask_c (p_pair_Say_v _ _ _) H rfl rfl (fun v95 H=>?_);conv=>whnf
   refine lq_ ?_;conv=>whnf
   refine lq_ ?_;conv=>whnf
   refine FootQ.mk ⟨rfl,?_⟩;conv=>whnf
   refine tst_c H (fun b96 H=>?_) (fun b96 H=>?_)
   ·conv=>whnf
    iterate 11 (refine Tst.T ?_;conv=>whnf)
    obtain rfl:=Option.some.inj H
    have H:=HQ78
    rw [hK75] at H
    try dsimp only at H
    obtain rfl:=Option.some.inj H
    have H:=HQ6
    try dsimp only at H
    exact fb_ H
   conv=>whnf
   iterate 2 (refine Tst.F ?_;conv=>whnf)
   refine tst_c H (fun b97 H=>?_) (fun b97 H=>?_)
   ·conv=>whnf
    iterate 2 (refine Tst.T ?_;conv=>whnf)
    refine Tst.F ?_;conv=>whnf
    refine Tst.T ?_;conv=>whnf
    refine Tst.F ?_;conv=>whnf
    refine Tst.not ?_
    refine tst_d H (fun b98 H=>?_) (fun b98 H=>?_)
    ·conv=>whnf
     iterate 6 (refine Tst.T ?_;conv=>whnf)
     obtain rfl:=Option.some.inj H
     have H:=HQ78
     rw [hK75] at H
     try dsimp only at H
     obtain rfl:=Option.some.inj H
     have H:=HQ6
     try dsimp only at H
     exact fb_ H
    conv=>whnf
    iterate 3 (refine Tst.F ?_;conv=>whnf)
    refine Tst.not ?_
    refine Tst.isT b98 ?_;conv=>whnf
    iterate 7 (refine Tst.F ?_;conv=>whnf)
    refine lq_ ?_;conv=>whnf
    obtain rfl:=Option.some.inj H
    exact arrive_c [8,9,10,11,12,13,14,15,40,41,42,43,44,45,46,47,48,49,50,51,52,53,54,55,56,57,58,59,60,61,62,63,64,65,66,67,68,69,70,71,72,73,74,75,76,77,78,79,80,81,82,83,84,85,86,87,88,89,90,91,92,93,94,95,96,97,98,99,100,101,102,103,104,105,106,107,108,109,110,111,112,113,114,115,116,117,118,119] 4 [] (⟨_,HQ78,rfl,rfl⟩) (Nat.zero_le _) rfl (by kernel_rfl) (by kernel_rfl) rfl ⟨⟨rfl,rfl,rfl⟩,⟨⟨rfl,rfl,rfl⟩,⟨⟨rfl,rfl,rfl⟩,⟨⟨rfl,rfl,rfl⟩,trivial⟩⟩⟩⟩
   conv=>whnf
   iterate 9 (refine Tst.F ?_;conv=>whnf)
   refine Tst.not ?_
   refine tst_c H (fun b99 H=>?_) (fun b99 H=>?_)
   ·conv=>whnf
    iterate 7 (refine Tst.F ?_;conv=>whnf)
    refine lq_ ?_;conv=>whnf
    obtain rfl:=Option.some.inj H
    exact arrive_c [8,9,10,11,12,13,14,15,40,41,42,43,44,45,46,47,48,49,50,51,52,53,54,55,56,57,58,59,60,61,62,63,64,65,66,67,68,69,70,71,72,73,74,75,76,77,78,79,80,81,82,83,84,85,86,87,88,89,90,91,92,93,94,95,96,97,98,99,100,101,102,103,104,105,106,107,108,109,110,111,112,113,114,115,116,117,118,119] 4 [] (⟨_,HQ78,rfl,rfl⟩) (Nat.zero_le _) rfl (by kernel_rfl) (by kernel_rfl) rfl ⟨⟨rfl,rfl,rfl⟩,⟨⟨rfl,rfl,rfl⟩,⟨⟨rfl,rfl,rfl⟩,⟨⟨rfl,rfl,rfl⟩,trivial⟩⟩⟩⟩
   conv=>whnf
   iterate 2 (refine Tst.T ?_;conv=>whnf)
   refine tst_c H (fun b100 H=>?_) (fun b100 H=>?_)
   ·conv=>whnf
    iterate 3 (refine Tst.T ?_;conv=>whnf)
    refine Tst.F ?_;conv=>whnf
    refine Tst.T ?_;conv=>whnf
    refine Tst.F ?_;conv=>whnf
    refine Tst.T ?_;conv=>whnf
    obtain rfl:=Option.some.inj H
    have H:=HQ78
    rw [hK75] at H
    try dsimp only at H
    obtain rfl:=Option.some.inj H
    have H:=HQ6
    try dsimp only at H
    exact fb_ H
   conv=>whnf
   refine Tst.F ?_;conv=>whnf
   refine Tst.T ?_;conv=>whnf
   iterate 2 (refine Tst.F ?_;conv=>whnf)
   refine Tst.T ?_;conv=>whnf
   refine Tst.F ?_;conv=>whnf
   refine tst_c H (fun b101 H=>?_) (fun b101 H=>?_)
   ·conv=>whnf
    obtain rfl:=Option.some.inj H
    have H:=HQ78
    rw [hK75] at H
    try dsimp only at H
    obtain rfl:=Option.some.inj H
    have H:=HQ6
    try dsimp only at H
    exact fb_ H
   conv=>whnf
   refine lq_ ?_;conv=>whnf
   obtain rfl:=Option.some.inj H
   exact arrive_c [8,9,10,11,12,13,14,15,40,41,42,43,44,45,46,47,48,49,50,51,52,53,54,55,56,57,58,59,60,61,62,63,64,65,66,67,68,69,70,71,72,73,74,75,76,77,78,79,80,81,82,83,84,85,86,87,88,89,90,91,92,93,94,95,96,97,98,99,100,101,102,103,104,105,106,107,108,109,110,111,112,113,114,115,116,117,118,119] 4 [] (⟨_,HQ78,rfl,rfl⟩) (Nat.zero_le _) rfl (by kernel_rfl) (by kernel_rfl) rfl ⟨⟨rfl,rfl,rfl⟩,⟨⟨rfl,rfl,rfl⟩,⟨⟨rfl,rfl,rfl⟩,⟨⟨rfl,rfl,rfl⟩,trivial⟩⟩⟩⟩
  conv=>whnf
  refine ask_c (p_pair_Remove_v _ _) H rfl rfl (fun v82 H=>?_);conv=>whnf
  refine lq_ ?_;conv=>whnf
  refine lq_ ?_;conv=>whnf
  refine ask_c (p_pair_Turn_v _ _) H rfl rfl (fun v83 H=>?_);conv=>whnf
  refine lq_ ?_;conv=>whnf
  refine lq_ ?_;conv=>whnf
  refine tst_d H (fun b84 H=>?_) (fun b84 H=>?_)
  ·conv=>whnf
   iterate 8 (refine Tst.F ?_;conv=>whnf)
   refine tst_d H (fun b92 H=>?_) (fun b92 H=>?_)
   ·conv=>whnf
    iterate 5 (refine Tst.F ?_;conv=>whnf)
    refine lq_ ?_;conv=>whnf
    obtain rfl:=Option.some.inj H
    exact arrive_c [8,9,10,11,12,13,14,15,40,41,42,43,44,45,46,47,48,49,50,51,52,53,54,55,56,57,58,59,60,61,62,63,64,65,66,67,68,69,70,71,72,73,74,75,76,77,78,79,80,81,82,83,84,85,86,87,88,89,90,91,92,93,94,95,96,97,98,99,100,101,102,103,104,105,106,107,108,109,110,111,112,113,114,115,116,117,118,119] 4 [] (⟨_,HQ78,rfl,rfl⟩) (Nat.zero_le _) rfl (by kernel_rfl) (by kernel_rfl) rfl ⟨⟨rfl,rfl,rfl⟩,⟨⟨rfl,rfl,rfl⟩,⟨⟨rfl,rfl,rfl⟩,⟨⟨rfl,rfl,rfl⟩,trivial⟩⟩⟩⟩
   conv=>whnf
   refine Tst.T ?_;conv=>whnf
   refine Tst.F ?_;conv=>whnf
   refine Tst.T ?_;conv=>whnf
   refine Tst.F ?_;conv=>whnf
   refine tst_c H (fun b93 H=>?_) (fun b93 H=>?_)
   ·conv=>whnf
    obtain rfl:=Option.some.inj H
    have H:=HQ78
    rw [hK75] at H
    try dsimp only at H
    obtain rfl:=Option.some.inj H
    have H:=HQ6
    try dsimp only at H
    exact fb_ H
   conv=>whnf
   refine lq_ ?_;conv=>whnf
   obtain rfl:=Option.some.inj H
   exact arrive_c [8,9,10,11,12,13,14,15,40,41,42,43,44,45,46,47,48,49,50,51,52,53,54,55,56,57,58,59,60,61,62,63,64,65,66,67,68,69,70,71,72,73,74,75,76,77,78,79,80,81,82,83,84,85,86,87,88,89,90,91,92,93,94,95,96,97,98,99,100,101,102,103,104,105,106,107,108,109,110,111,112,113,114,115,116,117,118,119] 4 [] (⟨_,HQ78,rfl,rfl⟩) (Nat.zero_le _) rfl (by kernel_rfl) (by kernel_rfl) rfl ⟨⟨rfl,rfl,rfl⟩,⟨⟨rfl,rfl,rfl⟩,⟨⟨rfl,rfl,rfl⟩,⟨⟨rfl,rfl,rfl⟩,trivial⟩⟩⟩⟩
  conv=>whnf
  iterate 2 (refine Tst.T ?_;conv=>whnf)
  refine ask_c (p_pair_Sees_v _ _) H rfl rfl (fun v85 H=>?_);conv=>whnf
  refine Tst.T ?_;conv=>whnf
  refine tst_c H (fun b86 H=>?_) (fun b86 H=>?_)
  ·conv=>whnf
   iterate 11 (refine Tst.T ?_;conv=>whnf)
   obtain rfl:=Option.some.inj H
   have H:=HQ78
   rw [hK75] at H
   try dsimp only at H
   obtain rfl:=Option.some.inj H
   have H:=HQ6
   try dsimp only at H
   exact fb_ H
  conv=>whnf
  iterate 2 (refine Tst.F ?_;conv=>whnf)
  refine ask_c (p_pair_Sees_v _ _) H rfl rfl (fun v87 H=>?_);conv=>whnf
  refine Tst.T ?_;conv=>whnf
  refine Tst.F ?_;conv=>whnf
  refine Tst.T ?_;conv=>whnf
  refine tst_c H (fun b88 H=>?_) (fun b88 H=>?_)
  ·conv=>whnf
   iterate 5 (refine Tst.T ?_;conv=>whnf)
   obtain rfl:=Option.some.inj H
   have H:=HQ78
   rw [hK75] at H
   try dsimp only at H
   obtain rfl:=Option.some.inj H
   have H:=HQ6
   try dsimp only at H
   exact fb_ H
  conv=>whnf
  iterate 2 (refine Tst.F ?_;conv=>whnf)
  refine tst_d H (fun b89 H=>?_) (fun b89 H=>?_)
  ·conv=>whnf
   iterate 5 (refine Tst.F ?_;conv=>whnf)
   refine lq_ ?_;conv=>whnf
   obtain rfl:=Option.some.inj H
   exact arrive_c [8,9,10,11,12,13,14,15,40,41,42,43,44,45,46,47,48,49,50,51,52,53,54,55,56,57,58,59,60,61,62,63,64,65,66,67,68,69,70,71,72,73,74,75,76,77,78,79,80,81,82,83,84,85,86,87,88,89,90,91,92,93,94,95,96,97,98,99,100,101,102,103,104,105,106,107,108,109,110,111,112,113,114,115,116,117,118,119] 4 [] (⟨_,HQ78,rfl,rfl⟩) (Nat.zero_le _) rfl (by kernel_rfl) (by kernel_rfl) rfl ⟨⟨rfl,rfl,rfl⟩,⟨⟨rfl,rfl,rfl⟩,⟨⟨rfl,rfl,rfl⟩,⟨⟨rfl,rfl,rfl⟩,trivial⟩⟩⟩⟩
  conv=>whnf
  refine Tst.T ?_;conv=>whnf
  refine Tst.F ?_;conv=>whnf
  refine Tst.T ?_;conv=>whnf
  refine Tst.F ?_;conv=>whnf
  refine tst_c H (fun b90 H=>?_) (fun b90 H=>?_)
  ·conv=>whnf
   obtain rfl:=Option.some.inj H
   have H:=HQ78
   rw [hK75] at H
   try dsimp only at H
   obtain rfl:=Option.some.inj H
   have H:=HQ6
   try dsimp only at H
   exact fb_ H
  conv=>whnf
  refine lq_ ?_;conv=>whnf
  obtain rfl:=Option.some.inj H
  exact arrive_c [8,9,10,11,12,13,14,15,40,41,42,43,44,45,46,47,48,49,50,51,52,53,54,55,56,57,58,59,60,61,62,63,64,65,66,67,68,69,70,71,72,73,74,75,76,77,78,79,80,81,82,83,84,85,86,87,88,89,90,91,92,93,94,95,96,97,98,99,100,101,102,103,104,105,106,107,108,109,110,111,112,113,114,115,116,117,118,119] 4 [] (⟨_,HQ78,rfl,rfl⟩) (Nat.zero_le _) rfl (by kernel_rfl) (by kernel_rfl) rfl ⟨⟨rfl,rfl,rfl⟩,⟨⟨rfl,rfl,rfl⟩,⟨⟨rfl,rfl,rfl⟩,⟨⟨rfl,rfl,rfl⟩,trivial⟩⟩⟩⟩
 rintro _ _ (⟨y91,H,rfl,rfl⟩)
 rw [hK75] at H
 try dsimp only at H
 conv=>whnf
 obtain ⟨K102,hK103,o104,HL105,HQ106⟩:=join0_c H
 refine join_c [3,4,6,7] [120,121,122,123,124,125,126,127,128,129,130] (fun vals st=>(∃ y111 y112,K102 (y111,y112)=some o4∧vals=[.ptr 0 0,.ptr 1 0,.ptr 2 0,.ptr 3 0]∧st=[.live [.s (⟨#[97,110,110,64,120]⟩ : ByteArray),.s (⟨#[98,111,98,64,121]⟩ : ByteArray)] 0,.live [.i y9.A.Ver,.i y9.A.Floor,.sl (List.map ItemItem.v y9.A.Items) u10,.sl (List.map RosterGone.v y9.A.Gone) u11,.i y9.B.Ver,.i y9.B.Floor,.sl (List.map ItemItem.v y9.B.Items) u12,.sl (List.map RosterGone.v y9.B.Gone) u13] 0,.live [.s y111.A,.s y111.B] 0,.live [.i y112.A.Ver,.i y112.A.Floor,.sl (List.map ItemItem.v y112.A.Items) false,.sl (List.map RosterGone.v y112.A.Gone) false,.i y112.B.Ver,.i y112.B.Floor,.sl (List.map ItemItem.v y112.B.Items) false,.sl (List.map RosterGone.v y112.B.Gone) false] 0])) ?_ ?_
 ·have H:=HL105
  conv=>whnf
  refine ixs_c (f:=PairAct.v) H (fun _=>rfl) (fun x108 H=>?_);conv=>whnf
  refine lq_ ?_;conv=>whnf
  refine tst_d H (fun b109 H=>?_) (fun b109 H=>?_)
  ·conv=>whnf
   obtain rfl:=Option.some.inj H
   exact arrive_c [120,121,122,123,124,125,126,127,128,129,130] 4 [] (⟨_,_,HQ106,rfl,rfl⟩) (Nat.zero_le _) rfl (by kernel_rfl) (by kernel_rfl) rfl ⟨⟨rfl,rfl,rfl⟩,⟨⟨rfl,rfl,rfl⟩,⟨⟨rfl,rfl,rfl⟩,⟨⟨rfl,rfl,rfl⟩,trivial⟩⟩⟩⟩
  conv=>whnf
  refine ask_c (p_pair_Turn_v _ _) H rfl rfl (fun v110 H=>?_);conv=>whnf
  refine lq_ ?_;conv=>whnf
  refine lq_ ?_;conv=>whnf
  obtain rfl:=Option.some.inj H
  exact arrive_c [120,121,122,123,124,125,126,127,128,129,130] 4 [] (⟨_,_,HQ106,rfl,rfl⟩) (Nat.zero_le _) rfl (by kernel_rfl) (by kernel_rfl) rfl ⟨⟨rfl,rfl,rfl⟩,⟨⟨rfl,rfl,rfl⟩,⟨⟨rfl,rfl,rfl⟩,⟨⟨rfl,rfl,rfl⟩,trivial⟩⟩⟩⟩
 rintro _ _ (⟨y111,y112,H,rfl,rfl⟩)
 rw [hK103] at H
 try dsimp only at H
 conv=>whnf
 refine Tst.not ?_
 refine tst_d H (fun b113 H=>?_) (fun b113 H=>?_)
 ·conv=>whnf
  iterate 10 (refine Tst.T ?_;conv=>whnf)
  obtain rfl:=Option.some.inj H
  have H:=HQ6
  try dsimp only at H
  exact fb_ H
 conv=>whnf
 iterate 2 (refine Tst.F ?_;conv=>whnf)
 refine ask_c (p_pair_Agree_v _ _) H rfl rfl (fun v114 H=>?_);conv=>whnf
 iterate 2 (refine Tst.F ?_;conv=>whnf)
 refine Tst.not ?_
 refine tst_d H (fun b115 H=>?_) (fun b115 H=>?_)
 ·conv=>whnf
  iterate 5 (refine Tst.T ?_;conv=>whnf)
  obtain rfl:=Option.some.inj H
  have H:=HQ6
  try dsimp only at H
  exact fb_ H
 conv=>whnf
 iterate 2 (refine Tst.F ?_;conv=>whnf)
 refine ask_c (p_pair_Check_v _ _) H rfl rfl (fun v116 H=>?_);conv=>whnf
 iterate 2 (refine Tst.F ?_;conv=>whnf)
 refine tst_c H (fun b117 H=>?_) (fun b117 H=>?_)
 ·conv=>whnf
  obtain rfl:=Option.some.inj H
  have H:=HQ6
  try dsimp only at H
  exact fb_ H
 conv=>whnf
 refine lq_ ?_;conv=>whnf
 refine Ari.w ?_;conv=>whnf
 exact again_c [6,7,8,9,10,11,12,13,14,15,21,22,23,24,25,26,27,28,29,30,31,32,33,34,35,36,37,38,39,40,41,42,43,44,45,46,47,48,49,50,51,52,53,54,55,56,57,58,59,60,61,62,63,64,65,66,67,68,69,70,71,72,73,74,75,76,77,78,79,80,81,82,83,84,85,86,87,88,89,90,91,92,93,94,95,96,97,98,99,100,101,102,103,104,105,106,107,108,109,110,111,112,113,114,115,116,117,118,119,120,121,122,123,124,125,126,127,128,129,130,131,132,133,134,135,136,137,138,139,140,141,142,143,144,145,146] n7 2 [] (⟨_,_,_,_,_,_,H,rfl,rfl⟩) (Nat.lt_succ_self _) (Nat.zero_le _) rfl (by kernel_rfl) (by kernel_rfl) rfl ⟨⟨rfl,rfl,rfl⟩,⟨⟨rfl,rfl,rfl⟩,trivial⟩⟩
end Go.Proofs.Ytmmmcpeickfolaa

namespace Go.Proofs.Ytmmmcpeickfolaa
open Go.ChangeShapes Go.WideShapes Go.ChangeAt Go.RowKit Go.Joins Go.Deep
theorem pairAgree_named:Try.pinned.checked.prog.funcNamed Rows.pairAgreeRow.func=some 6:=by kernel_rfl
theorem pairAgree_closed:joinedFacts Try.pinned.checked.prog 6 Try.f6 Rows.pairAgreeSpec Rows.pairAgreeRow=true:=by kernel_rfl
end Go.Proofs.Ytmmmcpeickfolaa

namespace Go.Proofs.Ytmmmcpeickfolaa
open Go.ChangeShapes Go.WideShapes Go.ChangeAt Go.RowKit Go.Joins Go.Deep
set_option maxRecDepth 100000 in
theorem pairAgree_lifted (os:Os) (started:os.Started) (H:Type) (enc:TypeId × Value→H) :
  ReturnsInHanded {} Try.checked os 6 .any (Rows.pairAgreeSpec.pre6 enc Try.prog Try.f6 Rows.pairAgreeRow.domain false) (Rows.pairAgreeSpec.post enc Try.prog Try.f6 false true false false):=by
 refine returnsInHanded_of_change_shaped (C:=Try.checked) own0 started (by kernel_rfl) Try.func6
  (ChangeSpec.witness6 (enc:=enc) (C:=Try.checked) false ⟨#[],#[.slice none 0 0],[]⟩ 8 (by kernel_rfl) (by kernel_rfl) (by kernel_rfl) (by kernel_rfl)) ?_
 intro W base args ds gs before hval0 hW hcnd _ hsh _
 have hval:∀ (j:Nat) t v,Try.f6.params[j]?=some t→args[j]?=some v→Value.okWide Try.prog W .any base t v:=hval0
 have hW':=hW
 obtain ⟨p,q,hA0,hV,rfl,hfz,hnd⟩:=hW
 have hA:DataW.TrodAll enc Try.prog W 0 (fun _=>true) true Try.f6.params.toList args.toList ds p:=hA0
 rw [Try.params6] at hA hval
 have hA2:=hA
 obtain ⟨v0,d0,rfl,rfl,h0⟩:=trodAll_one hA
 obtain ⟨rfl,rfl⟩:=trodVars_none hV
 obtain ⟨fu0,hf0⟩:=h0
 obtain ⟨q0,l0,k0,rfl⟩:=okWide_slice Try.underlying68 (hval 0 _ v0 rfl rfl)
 obtain ⟨a0,w0,r0⟩:=rd_T68 hf0
 have hx0:Rep (MW W) noBk _ _:=r0.2 0 (by simp [Value.cells]) (by simp)
 refine (rep_one (callsO_true (p_law22_PairAgree_v a0) (tru_ok (pairAgree_all a0 w0))) (maxLen_cell W hsh) (repAr1 hx0)).mono ?_
 rintro e W' ⟨rfl,bel⟩
 refine ⟨_,rfl,_,_,_,[],p,[],hW',?_,?_,?_,?_,?_⟩
 ·exact trodAll_mk1 (shut_bool Try.underlying4 true)
 ·exact trodAll_below laid0 bel (by
   intro t ht
   simp at ht
   rcases ht with rfl <;> exact ⟨by kernel_rfl,of_decide_eq_true (by kernel_rfl)⟩) hA2
 ·rfl
 ·exact bel.frame _
 ·exact fun h=>by cases h
theorem pairAgree_holds:Rows.PairAgreeSaid :=
 OpenClaim.holds_of_wide 6 Try.f6 rfl rfl rfl rfl rfl rfl rfl ⟨rfl,rfl,rfl,rfl,rfl⟩ rfl rfl rfl rfl rfl pairAgree_named Try.func6 pairAgree_closed
  (of_decide_eq_true (by kernel_rfl)) (by unfold Func.isWrapper;first | (rw [if_pos (by decide +kernel)];kernel_rfl) | (rw [if_neg (by decide +kernel)];exact ⟨rfl,rfl⟩))
  (fun os started H enc _=>pairAgree_lifted os started H enc)
#print axioms pairAgree_holds
end Go.Proofs.Ytmmmcpeickfolaa

