/- A part of the proof: 4 texts joined. -/
import Derived.Test.YtpmoioopjbfhkaaGreatWgA5
import Derived.Test.YtpmoioopjbfhkaaGreatWgA9
import Derived.Test.YtpmoioopjbfhkaaGreatWgA11
import Derived.Test.YtpmoioopjbfhkaaGreatWgA12
import Derived.Test.YtpmoioopjbfhkaaGreatWeA5
import Derived.KernelRfl
import Derived.Test.YtpmoioopjbfhkaaGreatWgA7
import Derived.Test.YtpmoioopjbfhkaaGreatWgA8
set_option linter.all false
namespace Go.Proofs.YtpmoioopjbfhkaaGreat
open Go.RowKit
set_option maxRecDepth 1000000
set_option maxHeartbeats 4000000
def gc72:BCode:=(.seq (R_ 0 [O_ 4 (.mv (b_ false)) 0]) (.seq (.seq (R_ 0 [O_ 6 (.mv (t_ 0)) 0,O_ 7 (.lens (t_ 6)) 0,O_ 8 (.mv (t_ 1)) 0,O_ 9 (.lens (t_ 8)) 0,O_ 10 (.bin .neq (t_ 7) (t_ 9)) 0]) (.cond (t_ 10) (.seq (R_ 0 [O_ 4 (.mv (b_ false)) 0]) .ret) .skip)) (.seq (.seq (R_ 0 [O_ 5 (.mv (i_ 0)) 0]) (.block 0 (.loop (.seq (.seq (R_ 0 [O_ 11 (.mv (t_ 5)) 0,O_ 12 (.mv (t_ 0)) 0,O_ 13 (.lens (t_ 12)) 0,O_ 14 (.bin .lss (t_ 11) (t_ 13)) 0]) (.cond (t_ 14) .skip (.exit 0))) (.seq (.block 1 (.seq (.reg 0 [O_ 17 (.mv (t_ 0)) 0,O_ 18 (.mv (t_ 5)) 0,O_ 19 (.ixs 4 (t_ 17) (t_ 18)) 0,O_ 20 (.ld 4 true (t_ 19)) 0,O_ 21 (.mv (t_ 1)) 0,O_ 22 (.mv (t_ 5)) 0,O_ 23 (.ixs 4 (t_ 21) (t_ 22)) 0,O_ 24 (.ld 4 true (t_ 23)) 0,O_ 25 (.eqa true [0,0,0,0] (t_ 20) (t_ 24)) 0] (some [[],[],[1,0],[0,1,2],[],[],[5,4],[4,5,6],[6,5,4,7,2,1,0,3]]) 0 []) (.cond (t_ 25) (.seq (R_ 0 [O_ 4 (.mv (b_ false)) 0]) .ret) .skip))) (R_ 0 [O_ 15 (.mv (t_ 5)) 0,O_ 16 (.bin .add (t_ 15) (i_ 1)) 0,O_ 5 (.mv (t_ 16)) 0])))))) (.seq (R_ 0 [O_ 4 (.mv (b_ true)) 0]) .ret))))
theorem gc72_ok:compF Tryz.prog Tryz.f72=some (gc72.er,26,[.tmp 4]):=by unfold gc72;kernel_rfl
theorem p_ref22_SameDone_v {u1 u2:Bool} (a0:List PairDone) (a1:List PairDone):CallsO Tryz.prog 72 [.sl (List.map PairDone.v a0) u1,.sl (List.map PairDone.v a1) u2] V.b (p_ref22_SameDone a0 a1):=by
 refine callsO_comp mix Tryz.func72 gc72_ok fun r H=>?_
 rw [p_ref22_SameDone] at H
 conv=>whnf
 iterate 2 (refine LenQ.M ?_;conv=>whnf)
 refine tst_c H (fun b1 H=>?_) (fun b1 H=>?_)
 ·conv=>whnf
  exact fb_ H
 conv=>whnf
 obtain ⟨o3,HL4,HQ5⟩:=bind_c H
 refine loop_c [4,5] [11,12,13,14,15,16,17,18,19,20,21,22,23,24,25] [11,12,13,14,15,16,17,18,19,20,21,22,23,24,25] (fun n vals st=>(∃ y7,p_ref22_SameDone_l1  a0 a1 n y7=some o3∧vals=[.b false,.i y7]∧st=[])) fuel 0 [] (⟨_,HL4,rfl,rfl⟩) (Nat.zero_le _) rfl (by kernel_rfl) (by kernel_rfl) rfl trivial ?_
 rintro (_ | n6) _ _ (⟨y7,H,rfl,rfl⟩)
 ·rw [p_ref22_SameDone_l1] at H;cases H
 rw [p_ref22_SameDone_l1] at H
 conv=>whnf
 refine LenQ.M ?_;conv=>whnf
 refine tst_d H (fun b8 H=>?_) (fun b8 H=>?_)
 ·conv=>whnf
  obtain rfl:=Option.some.inj H
  have H:=HQ5
  try dsimp only at H
  exact fb_ H
 conv=>whnf
 refine ixs_c (f:=PairDone.v) H (fun _=>rfl) (fun x9 H=>?_);conv=>whnf
 refine ixs_c (f:=PairDone.v) H (fun _=>rfl) (fun x10 H=>?_);conv=>whnf
 refine FootQ.mk ⟨rfl,?_⟩;conv=>whnf
 refine Tst.not ?_
 refine tst_d H (fun b11 H=>?_) (fun b11 H=>?_)
 ·conv=>whnf
  obtain rfl:=Option.some.inj H
  have H:=HQ5
  try dsimp only at H
  exact fb_ H
 conv=>whnf
 refine Ari.w ?_;conv=>whnf
 exact again_c [11,12,13,14,15,16,17,18,19,20,21,22,23,24,25] n6 0 [] (⟨_,H,rfl,rfl⟩) (Nat.lt_succ_self _) (Nat.zero_le _) rfl (by kernel_rfl) (by kernel_rfl) rfl trivial
def gc54:BCode:=(.seq (R_ 0 [O_ 0 (.mv (b_ false)) 0]) (.seq (R_ 1 [O_ 15 (.bd [(.lit (.string ⟨#[]⟩)),(.lit (.string ⟨#[]⟩))] [(0,1,(.const (.string ⟨#[97,64,120]⟩))),(1,1,(.const (.string ⟨#[98,64,120]⟩)))]) 0,O_ 1 (.al (.agg [(.lit (.string ⟨#[]⟩)),(.lit (.string ⟨#[]⟩))])) 0,U_ (.st 2 (t_ 1) (t_ 15)) 1]) (.seq (R_ 2 [O_ 17 (.ld 2 true (t_ 1)) 0,O_ 18 (.bd [(.lit (.int .i64 0)),(.lit (.int .i64 0)),(.sl [] true),(.sl [] true),(.lit (.int .i64 0)),(.lit (.int .i64 0)),(.sl [] true),(.sl [] true)] []) 0,O_ 19 (.bd [(.lit (.int .u8 0)),(.lit (.bool false))] [(0,1,(.const (.int .u8 7)))]) 0,O_ 20 (.bd [(.lit (.int .u8 0)),(.lit (.bool false))] [(0,1,(.const (.int .u8 8))),(1,1,(b_ true))]) 0,O_ 21 (.bd [(.lit (.int .u8 0)),(.lit (.bool false))] [(0,1,(.const (.int .u8 8)))]) 0,O_ 22 (.bs 2 3 [(.lit (.int .u8 0)),(.lit (.bool false)),(.lit (.int .u8 0)),(.lit (.bool false)),(.lit (.int .u8 0)),(.lit (.bool false))] [(0,(t_ 19)),(1,(t_ 20)),(2,(t_ 21))]) 0,O_ 23 (.cl 70 [(t_ 17),(t_ 18),(t_ 22)]) 1,O_ 16 (.mv (t_ 23)) 1,O_ 24 (.ex (t_ 16) 0) 1,O_ 25 (.ex (t_ 16) 1) 1,O_ 2 (.al (.agg [(.lit (.int .i64 0)),(.lit (.int .i64 0)),(.sl [] true),(.sl [] true),(.lit (.int .i64 0)),(.lit (.int .i64 0)),(.sl [] true),(.sl [] true)])) 1,U_ (.st 8 (t_ 2) (t_ 24)) 2,O_ 3 (.mv (t_ 25)) 2]) (.seq (R_ 2 [O_ 27 (.ld 2 true (t_ 1)) 0,O_ 28 (.ld 8 true (t_ 2)) 0,O_ 29 (.cl 58 [(t_ 27),(t_ 28)]) 0,O_ 26 (.mv (t_ 29)) 0,O_ 30 (.ex (t_ 26) 0) 0,O_ 31 (.ex (t_ 26) 1) 0,O_ 32 (.ex (t_ 26) 2) 0,O_ 4 (.al (.agg [(.lit (.int .i64 0)),(.lit (.int .i64 0)),(.sl [] true),(.sl [] true),(.lit (.int .i64 0)),(.lit (.int .i64 0)),(.sl [] true),(.sl [] true)])) 0,O_ 5 (.al (.agg [(.lit (.bool false)),(.lit (.bool false))])) 1,U_ (.st 8 (t_ 4) (t_ 30)) 2,U_ (.st 2 (t_ 5) (t_ 31)) 2,O_ 6 (.mv (t_ 32)) 2]) (.seq (R_ 2 [O_ 34 (.ld 2 true (t_ 1)) 0,O_ 35 (.ld 8 true (t_ 2)) 0,O_ 36 (.cl 60 [(t_ 34),(t_ 35)]) 0,O_ 33 (.mv (t_ 36)) 0,O_ 37 (.ex (t_ 33) 0) 0,O_ 38 (.ex (t_ 33) 1) 0,O_ 7 (.al (.agg [(.lit (.string ⟨#[]⟩)),(.lit (.string ⟨#[]⟩))])) 0,O_ 8 (.al (.agg [(.lit (.int .i64 0)),(.lit (.int .i64 0)),(.sl [] true),(.sl [] true),(.lit (.int .i64 0)),(.lit (.int .i64 0)),(.sl [] true),(.sl [] true)])) 1,U_ (.st 2 (t_ 7) (t_ 37)) 2,U_ (.st 8 (t_ 8) (t_ 38)) 2]) (.seq (R_ 2 [O_ 40 (.ld 2 true (t_ 1)) 0,O_ 41 (.ld 8 true (t_ 4)) 0,O_ 42 (.cl 58 [(t_ 40),(t_ 41)]) 0,O_ 39 (.mv (t_ 42)) 0,O_ 43 (.ex (t_ 39) 0) 0,O_ 44 (.ex (t_ 39) 1) 0,O_ 45 (.ex (t_ 39) 2) 0,O_ 9 (.al (.agg [(.lit (.int .i64 0)),(.lit (.int .i64 0)),(.sl [] true),(.sl [] true),(.lit (.int .i64 0)),(.lit (.int .i64 0)),(.sl [] true),(.sl [] true)])) 0,O_ 10 (.al (.agg [(.lit (.bool false)),(.lit (.bool false))])) 1,U_ (.st 8 (t_ 9) (t_ 43)) 2,U_ (.st 2 (t_ 10) (t_ 44)) 2,O_ 11 (.mv (t_ 45)) 2]) (.seq (R_ 2 [O_ 47 (.ld 2 true (t_ 1)) 0,O_ 48 (.ld 8 true (t_ 2)) 0,O_ 49 (.cl 56 [(t_ 47),(t_ 48),(.const (.int .u8 15))]) 0,O_ 46 (.mv (t_ 49)) 0,O_ 50 (.ex (t_ 46) 0) 0,O_ 51 (.ex (t_ 46) 1) 0,O_ 52 (.ex (t_ 46) 2) 0,O_ 12 (.al (.agg [(.lit (.int .i64 0)),(.lit (.int .i64 0)),(.sl [] true),(.sl [] true),(.lit (.int .i64 0)),(.lit (.int .i64 0)),(.sl [] true),(.sl [] true)])) 0,O_ 13 (.al (.agg [(.lit (.bool false)),(.lit (.bool false)),(.lit (.bool false)),(.lit (.bool false))])) 1,U_ (.st 8 (t_ 12) (t_ 50)) 2,U_ (.st 4 (t_ 13) (t_ 51)) 2,O_ 14 (.mv (t_ 52)) 2]) (.seq (R_ 1 [O_ 53 (.mv (t_ 3)) 0,O_ 54 (.cl 73 [(t_ 53)]) 0,O_ 55 (.bd [(.lit (.bool false)),(.lit (.bool false)),(.lit (.bool false)),(.lit (.bool false))] [(0,1,(b_ true)),(1,1,(b_ true)),(2,1,(b_ true)),(3,1,(b_ true))]) 0,O_ 56 (.bd [(.lit (.bool false)),(.lit (.bool false)),(.lit (.bool false)),(.lit (.bool false))] [(0,1,(b_ true)),(1,1,(b_ true)),(2,1,(b_ true)),(3,1,(b_ true))]) 0,O_ 57 (.bd [(.lit (.bool false)),(.lit (.bool false)),(.lit (.bool false)),(.lit (.bool false))] []) 0,O_ 58 (.bs 4 3 [(.lit (.bool false)),(.lit (.bool false)),(.lit (.bool false)),(.lit (.bool false)),(.lit (.bool false)),(.lit (.bool false)),(.lit (.bool false)),(.lit (.bool false)),(.lit (.bool false)),(.lit (.bool false)),(.lit (.bool false)),(.lit (.bool false))] [(0,(t_ 55)),(1,(t_ 56)),(2,(t_ 57))]) 0,O_ 59 (.cl 72 [(t_ 54),(t_ 58)]) 1,O_ 60 (.mv (t_ 59)) 1,⟨(some 61),.ld 2 true (t_ 1),(some (60,true)),1⟩,⟨(some 62),.ld 8 true (t_ 2),(some (60,true)),1⟩,⟨(some 63),.cl 68 [(t_ 61),(t_ 62)],(some (60,true)),1⟩,O_ 64 (.pick (t_ 60) (t_ 63) (b_ false)) 1,O_ 65 (.mv (t_ 64)) 1,⟨(some 66),.ld 2 true (t_ 7),(some (65,true)),1⟩,⟨(some 67),.ld 8 true (t_ 8),(some (65,true)),1⟩,⟨(some 68),.cl 68 [(t_ 66),(t_ 67)],(some (65,true)),1⟩,⟨(some 69),.un .not (t_ 68),(some (65,true)),1⟩,O_ 70 (.pick (t_ 65) (t_ 69) (b_ false)) 1,O_ 71 (.mv (t_ 70)) 1,⟨(some 72),.ld 2 true (t_ 1),(some (71,true)),1⟩,⟨(some 73),.ld 8 true (t_ 2),(some (71,true)),1⟩,⟨(some 74),.cl 66 [(t_ 72),(t_ 73)],(some (71,true)),1⟩,O_ 75 (.pick (t_ 71) (t_ 74) (b_ false)) 1,O_ 76 (.mv (t_ 75)) 1,⟨(some 77),.mv (t_ 6),(some (76,true)),1⟩,⟨(some 78),.bin .eql (t_ 77) (i_ 0),(some (76,true)),1⟩,O_ 79 (.pick (t_ 76) (t_ 78) (b_ false)) 1,O_ 80 (.mv (t_ 79)) 1,⟨(some 81),.ld 2 true (t_ 5),(some (80,true)),1⟩,⟨(some 82),.bd [(.lit (.bool false)),(.lit (.bool false))] [(0,1,(b_ true)),(1,1,(b_ false))],(some (80,true)),1⟩,⟨(some 83),.eqa false [0,0] (t_ 81) (t_ 82),(some (80,true)),1⟩,O_ 84 (.pick (t_ 80) (t_ 83) (b_ false)) 1,O_ 85 (.mv (t_ 84)) 1,⟨(some 86),.ld 2 true (t_ 1),(some (85,true)),1⟩,⟨(some 87),.ld 8 true (t_ 4),(some (85,true)),1⟩,⟨(some 88),.cl 68 [(t_ 86),(t_ 87)],(some (85,true)),1⟩,⟨(some 89),.un .not (t_ 88),(some (85,true)),1⟩,O_ 90 (.pick (t_ 85) (t_ 89) (b_ false)) 1,O_ 91 (.mv (t_ 90)) 1,⟨(some 92),.mv (t_ 11),(some (91,true)),1⟩,⟨(some 93),.bin .eql (t_ 92) (i_ 6),(some (91,true)),1⟩,O_ 94 (.pick (t_ 91) (t_ 93) (b_ false)) 1,O_ 95 (.mv (t_ 94)) 1,⟨(some 96),.mv (t_ 14),(some (95,true)),1⟩,⟨(some 97),.bin .eql (t_ 96) (i_ 12),(some (95,true)),1⟩,O_ 98 (.pick (t_ 95) (t_ 97) (b_ false)) 1,O_ 99 (.mv (t_ 98)) 1,⟨(some 100),.ld 2 true (t_ 1),(some (99,true)),1⟩,⟨(some 101),.ld 8 true (t_ 4),(some (99,true)),1⟩,⟨(some 102),.cl 64 [(t_ 100),(t_ 101)],(some (99,true)),1⟩,⟨(some 103),.bin .eql (t_ 102) (i_ 0),(some (99,true)),1⟩,O_ 104 (.pick (t_ 99) (t_ 103) (b_ false)) 1,O_ 105 (.mv (t_ 104)) 1,⟨(some 106),.bd [(.lit (.string ⟨#[]⟩)),(.lit (.string ⟨#[]⟩))] [(0,1,(.const (.string ⟨#[97,64,120]⟩))),(1,1,(.const (.string ⟨#[97,64,120]⟩)))],(some (105,true)),1⟩,⟨(some 107),.ld 8 true (t_ 4),(some (105,true)),1⟩,⟨(some 108),.cl 64 [(t_ 106),(t_ 107)],(some (105,true)),1⟩,⟨(some 109),.bin .eql (t_ 108) (i_ 2),(some (105,true)),1⟩,O_ 110 (.pick (t_ 105) (t_ 109) (b_ false)) 1,O_ 111 (.mv (t_ 110)) 1,O_ 112 (.pick (t_ 111) (b_ true) (b_ false)) 1,O_ 0 (.mv (t_ 112)) 1]) .ret))))))))
theorem gc54_ok:compF Tryz.prog Tryz.f54=some (gc54.er,113,[.tmp 0]):=by unfold gc54;kernel_rfl
theorem p_law22_awake_t:CallsO Tryz.prog 54 [] V.b (tru? (p_law22_awake)):=by
 refine callsO_comp mix Tryz.func54 gc54_ok fun r H=>?_
 have H1:=tru_of H
 clear H
 obtain ⟨rfl,H⟩:=H1
 rw [p_law22_awake] at H
 conv=>whnf
 refine lq_ ?_;conv=>whnf
 refine askF_c (p_pair_Run_v _ _ _) H (.cons (fzagg (.cons (.id rfl) (.cons (.id rfl) (.nil))) rfl) (.cons (fzagg (.cons (.id rfl) (.cons (.id rfl) (.cons (.slw) (.cons (.slw) (.cons (.id rfl) (.cons (.id rfl) (.cons (.slw) (.cons (.slw) (.nil))))))))) rfl) (.cons (.c (fzown (f:=PairAct.v) (l:=[(PairAct.mk (7:Int) false),(PairAct.mk (8:Int) true),(PairAct.mk (8:Int) false)]) rfl rfl (fun _=>rfl) (fun _=>rfl))) (.nil)))) (fun v1 H=>?_);conv=>whnf
 refine lq_ ?_;conv=>whnf
 refine ask_c (p_pair_Remove_v _ _) H rfl rfl (fun v2 H=>?_);conv=>whnf
 refine lq_ ?_;conv=>whnf
 refine lq_ ?_;conv=>whnf
 refine ask_c (p_pair_Turn_v _ _) H rfl rfl (fun v3 H=>?_);conv=>whnf
 refine lq_ ?_;conv=>whnf
 refine lq_ ?_;conv=>whnf
 refine ask_c (p_pair_Remove_v _ _) H rfl rfl (fun v4 H=>?_);conv=>whnf
 refine lq_ ?_;conv=>whnf
 refine lq_ ?_;conv=>whnf
 refine ask_c (p_pair_Say_v _ _ _) H rfl rfl (fun v5 H=>?_);conv=>whnf
 refine lq_ ?_;conv=>whnf
 refine lq_ ?_;conv=>whnf
 refine ask_c (p_law22_done_v _) H rfl rfl (fun v6 H=>?_);conv=>whnf
 refine askF_c (p_ref22_SameDone_v _ _) H (.cons (.c (.id rfl)) (.cons (.c (fzown (f:=PairDone.v) (l:=[(PairDone.mk true true true true),(PairDone.mk true true true true),(PairDone.mk false false false false)]) rfl rfl (fun _=>rfl) (fun _=>rfl))) (.nil))) (fun v7 H=>?_);conv=>whnf
 refine tstT_c H (fun b8 H=>?_);conv=>whnf
 iterate 2 (refine Tst.T ?_;conv=>whnf)
 refine ask_c (p_pair_Sees_v _ _) H rfl rfl (fun v9 H=>?_);conv=>whnf
 refine Tst.T ?_;conv=>whnf
 refine tstT_c H (fun b10 H=>?_);conv=>whnf
 iterate 2 (refine Tst.T ?_;conv=>whnf)
 refine ask_c (p_pair_Sees_v _ _) H rfl rfl (fun v11 H=>?_);conv=>whnf
 iterate 2 (refine Tst.T ?_;conv=>whnf)
 refine Tst.not ?_
 refine tstF_c H (fun b12 H=>?_);conv=>whnf
 iterate 2 (refine Tst.T ?_;conv=>whnf)
 refine ask_c (p_pair_Agree_v _ _) H rfl rfl (fun v13 H=>?_);conv=>whnf
 refine Tst.T ?_;conv=>whnf
 refine tstT_c H (fun b14 H=>?_);conv=>whnf
 iterate 2 (refine Tst.T ?_;conv=>whnf)
 refine tstT_c H (fun b15 H=>?_);conv=>whnf
 iterate 3 (refine Tst.T ?_;conv=>whnf)
 refine tstT_c H (fun b16 H=>?_);conv=>whnf
 iterate 2 (refine Tst.T ?_;conv=>whnf)
 refine ask_c (p_pair_Sees_v _ _) H rfl rfl (fun v17 H=>?_);conv=>whnf
 iterate 2 (refine Tst.T ?_;conv=>whnf)
 refine Tst.not ?_
 refine tstF_c H (fun b18 H=>?_);conv=>whnf
 iterate 2 (refine Tst.T ?_;conv=>whnf)
 refine tstT_c H (fun b19 H=>?_);conv=>whnf
 iterate 2 (refine Tst.T ?_;conv=>whnf)
 refine tstT_c H (fun b20 H=>?_);conv=>whnf
 iterate 2 (refine Tst.T ?_;conv=>whnf)
 refine ask_c (p_pair_Check_v _ _) H rfl rfl (fun v21 H=>?_);conv=>whnf
 iterate 2 (refine Tst.T ?_;conv=>whnf)
 refine tstT_c H (fun b22 H=>?_);conv=>whnf
 iterate 2 (refine Tst.T ?_;conv=>whnf)
 refine ask_c (p_pair_Check_v _ _) H rfl rfl (fun v23 H=>?_);conv=>whnf
 iterate 2 (refine Tst.T ?_;conv=>whnf)
 refine tstT_c H (fun b24 H=>?_);conv=>whnf
 exact fb_ H
theorem p_law22_awake_true:p_law22_awake=some true:=by kernel_rfl
theorem p_law22_awake_v:CallsO Tryz.prog 54 [] V.b p_law22_awake:=tru_closed p_law22_awake_t p_law22_awake_true
end Go.Proofs.YtpmoioopjbfhkaaGreat

namespace Go.Proofs.YtpmoioopjbfhkaaGreat
open Go.RowKit Go.Deep
theorem pairRefused_all (f:Ar2_Bool) (l:List PairAct) (h:∀ x ∈ l,PairAct.Wf x):p_law22_PairRefused f l=some true:=pairRefused_pure p_law22_awake_true f l fun x hx=>(bounds_u8 (h x hx).Kind).1
end Go.Proofs.YtpmoioopjbfhkaaGreat

namespace Go.Proofs.YtpmoioopjbfhkaaGreat
open Go.RowKit
set_option maxRecDepth 100000
set_option maxHeartbeats 4000000
def gc138:BCode:=(.seq (R_ 0 [O_ 4 (.mv (b_ false)) 0]) (.seq (.seq (R_ 0 [O_ 6 (.mv (t_ 0)) 0,O_ 7 (.lens (t_ 6)) 0,O_ 8 (.mv (t_ 1)) 0,O_ 9 (.lens (t_ 8)) 0,O_ 10 (.bin .neq (t_ 7) (t_ 9)) 0]) (.cond (t_ 10) (.seq (R_ 0 [O_ 4 (.mv (b_ false)) 0]) .ret) .skip)) (.seq (.seq (R_ 0 [O_ 11 (.mv (t_ 0)) 0,O_ 12 (.lens (t_ 11)) 0,O_ 13 (.mv (i_ 0)) 0]) (.block 0 (.loop (.seq (R_ 0 [O_ 14 (.bin .lss (t_ 13) (t_ 12)) 0]) (.seq (.cond (t_ 14) .skip (.exit 0)) (.seq (.block 1 (.seq (R_ 0 [O_ 15 (.mv (t_ 13)) 0,O_ 5 (.mv (t_ 15)) 0]) (.seq (.reg 0 [O_ 16 (.mv (t_ 0)) 0,O_ 17 (.mv (t_ 5)) 0,O_ 18 (.ixs 5 (t_ 16) (t_ 17)) 0,O_ 19 (.ld 5 true (t_ 18)) 0,O_ 20 (.mv (t_ 1)) 0,O_ 21 (.mv (t_ 5)) 0,O_ 22 (.ixs 5 (t_ 20) (t_ 21)) 0,O_ 23 (.ld 5 true (t_ 22)) 0,O_ 24 (.eqa true [2,2,1,1,0] (t_ 19) (t_ 23)) 0] (some [[],[],[1,0],[0,1,2],[],[],[5,4],[4,5,6],[6,5,4,7,2,1,0,3]]) 0 []) (.cond (t_ 24) (.seq (R_ 0 [O_ 4 (.mv (b_ false)) 0]) .ret) .skip)))) (R_ 0 [O_ 25 (.bin .add (t_ 13) (i_ 1)) 0,O_ 13 (.mv (t_ 25)) 0]))))))) (.seq (R_ 0 [O_ 4 (.mv (b_ true)) 0]) .ret))))
theorem gc138_ok:compF Tryz.prog Tryz.f138=some (gc138.er,26,[.tmp 4]):=by unfold gc138;kernel_rfl
theorem p_slices_Equal_item_Item_v {u1 u2:Bool} (a0:List ItemItem) (a1:List ItemItem):CallsO Tryz.prog 138 [.sl (List.map ItemItem.v a0) u1,.sl (List.map ItemItem.v a1) u2] V.b (p_slices_Equal_item_Item a0 a1):=by
 refine callsO_comp mix Tryz.func138 gc138_ok fun r H=>?_
 rw [p_slices_Equal_item_Item] at H
 conv=>whnf
 iterate 2 (refine LenQ.M ?_;conv=>whnf)
 refine tst_c H (fun b1 H=>?_) (fun b1 H=>?_)
 ·conv=>whnf
  exact fb_ H
 conv=>whnf
 refine LenQ.M ?_;conv=>whnf
 obtain ⟨o3,HL4,HQ5⟩:=bind_c H
 refine loop_c [4,13] [5,14,15,16,17,18,19,20,21,22,23,24,25] [5,14,15,16,17,18,19,20,21,22,23,24,25] (fun n vals st=>(∃ y7,p_slices_Equal_item_Item_l1  a0 a1 (a0.length:Int) n y7=some o3∧vals=[.b false,.i y7]∧st=[])) fuel 0 [] (⟨_,HL4,rfl,rfl⟩) (Nat.zero_le _) rfl (by kernel_rfl) (by kernel_rfl) rfl trivial ?_
 rintro (_ | n6) _ _ (⟨y7,H,rfl,rfl⟩)
 ·rw [p_slices_Equal_item_Item_l1] at H;cases H
 rw [p_slices_Equal_item_Item_l1] at H
 conv=>whnf
 refine tst_d H (fun b8 H=>?_) (fun b8 H=>?_)
 ·conv=>whnf
  obtain rfl:=Option.some.inj H
  have H:=HQ5
  try dsimp only at H
  exact fb_ H
 conv=>whnf
 refine ixs_c (f:=ItemItem.v) H (fun _=>rfl) (fun x9 H=>?_);conv=>whnf
 refine ixs_c (f:=ItemItem.v) H (fun _=>rfl) (fun x10 H=>?_);conv=>whnf
 refine FootQ.mk ⟨rfl,?_⟩;conv=>whnf
 refine Tst.not ?_
 refine tst_d H (fun b11 H=>?_) (fun b11 H=>?_)
 ·conv=>whnf
  obtain rfl:=Option.some.inj H
  have H:=HQ5
  try dsimp only at H
  exact fb_ H
 conv=>whnf
 refine Ari.w ?_;conv=>whnf
 exact again_c [5,14,15,16,17,18,19,20,21,22,23,24,25] n6 0 [] (⟨_,H,rfl,rfl⟩) (Nat.lt_succ_self _) (Nat.zero_le _) rfl (by kernel_rfl) (by kernel_rfl) rfl trivial
end Go.Proofs.YtpmoioopjbfhkaaGreat

namespace Go.Proofs.YtpmoioopjbfhkaaGreat
open Go.RowKit
set_option maxRecDepth 100000
set_option maxHeartbeats 4000000
def gc139:BCode:=(.seq (R_ 0 [O_ 4 (.mv (b_ false)) 0]) (.seq (.seq (R_ 0 [O_ 6 (.mv (t_ 0)) 0,O_ 7 (.lens (t_ 6)) 0,O_ 8 (.mv (t_ 1)) 0,O_ 9 (.lens (t_ 8)) 0,O_ 10 (.bin .neq (t_ 7) (t_ 9)) 0]) (.cond (t_ 10) (.seq (R_ 0 [O_ 4 (.mv (b_ false)) 0]) .ret) .skip)) (.seq (.seq (R_ 0 [O_ 11 (.mv (t_ 0)) 0,O_ 12 (.lens (t_ 11)) 0,O_ 13 (.mv (i_ 0)) 0]) (.block 0 (.loop (.seq (R_ 0 [O_ 14 (.bin .lss (t_ 13) (t_ 12)) 0]) (.seq (.cond (t_ 14) .skip (.exit 0)) (.seq (.block 1 (.seq (R_ 0 [O_ 15 (.mv (t_ 13)) 0,O_ 5 (.mv (t_ 15)) 0]) (.seq (.reg 0 [O_ 16 (.mv (t_ 0)) 0,O_ 17 (.mv (t_ 5)) 0,O_ 18 (.ixs 2 (t_ 16) (t_ 17)) 0,O_ 19 (.ld 2 true (t_ 18)) 0,O_ 20 (.mv (t_ 1)) 0,O_ 21 (.mv (t_ 5)) 0,O_ 22 (.ixs 2 (t_ 20) (t_ 21)) 0,O_ 23 (.ld 2 true (t_ 22)) 0,O_ 24 (.eqa true [2,1] (t_ 19) (t_ 23)) 0] (some [[],[],[1,0],[0,1,2],[],[],[5,4],[4,5,6],[6,5,4,7,2,1,0,3]]) 0 []) (.cond (t_ 24) (.seq (R_ 0 [O_ 4 (.mv (b_ false)) 0]) .ret) .skip)))) (R_ 0 [O_ 25 (.bin .add (t_ 13) (i_ 1)) 0,O_ 13 (.mv (t_ 25)) 0]))))))) (.seq (R_ 0 [O_ 4 (.mv (b_ true)) 0]) .ret))))
theorem gc139_ok:compF Tryz.prog Tryz.f139=some (gc139.er,26,[.tmp 4]):=by unfold gc139;kernel_rfl
theorem p_slices_Equal_roster_Gone_v {u1 u2:Bool} (a0:List RosterGone) (a1:List RosterGone):CallsO Tryz.prog 139 [.sl (List.map RosterGone.v a0) u1,.sl (List.map RosterGone.v a1) u2] V.b (p_slices_Equal_roster_Gone a0 a1):=by
 refine callsO_comp mix Tryz.func139 gc139_ok fun r H=>?_
 rw [p_slices_Equal_roster_Gone] at H
 conv=>whnf
 iterate 2 (refine LenQ.M ?_;conv=>whnf)
 refine tst_c H (fun b1 H=>?_) (fun b1 H=>?_)
 ·conv=>whnf
  exact fb_ H
 conv=>whnf
 refine LenQ.M ?_;conv=>whnf
 obtain ⟨o3,HL4,HQ5⟩:=bind_c H
 refine loop_c [4,13] [5,14,15,16,17,18,19,20,21,22,23,24,25] [5,14,15,16,17,18,19,20,21,22,23,24,25] (fun n vals st=>(∃ y7,p_slices_Equal_roster_Gone_l1  a0 a1 (a0.length:Int) n y7=some o3∧vals=[.b false,.i y7]∧st=[])) fuel 0 [] (⟨_,HL4,rfl,rfl⟩) (Nat.zero_le _) rfl (by kernel_rfl) (by kernel_rfl) rfl trivial ?_
 rintro (_ | n6) _ _ (⟨y7,H,rfl,rfl⟩)
 ·rw [p_slices_Equal_roster_Gone_l1] at H;cases H
 rw [p_slices_Equal_roster_Gone_l1] at H
 conv=>whnf
 refine tst_d H (fun b8 H=>?_) (fun b8 H=>?_)
 ·conv=>whnf
  obtain rfl:=Option.some.inj H
  have H:=HQ5
  try dsimp only at H
  exact fb_ H
 conv=>whnf
 refine ixs_c (f:=RosterGone.v) H (fun _=>rfl) (fun x9 H=>?_);conv=>whnf
 refine ixs_c (f:=RosterGone.v) H (fun _=>rfl) (fun x10 H=>?_);conv=>whnf
 refine FootQ.mk ⟨rfl,?_⟩;conv=>whnf
 refine Tst.not ?_
 refine tst_d H (fun b11 H=>?_) (fun b11 H=>?_)
 ·conv=>whnf
  obtain rfl:=Option.some.inj H
  have H:=HQ5
  try dsimp only at H
  exact fb_ H
 conv=>whnf
 refine Ari.w ?_;conv=>whnf
 exact again_c [5,14,15,16,17,18,19,20,21,22,23,24,25] n6 0 [] (⟨_,H,rfl,rfl⟩) (Nat.lt_succ_self _) (Nat.zero_le _) rfl (by kernel_rfl) (by kernel_rfl) rfl trivial
def gc74:BCode:=(.seq (R_ 2 [O_ 2 (.bx (t_ 0)) 0,O_ 3 (.bx (t_ 1)) 1,O_ 4 (.mv (b_ false)) 2]) (.seq (R_ 0 [O_ 5 (.fa 0 (t_ 2)) 0,O_ 6 (.ld 1 false (t_ 5)) 0,O_ 7 (.fa 0 (t_ 3)) 0,O_ 8 (.ld 1 false (t_ 7)) 0,O_ 9 (.bin .eql (t_ 6) (t_ 8)) 0,O_ 10 (.mv (t_ 9)) 0,⟨(some 11),.fa 1 (t_ 2),(some (10,true)),0⟩,⟨(some 12),.ld 1 false (t_ 11),(some (10,true)),0⟩,⟨(some 13),.fa 1 (t_ 3),(some (10,true)),0⟩,⟨(some 14),.ld 1 false (t_ 13),(some (10,true)),0⟩,⟨(some 15),.bin .eql (t_ 12) (t_ 14),(some (10,true)),0⟩,O_ 16 (.pick (t_ 10) (t_ 15) (b_ false)) 0,O_ 17 (.mv (t_ 16)) 0,⟨(some 18),.fa 2 (t_ 2),(some (17,true)),0⟩,⟨(some 19),.ld 1 false (t_ 18),(some (17,true)),0⟩,⟨(some 20),.fa 2 (t_ 3),(some (17,true)),0⟩,⟨(some 21),.ld 1 false (t_ 20),(some (17,true)),0⟩,⟨(some 22),.cl 138 [(t_ 19),(t_ 21)],(some (17,true)),0⟩,O_ 23 (.pick (t_ 17) (t_ 22) (b_ false)) 0,O_ 24 (.mv (t_ 23)) 0,⟨(some 25),.fa 3 (t_ 2),(some (24,true)),0⟩,⟨(some 26),.ld 1 false (t_ 25),(some (24,true)),0⟩,⟨(some 27),.fa 3 (t_ 3),(some (24,true)),0⟩,⟨(some 28),.ld 1 false (t_ 27),(some (24,true)),0⟩,⟨(some 29),.cl 139 [(t_ 26),(t_ 28)],(some (24,true)),0⟩,O_ 30 (.pick (t_ 24) (t_ 29) (b_ false)) 0,O_ 4 (.mv (t_ 30)) 0]) .ret))
theorem gc74_ok:compF Tryz.prog Tryz.f74=some (gc74.er,31,[.tmp 4]):=by unfold gc74;kernel_rfl
theorem p_roster_Same_v {u1 u2 u3 u4:Bool} (a0:RosterState) (a1:RosterState):CallsO Tryz.prog 74 [.agg [.i a0.Ver,.i a0.Floor,.sl (List.map ItemItem.v a0.Items) u1,.sl (List.map RosterGone.v a0.Gone) u2],.agg [.i a1.Ver,.i a1.Floor,.sl (List.map ItemItem.v a1.Items) u3,.sl (List.map RosterGone.v a1.Gone) u4]] V.b (p_roster_Same a0 a1):=by
 refine callsO_comp mix Tryz.func74 gc74_ok fun r H=>?_
 rw [p_roster_Same] at H
 conv=>whnf
 refine tst_d H (fun b1 H=>?_) (fun b1 H=>?_)
 ·conv=>whnf
  iterate 17 (refine Tst.F ?_;conv=>whnf)
  exact fb_ H
 conv=>whnf
 iterate 5 (refine Tst.T ?_;conv=>whnf)
 refine tst_d H (fun b2 H=>?_) (fun b2 H=>?_)
 ·conv=>whnf
  iterate 11 (refine Tst.F ?_;conv=>whnf)
  exact fb_ H
 conv=>whnf
 iterate 4 (refine Tst.T ?_;conv=>whnf)
 refine ask_c (p_slices_Equal_item_Item_v _ _) H rfl rfl (fun v3 H=>?_);conv=>whnf
 refine Tst.T ?_;conv=>whnf
 refine tst_d H (fun b4 H=>?_) (fun b4 H=>?_)
 ·conv=>whnf
  iterate 5 (refine Tst.F ?_;conv=>whnf)
  exact fb_ H
 conv=>whnf
 iterate 4 (refine Tst.T ?_;conv=>whnf)
 refine ask_c (p_slices_Equal_roster_Gone_v _ _) H rfl rfl (fun v5 H=>?_);conv=>whnf
 refine Tst.T ?_;conv=>whnf
 exact fb_ H
end Go.Proofs.YtpmoioopjbfhkaaGreat

