/- OutqShort: for every input the call returns true, and its arguments read as they did. -/
import Derived.Test.YthnihifblmnkdaaGreatPbA1
import Derived.Test.YthnihifblmnkdaaGreatPaA16
import Derived.Test.YthnihifblmnkdaaGreatPaA17
import Derived.Test.YthnihifblmnkdaaGreatPaA22
import Derived.Test.YthnihifblmnkdaaGreatPaA21
import Derived.Test.YthnihifblmnkdaaGreatPaA12
import Derived.KernelRfl
import Derived.Test.YthnihifblmnkdaaGreatPaA13
import Derived.Test.YthnihifblmnkdaaGreatRows
set_option linter.all false
namespace Go.Proofs.YthnihifblmnkdaaGreat
open Go.RowKit
set_option maxRecDepth 1000000
set_option maxHeartbeats 4000000
def gc4:BCode:=(.seq (R_ 0 [O_ 4 (.mv (b_ false)) 0]) (.seq (.seq (R_ 0 [O_ 18 (.mv (t_ 0)) 0,O_ 19 (.lens (t_ 18)) 0,O_ 20 (.bin .gtr (t_ 19) (i_ 60)) 0]) (.cond (t_ 20) (.seq (R_ 0 [O_ 21 (.cl 7 []) 0,O_ 4 (.mv (t_ 21)) 0]) .ret) .skip)) (.seq (R_ 1 [O_ 5 (.al (.agg [(.sl [] true),(.sl [] true)])) 0]) (.seq (.seq (R_ 0 [O_ 6 (.mv (i_ 0)) 0]) (.block 0 (.loop (.seq (.seq (R_ 0 [O_ 22 (.mv (t_ 6)) 0,O_ 23 (.bin .lss (t_ 22) (i_ 20)) 0]) (.cond (t_ 23) .skip (.exit 0))) (.seq (.block 1 (.reg 2 [O_ 26 (.fa 0 (t_ 5)) 0,O_ 27 (.ld 1 false (t_ 26)) 0,O_ 28 (.mv (t_ 6)) 0,O_ 29 (.cvi .u8 (t_ 28)) 0,O_ 30 (.cl 23 [(t_ 29)]) 0,O_ 31 (.bs 1 1 [(.lit (.string ⟨#[]⟩))] [(0,(t_ 30))]) 0,O_ 32 (.ap 1 16 (t_ 27) (t_ 31)) 1,O_ 33 (.fa 0 (t_ 5)) 2,U_ (.st 1 (t_ 33) (t_ 32)) 2] (some [[],[0],[],[2],[2,3],[3,2,4],[4,2,3,5,0,1],[6,5,4,3,2,1,0],[0,1,2,3,4,5,6,7]]) 0 [])) (R_ 0 [O_ 24 (.mv (t_ 6)) 0,O_ 25 (.bin .add (t_ 24) (i_ 1)) 0,O_ 6 (.mv (t_ 25)) 0])))))) (.seq (R_ 1 [O_ 7 (.al (.agg [(.lit (.int .i64 0)),(.sl [] true)])) 0]) (.seq (R_ 1 [O_ 8 (.al (.agg [(.sl [] true),(.lit (.bool false)),(.lit (.bool false)),(.lit (.string ⟨#[]⟩)),(.lit (.int .i64 0)),(.lit (.int .i64 0)),(.lit (.int .i64 0))])) 0]) (.seq (.seq (R_ 0 [O_ 9 (.mv (i_ 0)) 0]) (.block 2 (.loop (.seq (.seq (R_ 0 [O_ 34 (.mv (t_ 9)) 0,O_ 35 (.mv (t_ 0)) 0,O_ 36 (.lens (t_ 35)) 0,O_ 37 (.bin .lss (t_ 34) (t_ 36)) 0]) (.cond (t_ 37) .skip (.exit 2))) (.seq (.block 3 (.seq (R_ 0 [O_ 40 (.mv (t_ 0)) 0,O_ 41 (.mv (t_ 9)) 0,O_ 42 (.ixs 5 (t_ 40) (t_ 41)) 0,O_ 43 (.fa 0 (t_ 42)) 0,O_ 44 (.ld 1 false (t_ 43)) 0,O_ 45 (.cl 23 [(t_ 44)]) 0,O_ 10 (.mv (t_ 45)) 0]) (.seq (R_ 1 [O_ 11 (.al (.agg [(.lit (.bool false)),(.lit (.int .i64 0)),(.lit (.int .i64 0)),(.lit (.int .i64 0))])) 0]) (.seq (R_ 0 [O_ 12 (.mv (i_ 0)) 0]) (.join (.seq (R_ 0 [O_ 46 (.mv (t_ 0)) 0,O_ 47 (.mv (t_ 9)) 0,O_ 48 (.ixs 5 (t_ 46) (t_ 47)) 0,O_ 49 (.fa 2 (t_ 48)) 0,O_ 50 (.ld 1 false (t_ 49)) 0]) (.cond (t_ 50) (R_ 0 [O_ 52 (.ld 2 true (t_ 7)) 0,O_ 53 (.mv (t_ 10)) 0,O_ 54 (.cl 24 [(t_ 52),(t_ 53),(.const (.string ⟨#[]⟩))]) 0,O_ 51 (.mv (t_ 54)) 0,O_ 55 (.ex (t_ 51) 0) 0,O_ 56 (.ex (t_ 51) 1) 0,O_ 57 (.ex (t_ 51) 2) 0,U_ (.st 2 (t_ 7) (t_ 55)) 0,U_ (.st 4 (t_ 11) (t_ 56)) 0,O_ 12 (.mv (t_ 57)) 0]) (.reg 0 [O_ 59 (.ld 2 true (t_ 7)) 0,O_ 60 (.mv (t_ 10)) 0,O_ 61 (.mv (t_ 0)) 0,O_ 62 (.mv (t_ 9)) 0,O_ 63 (.ixs 5 (t_ 61) (t_ 62)) 0,O_ 64 (.fa 1 (t_ 63)) 0,O_ 65 (.ld 1 false (t_ 64)) 0,O_ 66 (.bin .rem (t_ 65) (.const (.int .u8 5))) 0,O_ 67 (.cvi .i64 (t_ 66)) 0,O_ 68 (.cl 25 [(t_ 59),(t_ 60),(.const (.string ⟨#[]⟩)),(t_ 67),(i_ 0)]) 0,O_ 58 (.mv (t_ 68)) 0,O_ 69 (.ex (t_ 58) 0) 0,O_ 70 (.ex (t_ 58) 1) 0,O_ 71 (.ex (t_ 58) 2) 0,U_ (.st 2 (t_ 7) (t_ 69)) 0,U_ (.st 4 (t_ 11) (t_ 70)) 0,O_ 12 (.mv (t_ 71)) 0] (some [[],[],[],[],[3,2],[2,3,4],[4,3,2,5],[5,2,3,4,6],[6,4,3,2,5,7],[7,5,2,3,4,6,8,1,0],[0,1,8,6,4,3,2,5,7,9],[9,7,5,2,3,4,6,8,1,0,10],[9,7,5,2,3,4,6,8,1,0,10],[9,7,5,2,3,4,6,8,1,0,10],[10,0,1,8,6,4,3,2,5,7,9,11],[11,14,10,0,1,8,6,4,3,2,5,7,9,12],[12,14,11,15,10,0,1,8,6,4,3,2,5,7,9,13]]) 0 []))) (.join (.seq (R_ 0 [O_ 72 (.mv (t_ 12)) 0,O_ 73 (.bin .eql (t_ 72) (i_ 0)) 0]) (.cond (t_ 73) (.reg 0 [O_ 74 (.ld 7 true (t_ 8)) 0,O_ 75 (.mv (t_ 10)) 0,O_ 76 (.cl 26 [(t_ 75),(.const (.string ⟨#[]⟩))]) 0,O_ 77 (.ld 4 true (t_ 11)) 0,O_ 78 (.cl 11 [(t_ 74),(t_ 76),(t_ 77)]) 0,U_ (.st 7 (t_ 8) (t_ 78)) 0] (some [[],[],[1],[],[3,1,2,0],[0,2,1,3,4]]) 0 []) .skip)) (.join (.seq (R_ 0 [O_ 79 (.mv (t_ 0)) 0,O_ 80 (.mv (t_ 9)) 0,O_ 81 (.ixs 5 (t_ 79) (t_ 80)) 0,O_ 82 (.fa 4 (t_ 81)) 0,O_ 83 (.ld 1 false (t_ 82)) 0]) (.cond (t_ 83) (R_ 0 [O_ 84 (.ld 7 true (t_ 8)) 0,O_ 85 (.cl 13 [(t_ 84)]) 0,U_ (.st 7 (t_ 8) (t_ 85)) 0]) .skip)) (.seq (.reg 0 [O_ 87 (.ld 7 true (t_ 8)) 0,O_ 88 (.ld 2 true (t_ 5)) 0,O_ 89 (.ld 2 true (t_ 7)) 0,O_ 90 (.mv (t_ 0)) 0,O_ 91 (.mv (t_ 9)) 0,O_ 92 (.ixs 5 (t_ 90) (t_ 91)) 0,O_ 93 (.fa 3 (t_ 92)) 0,O_ 94 (.ld 1 false (t_ 93)) 0,O_ 95 (.bin .rem (t_ 94) (.const (.int .u8 4))) 0,O_ 96 (.cvi .i64 (t_ 95)) 0,O_ 97 (.cl 27 [(t_ 87),(t_ 88),(t_ 89),(t_ 96)]) 0,O_ 86 (.mv (t_ 97)) 0,O_ 98 (.ex (t_ 86) 0) 0,O_ 99 (.ex (t_ 86) 1) 0,U_ (.st 7 (t_ 8) (t_ 98)) 0] (some [[],[],[],[],[],[4,3],[3,4,5],[5,4,3,6],[6,3,4,5,7],[7,5,4,3,6,8],[8,6,3,4,5,7,9,2,1,0],[0,1,2,9,7,5,4,3,6,8,10],[10,8,6,3,4,5,7,9,2,1,0,11],[10,8,6,3,4,5,7,9,2,1,0,11],[11,0,1,2,9,7,5,4,3,6,8,10,12]]) 0 []) (.seq (R_ 0 [O_ 100 (.ld 7 true (t_ 8)) 0,O_ 101 (.cl 21 [(t_ 100)]) 0,O_ 102 (.bin .gtr (t_ 101) (i_ 17)) 0]) (.cond (t_ 102) (.seq (R_ 0 [O_ 4 (.mv (b_ false)) 0]) .ret) .skip)))))))))) (R_ 0 [O_ 38 (.mv (t_ 9)) 0,O_ 39 (.bin .add (t_ 38) (i_ 1)) 0,O_ 9 (.mv (t_ 39)) 0])))))) (.seq (R_ 0 [O_ 103 (.fa 0 (t_ 8)) 0,O_ 104 (.ld 1 false (t_ 103)) 0,O_ 105 (.lens (t_ 104)) 0,O_ 106 (.fa 1 (t_ 7)) 0,O_ 107 (.ld 1 false (t_ 106)) 0,O_ 108 (.lens (t_ 107)) 0,O_ 109 (.bin .add (t_ 105) (t_ 108)) 0,O_ 110 (.bin .add (t_ 109) (i_ 2)) 0,O_ 13 (.mv (t_ 110)) 0]) (.seq (.reg 1 [O_ 111 (.ld 7 true (t_ 8)) 0,O_ 112 (.mv (t_ 1)) 0,O_ 113 (.cl 23 [(t_ 112)]) 0,O_ 114 (.cl 15 [(t_ 111),(t_ 113)]) 0,O_ 14 (.al (.agg [(.sl [] true),(.lit (.bool false)),(.lit (.bool false)),(.lit (.string ⟨#[]⟩)),(.lit (.int .i64 0)),(.lit (.int .i64 0)),(.lit (.int .i64 0))])) 0,U_ (.st 7 (t_ 14) (t_ 114)) 1] (some [[],[],[1],[1,2,0],[],[0,2,1,3,4]]) 0 []) (.seq (R_ 1 [O_ 116 (.ld 7 true (t_ 14)) 0,O_ 117 (.ld 2 true (t_ 5)) 0,O_ 118 (.ld 2 true (t_ 7)) 0,O_ 119 (.mv (t_ 13)) 0,O_ 120 (.cl 27 [(t_ 116),(t_ 117),(t_ 118),(t_ 119)]) 0,O_ 115 (.mv (t_ 120)) 0,O_ 121 (.ex (t_ 115) 0) 0,O_ 122 (.ex (t_ 115) 1) 0,O_ 15 (.al (.agg [(.sl [] true),(.lit (.bool false)),(.lit (.bool false)),(.lit (.string ⟨#[]⟩)),(.lit (.int .i64 0)),(.lit (.int .i64 0)),(.lit (.int .i64 0))])) 0,U_ (.st 7 (t_ 15) (t_ 121)) 1,O_ 16 (.mv (t_ 122)) 1]) (.seq (.seq (R_ 0 [O_ 17 (.mv (i_ 0)) 0]) (.block 4 (.loop (.seq (.seq (R_ 0 [O_ 123 (.mv (t_ 17)) 0,O_ 124 (.mv (t_ 16)) 0,O_ 125 (.lens (t_ 124)) 0,O_ 126 (.bin .lss (t_ 123) (t_ 125)) 0]) (.cond (t_ 126) .skip (.exit 4))) (.seq (.block 5 (.seq (.reg 0 [O_ 129 (.mv (t_ 16)) 0,O_ 130 (.mv (t_ 17)) 0,O_ 131 (.ixs 8 (t_ 129) (t_ 130)) 0,O_ 132 (.fa 1 (t_ 131)) 0,O_ 133 (.ld 1 false (t_ 132)) 0,O_ 134 (.mv (t_ 1)) 0,O_ 135 (.cl 23 [(t_ 134)]) 0,O_ 136 (.bin .eql (t_ 133) (t_ 135)) 0,O_ 137 (.mv (t_ 136)) 0,⟨(some 138),.fa 1 (t_ 8),(some (137,true)),0⟩,⟨(some 139),.fa 0 (t_ 138),(some (137,true)),0⟩,⟨(some 140),.ld 1 false (t_ 139),(some (137,true)),0⟩,⟨(some 141),.un .not (t_ 140),(some (137,true)),0⟩,O_ 142 (.pick (t_ 137) (t_ 141) (b_ false)) 0] (some [[],[],[1,0],[0,1,2],[2,1,0,3],[],[5],[5,6,3,0,1,2,4],[4,2,1,0,3,6,5,7],[7,5,6,3,0,1,2,4,8],[8,4,2,1,0,3,6,5,7,9],[9,7,5,6,3,0,1,2,4,8,10],[10,8,4,2,1,0,3,6,5,7,9,11],[11,9,10,12,7,5,6,3,0,1,2,4,8]]) 0 []) (.cond (t_ 142) (.seq (R_ 0 [O_ 4 (.mv (b_ false)) 0]) .ret) .skip))) (R_ 0 [O_ 127 (.mv (t_ 17)) 0,O_ 128 (.bin .add (t_ 127) (i_ 1)) 0,O_ 17 (.mv (t_ 128)) 0])))))) (.seq (R_ 0 [O_ 143 (.ld 7 true (t_ 15)) 0,O_ 144 (.cl 19 [(t_ 143)]) 0,O_ 145 (.un .not (t_ 144)) 0,O_ 146 (.mv (t_ 145)) 0,⟨(some 147),.mv (t_ 16),(some (146,true)),0⟩,⟨(some 148),.lens (t_ 147),(some (146,true)),0⟩,⟨(some 149),.mv (t_ 13),(some (146,true)),0⟩,⟨(some 150),.bin .leq (t_ 148) (t_ 149),(some (146,true)),0⟩,O_ 151 (.pick (t_ 146) (t_ 150) (b_ false)) 0,O_ 152 (.mv (t_ 151)) 0,⟨(some 153),.cl 7 [],(some (152,true)),0⟩,O_ 154 (.pick (t_ 152) (t_ 153) (b_ false)) 0,O_ 4 (.mv (t_ 154)) 0]) .ret))))))))))))
theorem gc4_ok:compF Tryz.prog Tryz.f4=some (gc4.er,155,[.tmp 4]):=by unfold gc4;kernel_rfl
theorem p_law27_OutqShort_v {u1:Bool} (a0:List Law27Deed) (a1:Int):CallsO Tryz.prog 4 [.sl (List.map Law27Deed.v a0) u1,.y8 a1] V.b (tru? (p_law27_OutqShort a0 a1)):=by
 refine callsO_comp mix Tryz.func4 gc4_ok fun r H=>?_
 have H1:=tru_of H
 clear H
 obtain ⟨rfl,H⟩:=H1
 rw [p_law27_OutqShort] at H
 conv=>whnf
 refine LenQ.M ?_;conv=>whnf
 refine tst_c H (fun b1 H=>?_) (fun b1 H=>?_)
 ·conv=>whnf
  refine ask_c (p_law27_awake_v) H rfl rfl (fun v2 H=>?_);conv=>whnf
  exact fb_ H
 conv=>whnf
 obtain ⟨o4,HL5,HQ6⟩:=bind_c H
 refine loop_c [6] [22,23,24,25,26,27,28,29,30,31,32,33] [22,23,24,25,26,27,28,29,30,31,32,33] (fun n vals st=>(∃ y8 y9,p_law27_OutqShort_l1  n y8 y9=some o4∧vals=[.i y8]∧st=[.live [.sl (List.map V.s y9.Users) true,.sl (List.map V.s y9.Keys) true] 0])∨(∃ y13 y14,p_law27_OutqShort_l1  n y13 y14=some o4∧vals=[.i y13]∧st=[.live [.osl 1 0 (List.length y14.Users) 1 false,.sl (List.map V.s y14.Keys) true] 0,.live (cellsM V.s y14.Users) (cellsM V.s y14.Users).length])) fuel 1 [] (.inl (⟨_,_,HL5,rfl,rfl⟩)) (Nat.zero_le _) rfl (by kernel_rfl) (by kernel_rfl) rfl ⟨⟨rfl,rfl,rfl⟩,trivial⟩ ?_
 rintro (_ | n7) _ _ (⟨y8,y9,H,rfl,rfl⟩ | ⟨y13,y14,H,rfl,rfl⟩)
 ·rw [p_law27_OutqShort_l1] at H;cases H
 ·rw [p_law27_OutqShort_l1] at H;cases H
 ·rw [p_law27_OutqShort_l1] at H
  conv=>whnf
  refine tst_c H (fun b10 H=>?_) (fun b10 H=>?_)
  ·conv=>whnf
   refine Ari.w ?_;conv=>whnf
   refine ask_c (p_law27_who_v _) H rfl rfl (fun v11 H=>?_);conv=>whnf
   refine appN_c (f:=V.s) H (fun _=>rfl) (srcM (f:=V.s) (fun _=>rfl) _ _) rfl (.v (srcOwn (f:=V.s) (l:=[v11]) (fun _=>rfl) rfl rfl rfl)) (by decide) rfl (by simp) (fun l12 H=>?_);conv=>whnf
   refine lq_ ?_;conv=>whnf
   refine FootQ.mk ⟨rfl,?_⟩;conv=>whnf
   refine Ari.w ?_;conv=>whnf
   exact again_c [22,23,24,25,26,27,28,29,30,31,32,33] n7 2 [0,2] (.inr (⟨_,_,H,rfl,rfl⟩)) (Nat.lt_succ_self _) (Nat.zero_le _) rfl (by kernel_rfl) (by kernel_rfl) rfl ⟨⟨rfl,rfl,rfl⟩,wkB_live0 rfl (cellsM_idlt (f:=V.s) (fun _=>rfl) _) rfl trivial⟩
  conv=>whnf
  obtain rfl:=Option.some.inj H
  have H:=HQ6
  try dsimp only at H
  obtain ⟨o16,HL17,HQ18⟩:=bind_c H
  refine loop_c [4,9] [10,11,12,34,35,36,37,38,39,40,41,42,43,44,45,46,47,48,49,50,51,52,53,54,55,56,57,58,59,60,61,62,63,64,65,66,67,68,69,70,71,72,73,74,75,76,77,78,79,80,81,82,83,84,85,86,87,88,89,90,91,92,93,94,95,96,97,98,99,100,101,102] [10,11,12,34,35,36,37,38,39,40,41,42,43,44,45,46,47,48,49,50,51,52,53,54,55,56,57,58,59,60,61,62,63,64,65,66,67,68,69,70,71,72,73,74,75,76,77,78,79,80,81,82,83,84,85,86,87,88,89,90,91,92,93,94,95,96,97,98,99,100,101,102] (fun n vals st=>(∃ y20 y21 y22,p_law27_OutqShort_l2  a0 y9 n y20 y21 y22=some o16∧vals=[.b false,.i y20]∧st=[.live [.sl (List.map V.s y9.Users) true,.sl (List.map V.s y9.Keys) true] 0,.live [.i y21.Seq,.sl (List.map BookRow.v y21.Rows) true] 0,.live [.sl (List.map MailEntry.v y22.Mail) true,.b y22.Snap.On,.b y22.Snap.Begun,.s y22.Snap.After,.i y22.Snap.Told,.i y22.Sent,.i y22.Lost] 0])∨(∃ y65 y66 y67,p_law27_OutqShort_l2  a0 y9 n y65 y66 y67=some o16∧vals=[.b false,.i y65]∧st=[.live [.sl (List.map V.s y9.Users) true,.sl (List.map V.s y9.Keys) true] 0,.live [.i y66.Seq,.sl (List.map BookRow.v y66.Rows) false] 0,.live [.sl (List.map MailEntry.v y67.Mail) false,.b y67.Snap.On,.b y67.Snap.Begun,.s y67.Snap.After,.i y67.Snap.Told,.i y67.Sent,.i y67.Lost] 0])) fuel 3 [] (.inl (⟨_,_,_,HL17,rfl,rfl⟩)) (Nat.zero_le _) rfl (by kernel_rfl) (by kernel_rfl) rfl ⟨⟨rfl,rfl,rfl⟩,⟨⟨rfl,rfl,rfl⟩,⟨⟨rfl,rfl,rfl⟩,trivial⟩⟩⟩ ?_
  rintro (_ | n19) _ _ (⟨y20,y21,y22,H,rfl,rfl⟩ | ⟨y65,y66,y67,H,rfl,rfl⟩)
  ·rw [p_law27_OutqShort_l2] at H;cases H
  ·rw [p_law27_OutqShort_l2] at H;cases H
  ·rw [p_law27_OutqShort_l2] at H
   conv=>whnf
   refine LenQ.M ?_;conv=>whnf
   refine tst_d H (fun b23 H=>?_) (fun b23 H=>?_)
   ·conv=>whnf
    obtain rfl:=Option.some.inj H
    have H:=HQ18
    try dsimp only at H
    iterate 2 (refine LenQ.M ?_;conv=>whnf)
    iterate 2 (refine Ari.w ?_;conv=>whnf)
    refine ask_c (p_law27_who_v _) H rfl rfl (fun v87 H=>?_);conv=>whnf
    refine ask_c (p_outq_Forget_v _ _) H rfl rfl (fun v88 H=>?_);conv=>whnf
    refine lq_ ?_;conv=>whnf
    refine FootQ.mk ⟨rfl,?_⟩;conv=>whnf
    refine ask_c (p_outq_Flush_v _ _ _ _) H rfl rfl (fun v89 H=>?_);conv=>whnf
    refine lq_ ?_;conv=>whnf
    obtain ⟨o91,HL92,HQ93⟩:=bind_c H
    refine loop_c [4,17,8,15] [123,124,125,126,127,128,129,130,131,132,133,134,135,136,137,138,139,140,141,142,5,7,14,103,106] [123,124,125,126,127,128,129,130,131,132,133,134,135,136,137,138,139,140,141,142,5,7,14,103,106] (fun n vals st=>(∃ y95,p_law27_OutqShort_l3  a1 v89.2 y22 n y95=some o91∧vals=[.b false,.i y95,.ptr 0 0,.ptr 1 0]∧st=[.live [.sl (List.map MailEntry.v y22.Mail) true,.b y22.Snap.On,.b y22.Snap.Begun,.s y22.Snap.After,.i y22.Snap.Told,.i y22.Sent,.i y22.Lost] 0,.live [.sl (List.map MailEntry.v v89.1.Mail) false,.b v89.1.Snap.On,.b v89.1.Snap.Begun,.s v89.1.Snap.After,.i v89.1.Snap.Told,.i v89.1.Sent,.i v89.1.Lost] 0])) fuel 2 [2,4] (⟨_,HL92,rfl,rfl⟩) (Nat.zero_le _) rfl (by kernel_rfl) (by kernel_rfl) rfl ⟨⟨rfl,rfl,rfl⟩,⟨⟨rfl,rfl,rfl⟩,trivial⟩⟩ ?_
    rintro (_ | n94) _ _ (⟨y95,H,rfl,rfl⟩)
    ·rw [p_law27_OutqShort_l3] at H;cases H
    rw [p_law27_OutqShort_l3] at H
    conv=>whnf
    refine LenQ.M ?_;conv=>whnf
    refine tst_d H (fun b96 H=>?_) (fun b96 H=>?_)
    ·conv=>whnf
     obtain rfl:=Option.some.inj H
     have H:=HQ93
     try dsimp only at H
     refine ask_c (p_outq_Wants_v _) H rfl rfl (fun v101 H=>?_);conv=>whnf
     refine Tst.not ?_
     refine tstF_c H (fun b102 H=>?_);conv=>whnf
     refine Tst.T ?_;conv=>whnf
     refine LenQ.M ?_;conv=>whnf
     iterate 3 (refine Tst.T ?_;conv=>whnf)
     refine tstT_c H (fun b103 H=>?_);conv=>whnf
     refine ask_c (p_law27_awake_v) H rfl rfl (fun v104 H=>?_);conv=>whnf
     refine Tst.T ?_;conv=>whnf
     exact fb_ H
    conv=>whnf
    refine ixs_c (f:=StanzaStanza.v) H (fun _=>rfl) (fun x97 H=>?_);conv=>whnf
    refine lq_ ?_;conv=>whnf
    refine ask_c (p_law27_who_v _) H rfl rfl (fun v98 H=>?_);conv=>whnf
    refine tst_d H (fun b99 H=>?_) (fun b99 H=>?_)
    ·conv=>whnf
     iterate 4 (refine Tst.F ?_;conv=>whnf)
     refine FootQ.mk ⟨rfl,?_⟩;conv=>whnf
     refine Tst.F ?_;conv=>whnf
     refine Ari.w ?_;conv=>whnf
     exact again_c [123,124,125,126,127,128,129,130,131,132,133,134,135,136,137,138,139,140,141,142,5,7,14,103,106] n94 2 [] (⟨_,H,rfl,rfl⟩) (Nat.lt_succ_self _) (Nat.zero_le _) rfl (by kernel_rfl) (by kernel_rfl) rfl ⟨⟨rfl,rfl,rfl⟩,⟨⟨rfl,rfl,rfl⟩,trivial⟩⟩
    conv=>whnf
    iterate 4 (refine Tst.T ?_;conv=>whnf)
    refine FootQ.mk ⟨rfl,?_⟩;conv=>whnf
    refine Tst.not ?_
    refine tst_d H (fun b100 H=>?_) (fun b100 H=>?_)
    ·conv=>whnf
     obtain rfl:=Option.some.inj H
     have H:=HQ93
     try dsimp only at H
     exact fb_ H
    conv=>whnf
    refine Ari.w ?_;conv=>whnf
    exact again_c [123,124,125,126,127,128,129,130,131,132,133,134,135,136,137,138,139,140,141,142,5,7,14,103,106] n94 2 [] (⟨_,H,rfl,rfl⟩) (Nat.lt_succ_self _) (Nat.zero_le _) rfl (by kernel_rfl) (by kernel_rfl) rfl ⟨⟨rfl,rfl,rfl⟩,⟨⟨rfl,rfl,rfl⟩,trivial⟩⟩
   conv=>whnf
   refine ixs_c (f:=Law27Deed.v) H (fun _=>rfl) (fun x24 H=>?_);conv=>whnf
   refine lq_ ?_;conv=>whnf
   refine ask_c (p_law27_who_v _) H rfl rfl (fun v25 H=>?_);conv=>whnf
   obtain ⟨K26,hK27,o28,HL29,HQ30⟩:=join0_c H
   refine join_c [12,5,7,8,11] [46,47,48,49,50,51,52,53,54,55,56,57,58,59,60,61,62,63,64,65,66,67,68,69,70,71] (fun vals st=>(∃ y35 y36 y37,K26 (y35,y36,y37)=some o16∧vals=[.i y35,.ptr 0 0,.ptr 1 0,.ptr 2 0,.ptr 3 0]∧st=[.live [.sl (List.map V.s y9.Users) true,.sl (List.map V.s y9.Keys) true] 0,.live [.i y37.Seq,.sl (List.map BookRow.v y37.Rows) false] 0,.live [.sl (List.map MailEntry.v y22.Mail) true,.b y22.Snap.On,.b y22.Snap.Begun,.s y22.Snap.After,.i y22.Snap.Told,.i y22.Sent,.i y22.Lost] 0,.live [.b y36.On,.i y36.Show,.i y36.Prio,.i y36.Seq] 0])) ?_ ?_
   ·have H:=HL29
    conv=>whnf
    refine ixs_c (f:=Law27Deed.v) H (fun _=>rfl) (fun x32 H=>?_);conv=>whnf
    refine lq_ ?_;conv=>whnf
    refine tst_c H (fun b33 H=>?_) (fun b33 H=>?_)
    ·conv=>whnf
     refine ask_c (p_book_Off_v _ _ _) H rfl rfl (fun v34 H=>?_);conv=>whnf
     refine lq_ ?_;conv=>whnf
     refine lq_ ?_;conv=>whnf
     obtain rfl:=Option.some.inj H
     exact arrive_c [46,47,48,49,50,51,52,53,54,55,56,57,58,59,60,61,62,63,64,65,66,67,68,69,70,71] 4 [] (⟨_,_,_,HQ30,rfl,rfl⟩) (Nat.zero_le _) rfl (by kernel_rfl) (by kernel_rfl) rfl ⟨⟨rfl,rfl,rfl⟩,⟨⟨rfl,rfl,rfl⟩,⟨⟨rfl,rfl,rfl⟩,⟨⟨rfl,rfl,rfl⟩,trivial⟩⟩⟩⟩
    conv=>whnf
    refine ixs_c (f:=Law27Deed.v) H (fun _=>rfl) (fun x38 H=>?_);conv=>whnf
    refine lq_ ?_;conv=>whnf
    refine ⟨by decide,?_⟩;conv=>whnf
    refine Ari.w ?_;conv=>whnf
    refine ask_c (p_book_Set_v _ _ _ _ _) H rfl rfl (fun v39 H=>?_);conv=>whnf
    refine lq_ ?_;conv=>whnf
    refine lq_ ?_;conv=>whnf
    refine FootQ.mk ⟨rfl,?_⟩;conv=>whnf
    obtain rfl:=Option.some.inj H
    exact arrive_c [46,47,48,49,50,51,52,53,54,55,56,57,58,59,60,61,62,63,64,65,66,67,68,69,70,71] 4 [] (⟨_,_,_,HQ30,rfl,rfl⟩) (Nat.zero_le _) rfl (by kernel_rfl) (by kernel_rfl) rfl ⟨⟨rfl,rfl,rfl⟩,⟨⟨rfl,rfl,rfl⟩,⟨⟨rfl,rfl,rfl⟩,⟨⟨rfl,rfl,rfl⟩,trivial⟩⟩⟩⟩
   rintro _ _ (⟨y35,y36,y37,H,rfl,rfl⟩)
   rw [hK27] at H
   try dsimp only at H
   conv=>whnf
   obtain ⟨K40,hK41,o42,HL43,HQ44⟩:=join0_c H
   refine join_c [5,7,8] [72,73,74,75,76,77,78,11] (fun vals st=>(∃ y49,K40 y49=some o16∧vals=[.ptr 0 0,.ptr 1 0,.ptr 2 0]∧st=[.live [.sl (List.map V.s y9.Users) true,.sl (List.map V.s y9.Keys) true] 0,.live [.i y37.Seq,.sl (List.map BookRow.v y37.Rows) false] 0,.live [.sl (List.map MailEntry.v y49.Mail) false,.b y49.Snap.On,.b y49.Snap.Begun,.s y49.Snap.After,.i y49.Snap.Told,.i y49.Sent,.i y49.Lost] 0])∨(∃ y50,K40 y50=some o16∧vals=[.ptr 0 0,.ptr 1 0,.ptr 2 0]∧st=[.live [.sl (List.map V.s y9.Users) true,.sl (List.map V.s y9.Keys) true] 0,.live [.i y37.Seq,.sl (List.map BookRow.v y37.Rows) false] 0,.live [.sl (List.map MailEntry.v y50.Mail) true,.b y50.Snap.On,.b y50.Snap.Begun,.s y50.Snap.After,.i y50.Snap.Told,.i y50.Sent,.i y50.Lost] 0])) ?_ ?_
   ·have H:=HL43
    conv=>whnf
    refine tst_d H (fun b46 H=>?_) (fun b46 H=>?_)
    ·conv=>whnf
     obtain rfl:=Option.some.inj H
     exact arrive_c [72,73,74,75,76,77,78,11] 3 [] (.inr (⟨_,HQ44,rfl,rfl⟩)) (Nat.zero_le _) rfl (by kernel_rfl) (by kernel_rfl) rfl ⟨⟨rfl,rfl,rfl⟩,⟨⟨rfl,rfl,rfl⟩,⟨⟨rfl,rfl,rfl⟩,trivial⟩⟩⟩
    conv=>whnf
    refine ask_c (p_pres_Key_v _ _) H rfl rfl (fun v47 H=>?_);conv=>whnf
    refine ask_c (p_outq_Add_v _ _ _) H rfl rfl (fun v48 H=>?_);conv=>whnf
    refine lq_ ?_;conv=>whnf
    refine FootQ.mk ⟨rfl,?_⟩;conv=>whnf
    obtain rfl:=Option.some.inj H
    exact arrive_c [72,73,74,75,76,77,78,11] 3 [] (.inl (⟨_,HQ44,rfl,rfl⟩)) (Nat.zero_le _) rfl (by kernel_rfl) (by kernel_rfl) rfl ⟨⟨rfl,rfl,rfl⟩,⟨⟨rfl,rfl,rfl⟩,⟨⟨rfl,rfl,rfl⟩,trivial⟩⟩⟩
   rintro _ _ (⟨y49,H,rfl,rfl⟩ | ⟨y50,H,rfl,rfl⟩)
   ·rw [hK41] at H
    try dsimp only at H
    conv=>whnf
    obtain ⟨K51,hK52,o53,HL54,HQ55⟩:=join0_c H
    refine join_c [5,7,8] [79,80,81,82,83,84,85] (fun vals st=>(∃ y60,K51 y60=some o16∧vals=[.ptr 0 0,.ptr 1 0,.ptr 2 0]∧st=[.live [.sl (List.map V.s y9.Users) true,.sl (List.map V.s y9.Keys) true] 0,.live [.i y37.Seq,.sl (List.map BookRow.v y37.Rows) false] 0,.live [.sl (List.map MailEntry.v y60.Mail) false,.b y60.Snap.On,.b y60.Snap.Begun,.s y60.Snap.After,.i y60.Snap.Told,.i y60.Sent,.i y60.Lost] 0])) ?_ ?_
    ·have H:=HL54
     conv=>whnf
     refine ixs_c (f:=Law27Deed.v) H (fun _=>rfl) (fun x57 H=>?_);conv=>whnf
     refine lq_ ?_;conv=>whnf
     refine tst_d H (fun b58 H=>?_) (fun b58 H=>?_)
     ·conv=>whnf
      obtain rfl:=Option.some.inj H
      exact arrive_c [79,80,81,82,83,84,85] 3 [] (⟨_,HQ55,rfl,rfl⟩) (Nat.zero_le _) rfl (by kernel_rfl) (by kernel_rfl) rfl ⟨⟨rfl,rfl,rfl⟩,⟨⟨rfl,rfl,rfl⟩,⟨⟨rfl,rfl,rfl⟩,trivial⟩⟩⟩
     conv=>whnf
     refine ask_c (p_outq_Begin_v _) H rfl rfl (fun v59 H=>?_);conv=>whnf
     refine lq_ ?_;conv=>whnf
     obtain rfl:=Option.some.inj H
     exact arrive_c [79,80,81,82,83,84,85] 3 [] (⟨_,HQ55,rfl,rfl⟩) (Nat.zero_le _) rfl (by kernel_rfl) (by kernel_rfl) rfl ⟨⟨rfl,rfl,rfl⟩,⟨⟨rfl,rfl,rfl⟩,⟨⟨rfl,rfl,rfl⟩,trivial⟩⟩⟩
    rintro _ _ (⟨y60,H,rfl,rfl⟩)
    rw [hK52] at H
    try dsimp only at H
    conv=>whnf
    refine ixs_c (f:=Law27Deed.v) H (fun _=>rfl) (fun x61 H=>?_);conv=>whnf
    refine lq_ ?_;conv=>whnf
    refine ⟨by decide,?_⟩;conv=>whnf
    refine Ari.w ?_;conv=>whnf
    refine ask_c (p_outq_Flush_v _ _ _ _) H rfl rfl (fun v62 H=>?_);conv=>whnf
    refine lq_ ?_;conv=>whnf
    refine FootQ.mk ⟨rfl,?_⟩;conv=>whnf
    refine ask_c (p_outq_Len_v _) H rfl rfl (fun v63 H=>?_);conv=>whnf
    refine tst_c H (fun b64 H=>?_) (fun b64 H=>?_)
    ·conv=>whnf
     obtain rfl:=Option.some.inj H
     have H:=HQ18
     try dsimp only at H
     exact fb_ H
    conv=>whnf
    refine Ari.w ?_;conv=>whnf
    exact again_c [10,11,12,34,35,36,37,38,39,40,41,42,43,44,45,46,47,48,49,50,51,52,53,54,55,56,57,58,59,60,61,62,63,64,65,66,67,68,69,70,71,72,73,74,75,76,77,78,79,80,81,82,83,84,85,86,87,88,89,90,91,92,93,94,95,96,97,98,99,100,101,102] n19 3 [] (.inr (⟨_,_,_,H,rfl,rfl⟩)) (Nat.lt_succ_self _) (Nat.zero_le _) rfl (by kernel_rfl) (by kernel_rfl) rfl ⟨⟨rfl,rfl,rfl⟩,⟨⟨rfl,rfl,rfl⟩,⟨⟨rfl,rfl,rfl⟩,trivial⟩⟩⟩
   rw [hK41] at H
   try dsimp only at H
   conv=>whnf
   obtain ⟨K68,hK69,o70,HL71,HQ72⟩:=join0_c H
   refine join_c [5,7,8] [79,80,81,82,83,84,85] (fun vals st=>(∃ y77,K68 y77=some o16∧vals=[.ptr 0 0,.ptr 1 0,.ptr 2 0]∧st=[.live [.sl (List.map V.s y9.Users) true,.sl (List.map V.s y9.Keys) true] 0,.live [.i y37.Seq,.sl (List.map BookRow.v y37.Rows) false] 0,.live [.sl (List.map MailEntry.v y77.Mail) false,.b y77.Snap.On,.b y77.Snap.Begun,.s y77.Snap.After,.i y77.Snap.Told,.i y77.Sent,.i y77.Lost] 0])∨(∃ y78,K68 y78=some o16∧vals=[.ptr 0 0,.ptr 1 0,.ptr 2 0]∧st=[.live [.sl (List.map V.s y9.Users) true,.sl (List.map V.s y9.Keys) true] 0,.live [.i y37.Seq,.sl (List.map BookRow.v y37.Rows) false] 0,.live [.sl (List.map MailEntry.v y78.Mail) true,.b y78.Snap.On,.b y78.Snap.Begun,.s y78.Snap.After,.i y78.Snap.Told,.i y78.Sent,.i y78.Lost] 0])) ?_ ?_
   ·have H:=HL71
    conv=>whnf
    refine ixs_c (f:=Law27Deed.v) H (fun _=>rfl) (fun x74 H=>?_);conv=>whnf
    refine lq_ ?_;conv=>whnf
    refine tst_d H (fun b75 H=>?_) (fun b75 H=>?_)
    ·conv=>whnf
     obtain rfl:=Option.some.inj H
     exact arrive_c [79,80,81,82,83,84,85] 3 [] (.inr (⟨_,HQ72,rfl,rfl⟩)) (Nat.zero_le _) rfl (by kernel_rfl) (by kernel_rfl) rfl ⟨⟨rfl,rfl,rfl⟩,⟨⟨rfl,rfl,rfl⟩,⟨⟨rfl,rfl,rfl⟩,trivial⟩⟩⟩
    conv=>whnf
    refine ask_c (p_outq_Begin_v _) H rfl rfl (fun v76 H=>?_);conv=>whnf
    refine lq_ ?_;conv=>whnf
    obtain rfl:=Option.some.inj H
    exact arrive_c [79,80,81,82,83,84,85] 3 [] (.inl (⟨_,HQ72,rfl,rfl⟩)) (Nat.zero_le _) rfl (by kernel_rfl) (by kernel_rfl) rfl ⟨⟨rfl,rfl,rfl⟩,⟨⟨rfl,rfl,rfl⟩,⟨⟨rfl,rfl,rfl⟩,trivial⟩⟩⟩
   rintro _ _ (⟨y77,H,rfl,rfl⟩ | ⟨y78,H,rfl,rfl⟩)
   ·rw [hK69] at H
    try dsimp only at H
    conv=>whnf
    refine ixs_c (f:=Law27Deed.v) H (fun _=>rfl) (fun x79 H=>?_);conv=>whnf
    refine lq_ ?_;conv=>whnf
    refine ⟨by decide,?_⟩;conv=>whnf
    refine Ari.w ?_;conv=>whnf
    refine ask_c (p_outq_Flush_v _ _ _ _) H rfl rfl (fun v80 H=>?_);conv=>whnf
    refine lq_ ?_;conv=>whnf
    refine FootQ.mk ⟨rfl,?_⟩;conv=>whnf
    refine ask_c (p_outq_Len_v _) H rfl rfl (fun v81 H=>?_);conv=>whnf
    refine tst_c H (fun b82 H=>?_) (fun b82 H=>?_)
    ·conv=>whnf
     obtain rfl:=Option.some.inj H
     have H:=HQ18
     try dsimp only at H
     exact fb_ H
    conv=>whnf
    refine Ari.w ?_;conv=>whnf
    exact again_c [10,11,12,34,35,36,37,38,39,40,41,42,43,44,45,46,47,48,49,50,51,52,53,54,55,56,57,58,59,60,61,62,63,64,65,66,67,68,69,70,71,72,73,74,75,76,77,78,79,80,81,82,83,84,85,86,87,88,89,90,91,92,93,94,95,96,97,98,99,100,101,102] n19 3 [] (.inr (⟨_,_,_,H,rfl,rfl⟩)) (Nat.lt_succ_self _) (Nat.zero_le _) rfl (by kernel_rfl) (by kernel_rfl) rfl ⟨⟨rfl,rfl,rfl⟩,⟨⟨rfl,rfl,rfl⟩,⟨⟨rfl,rfl,rfl⟩,trivial⟩⟩⟩
   rw [hK69] at H
   try dsimp only at H
   conv=>whnf
   refine ixs_c (f:=Law27Deed.v) H (fun _=>rfl) (fun x83 H=>?_);conv=>whnf
   refine lq_ ?_;conv=>whnf
   refine ⟨by decide,?_⟩;conv=>whnf
   refine Ari.w ?_;conv=>whnf
   refine ask_c (p_outq_Flush_v _ _ _ _) H rfl rfl (fun v84 H=>?_);conv=>whnf
   refine lq_ ?_;conv=>whnf
   refine FootQ.mk ⟨rfl,?_⟩;conv=>whnf
   refine ask_c (p_outq_Len_v _) H rfl rfl (fun v85 H=>?_);conv=>whnf
   refine tst_c H (fun b86 H=>?_) (fun b86 H=>?_)
   ·conv=>whnf
    obtain rfl:=Option.some.inj H
    have H:=HQ18
    try dsimp only at H
    exact fb_ H
   conv=>whnf
   refine Ari.w ?_;conv=>whnf
   exact again_c [10,11,12,34,35,36,37,38,39,40,41,42,43,44,45,46,47,48,49,50,51,52,53,54,55,56,57,58,59,60,61,62,63,64,65,66,67,68,69,70,71,72,73,74,75,76,77,78,79,80,81,82,83,84,85,86,87,88,89,90,91,92,93,94,95,96,97,98,99,100,101,102] n19 3 [] (.inr (⟨_,_,_,H,rfl,rfl⟩)) (Nat.lt_succ_self _) (Nat.zero_le _) rfl (by kernel_rfl) (by kernel_rfl) rfl ⟨⟨rfl,rfl,rfl⟩,⟨⟨rfl,rfl,rfl⟩,⟨⟨rfl,rfl,rfl⟩,trivial⟩⟩⟩
  rw [p_law27_OutqShort_l2] at H
  conv=>whnf
  refine LenQ.M ?_;conv=>whnf
  refine tst_d H (fun b105 H=>?_) (fun b105 H=>?_)
  ·conv=>whnf
   obtain rfl:=Option.some.inj H
   have H:=HQ18
   try dsimp only at H
   iterate 2 (refine LenQ.M ?_;conv=>whnf)
   iterate 2 (refine Ari.w ?_;conv=>whnf)
   refine ask_c (p_law27_who_v _) H rfl rfl (fun v146 H=>?_);conv=>whnf
   refine ask_c (p_outq_Forget_v _ _) H rfl rfl (fun v147 H=>?_);conv=>whnf
   refine lq_ ?_;conv=>whnf
   refine FootQ.mk ⟨rfl,?_⟩;conv=>whnf
   refine ask_c (p_outq_Flush_v _ _ _ _) H rfl rfl (fun v148 H=>?_);conv=>whnf
   refine lq_ ?_;conv=>whnf
   obtain ⟨o150,HL151,HQ152⟩:=bind_c H
   refine loop_c [4,17,8,15] [123,124,125,126,127,128,129,130,131,132,133,134,135,136,137,138,139,140,141,142,5,7,14,103,106] [123,124,125,126,127,128,129,130,131,132,133,134,135,136,137,138,139,140,141,142,5,7,14,103,106] (fun n vals st=>(∃ y154,p_law27_OutqShort_l3  a1 v148.2 y67 n y154=some o150∧vals=[.b false,.i y154,.ptr 0 0,.ptr 1 0]∧st=[.live [.sl (List.map MailEntry.v y67.Mail) false,.b y67.Snap.On,.b y67.Snap.Begun,.s y67.Snap.After,.i y67.Snap.Told,.i y67.Sent,.i y67.Lost] 0,.live [.sl (List.map MailEntry.v v148.1.Mail) false,.b v148.1.Snap.On,.b v148.1.Snap.Begun,.s v148.1.Snap.After,.i v148.1.Snap.Told,.i v148.1.Sent,.i v148.1.Lost] 0])) fuel 2 [2,4] (⟨_,HL151,rfl,rfl⟩) (Nat.zero_le _) rfl (by kernel_rfl) (by kernel_rfl) rfl ⟨⟨rfl,rfl,rfl⟩,⟨⟨rfl,rfl,rfl⟩,trivial⟩⟩ ?_
   rintro (_ | n153) _ _ (⟨y154,H,rfl,rfl⟩)
   ·rw [p_law27_OutqShort_l3] at H;cases H
   rw [p_law27_OutqShort_l3] at H
   conv=>whnf
   refine LenQ.M ?_;conv=>whnf
   refine tst_d H (fun b155 H=>?_) (fun b155 H=>?_)
   ·conv=>whnf
    obtain rfl:=Option.some.inj H
    have H:=HQ152
    try dsimp only at H
    refine ask_c (p_outq_Wants_v _) H rfl rfl (fun v160 H=>?_);conv=>whnf
    refine Tst.not ?_
    refine tstF_c H (fun b161 H=>?_);conv=>whnf
    refine Tst.T ?_;conv=>whnf
    refine LenQ.M ?_;conv=>whnf
    iterate 3 (refine Tst.T ?_;conv=>whnf)
    refine tstT_c H (fun b162 H=>?_);conv=>whnf
    refine ask_c (p_law27_awake_v) H rfl rfl (fun v163 H=>?_);conv=>whnf
    refine Tst.T ?_;conv=>whnf
    exact fb_ H
   conv=>whnf
   refine ixs_c (f:=StanzaStanza.v) H (fun _=>rfl) (fun x156 H=>?_);conv=>whnf
   refine lq_ ?_;conv=>whnf
   refine ask_c (p_law27_who_v _) H rfl rfl (fun v157 H=>?_);conv=>whnf
   refine tst_d H (fun b158 H=>?_) (fun b158 H=>?_)
   ·conv=>whnf
    iterate 4 (refine Tst.F ?_;conv=>whnf)
    refine FootQ.mk ⟨rfl,?_⟩;conv=>whnf
    refine Tst.F ?_;conv=>whnf
    refine Ari.w ?_;conv=>whnf
    exact again_c [123,124,125,126,127,128,129,130,131,132,133,134,135,136,137,138,139,140,141,142,5,7,14,103,106] n153 2 [] (⟨_,H,rfl,rfl⟩) (Nat.lt_succ_self _) (Nat.zero_le _) rfl (by kernel_rfl) (by kernel_rfl) rfl ⟨⟨rfl,rfl,rfl⟩,⟨⟨rfl,rfl,rfl⟩,trivial⟩⟩
   conv=>whnf
   iterate 4 (refine Tst.T ?_;conv=>whnf)
   refine FootQ.mk ⟨rfl,?_⟩;conv=>whnf
   refine Tst.not ?_
   refine tst_d H (fun b159 H=>?_) (fun b159 H=>?_)
   ·conv=>whnf
    obtain rfl:=Option.some.inj H
    have H:=HQ152
    try dsimp only at H
    exact fb_ H
   conv=>whnf
   refine Ari.w ?_;conv=>whnf
   exact again_c [123,124,125,126,127,128,129,130,131,132,133,134,135,136,137,138,139,140,141,142,5,7,14,103,106] n153 2 [] (⟨_,H,rfl,rfl⟩) (Nat.lt_succ_self _) (Nat.zero_le _) rfl (by kernel_rfl) (by kernel_rfl) rfl ⟨⟨rfl,rfl,rfl⟩,⟨⟨rfl,rfl,rfl⟩,trivial⟩⟩
  conv=>whnf
  refine ixs_c (f:=Law27Deed.v) H (fun _=>rfl) (fun x106 H=>?_);conv=>whnf
  refine lq_ ?_;conv=>whnf
  refine ask_c (p_law27_who_v _) H rfl rfl (fun v107 H=>?_);conv=>whnf
  obtain ⟨K108,hK109,o110,HL111,HQ112⟩:=join0_c H
  refine join_c [12,5,7,8,11] [46,47,48,49,50,51,52,53,54,55,56,57,58,59,60,61,62,63,64,65,66,67,68,69,70,71] (fun vals st=>(∃ y117 y118 y119,K108 (y117,y118,y119)=some o16∧vals=[.i y117,.ptr 0 0,.ptr 1 0,.ptr 2 0,.ptr 3 0]∧st=[.live [.sl (List.map V.s y9.Users) true,.sl (List.map V.s y9.Keys) true] 0,.live [.i y119.Seq,.sl (List.map BookRow.v y119.Rows) false] 0,.live [.sl (List.map MailEntry.v y67.Mail) false,.b y67.Snap.On,.b y67.Snap.Begun,.s y67.Snap.After,.i y67.Snap.Told,.i y67.Sent,.i y67.Lost] 0,.live [.b y118.On,.i y118.Show,.i y118.Prio,.i y118.Seq] 0])) ?_ ?_
  ·have H:=HL111
   conv=>whnf
   refine ixs_c (f:=Law27Deed.v) H (fun _=>rfl) (fun x114 H=>?_);conv=>whnf
   refine lq_ ?_;conv=>whnf
   refine tst_c H (fun b115 H=>?_) (fun b115 H=>?_)
   ·conv=>whnf
    refine ask_c (p_book_Off_v _ _ _) H rfl rfl (fun v116 H=>?_);conv=>whnf
    refine lq_ ?_;conv=>whnf
    refine lq_ ?_;conv=>whnf
    obtain rfl:=Option.some.inj H
    exact arrive_c [46,47,48,49,50,51,52,53,54,55,56,57,58,59,60,61,62,63,64,65,66,67,68,69,70,71] 4 [] (⟨_,_,_,HQ112,rfl,rfl⟩) (Nat.zero_le _) rfl (by kernel_rfl) (by kernel_rfl) rfl ⟨⟨rfl,rfl,rfl⟩,⟨⟨rfl,rfl,rfl⟩,⟨⟨rfl,rfl,rfl⟩,⟨⟨rfl,rfl,rfl⟩,trivial⟩⟩⟩⟩
   conv=>whnf
   refine ixs_c (f:=Law27Deed.v) H (fun _=>rfl) (fun x120 H=>?_);conv=>whnf
   refine lq_ ?_;conv=>whnf
   refine ⟨by decide,?_⟩;conv=>whnf
   refine Ari.w ?_;conv=>whnf
   refine ask_c (p_book_Set_v _ _ _ _ _) H rfl rfl (fun v121 H=>?_);conv=>whnf
   refine lq_ ?_;conv=>whnf
   refine lq_ ?_;conv=>whnf
   refine FootQ.mk ⟨rfl,?_⟩;conv=>whnf
   obtain rfl:=Option.some.inj H
   exact arrive_c [46,47,48,49,50,51,52,53,54,55,56,57,58,59,60,61,62,63,64,65,66,67,68,69,70,71] 4 [] (⟨_,_,_,HQ112,rfl,rfl⟩) (Nat.zero_le _) rfl (by kernel_rfl) (by kernel_rfl) rfl ⟨⟨rfl,rfl,rfl⟩,⟨⟨rfl,rfl,rfl⟩,⟨⟨rfl,rfl,rfl⟩,⟨⟨rfl,rfl,rfl⟩,trivial⟩⟩⟩⟩
  rintro _ _ (⟨y117,y118,y119,H,rfl,rfl⟩)
  rw [hK109] at H
  try dsimp only at H
  conv=>whnf
  obtain ⟨K122,hK123,o124,HL125,HQ126⟩:=join0_c H
  refine join_c [5,7,8] [72,73,74,75,76,77,78,11] (fun vals st=>(∃ y131,K122 y131=some o16∧vals=[.ptr 0 0,.ptr 1 0,.ptr 2 0]∧st=[.live [.sl (List.map V.s y9.Users) true,.sl (List.map V.s y9.Keys) true] 0,.live [.i y119.Seq,.sl (List.map BookRow.v y119.Rows) false] 0,.live [.sl (List.map MailEntry.v y131.Mail) false,.b y131.Snap.On,.b y131.Snap.Begun,.s y131.Snap.After,.i y131.Snap.Told,.i y131.Sent,.i y131.Lost] 0])) ?_ ?_
  ·have H:=HL125
   conv=>whnf
   refine tst_d H (fun b128 H=>?_) (fun b128 H=>?_)
   ·conv=>whnf
    obtain rfl:=Option.some.inj H
    exact arrive_c [72,73,74,75,76,77,78,11] 3 [] (⟨_,HQ126,rfl,rfl⟩) (Nat.zero_le _) rfl (by kernel_rfl) (by kernel_rfl) rfl ⟨⟨rfl,rfl,rfl⟩,⟨⟨rfl,rfl,rfl⟩,⟨⟨rfl,rfl,rfl⟩,trivial⟩⟩⟩
   conv=>whnf
   refine ask_c (p_pres_Key_v _ _) H rfl rfl (fun v129 H=>?_);conv=>whnf
   refine ask_c (p_outq_Add_v _ _ _) H rfl rfl (fun v130 H=>?_);conv=>whnf
   refine lq_ ?_;conv=>whnf
   refine FootQ.mk ⟨rfl,?_⟩;conv=>whnf
   obtain rfl:=Option.some.inj H
   exact arrive_c [72,73,74,75,76,77,78,11] 3 [] (⟨_,HQ126,rfl,rfl⟩) (Nat.zero_le _) rfl (by kernel_rfl) (by kernel_rfl) rfl ⟨⟨rfl,rfl,rfl⟩,⟨⟨rfl,rfl,rfl⟩,⟨⟨rfl,rfl,rfl⟩,trivial⟩⟩⟩
  rintro _ _ (⟨y131,H,rfl,rfl⟩)
  rw [hK123] at H
  try dsimp only at H
  conv=>whnf
  obtain ⟨K132,hK133,o134,HL135,HQ136⟩:=join0_c H
  refine join_c [5,7,8] [79,80,81,82,83,84,85] (fun vals st=>(∃ y141,K132 y141=some o16∧vals=[.ptr 0 0,.ptr 1 0,.ptr 2 0]∧st=[.live [.sl (List.map V.s y9.Users) true,.sl (List.map V.s y9.Keys) true] 0,.live [.i y119.Seq,.sl (List.map BookRow.v y119.Rows) false] 0,.live [.sl (List.map MailEntry.v y141.Mail) false,.b y141.Snap.On,.b y141.Snap.Begun,.s y141.Snap.After,.i y141.Snap.Told,.i y141.Sent,.i y141.Lost] 0])) ?_ ?_
  ·have H:=HL135
   conv=>whnf
   refine ixs_c (f:=Law27Deed.v) H (fun _=>rfl) (fun x138 H=>?_);conv=>whnf
   refine lq_ ?_;conv=>whnf
   refine tst_d H (fun b139 H=>?_) (fun b139 H=>?_)
   ·conv=>whnf
    obtain rfl:=Option.some.inj H
    exact arrive_c [79,80,81,82,83,84,85] 3 [] (⟨_,HQ136,rfl,rfl⟩) (Nat.zero_le _) rfl (by kernel_rfl) (by kernel_rfl) rfl ⟨⟨rfl,rfl,rfl⟩,⟨⟨rfl,rfl,rfl⟩,⟨⟨rfl,rfl,rfl⟩,trivial⟩⟩⟩
   conv=>whnf
   refine ask_c (p_outq_Begin_v _) H rfl rfl (fun v140 H=>?_);conv=>whnf
   refine lq_ ?_;conv=>whnf
   obtain rfl:=Option.some.inj H
   exact arrive_c [79,80,81,82,83,84,85] 3 [] (⟨_,HQ136,rfl,rfl⟩) (Nat.zero_le _) rfl (by kernel_rfl) (by kernel_rfl) rfl ⟨⟨rfl,rfl,rfl⟩,⟨⟨rfl,rfl,rfl⟩,⟨⟨rfl,rfl,rfl⟩,trivial⟩⟩⟩
  rintro _ _ (⟨y141,H,rfl,rfl⟩)
  rw [hK133] at H
  try dsimp only at H
  conv=>whnf
  refine ixs_c (f:=Law27Deed.v) H (fun _=>rfl) (fun x142 H=>?_);conv=>whnf
  refine lq_ ?_;conv=>whnf
  refine ⟨by decide,?_⟩;conv=>whnf
  refine Ari.w ?_;conv=>whnf
  refine ask_c (p_outq_Flush_v _ _ _ _) H rfl rfl (fun v143 H=>?_);conv=>whnf
  refine lq_ ?_;conv=>whnf
  refine FootQ.mk ⟨rfl,?_⟩;conv=>whnf
  refine ask_c (p_outq_Len_v _) H rfl rfl (fun v144 H=>?_);conv=>whnf
  refine tst_c H (fun b145 H=>?_) (fun b145 H=>?_)
  ·conv=>whnf
   obtain rfl:=Option.some.inj H
   have H:=HQ18
   try dsimp only at H
   exact fb_ H
  conv=>whnf
  refine Ari.w ?_;conv=>whnf
  exact again_c [10,11,12,34,35,36,37,38,39,40,41,42,43,44,45,46,47,48,49,50,51,52,53,54,55,56,57,58,59,60,61,62,63,64,65,66,67,68,69,70,71,72,73,74,75,76,77,78,79,80,81,82,83,84,85,86,87,88,89,90,91,92,93,94,95,96,97,98,99,100,101,102] n19 3 [] (.inr (⟨_,_,_,H,rfl,rfl⟩)) (Nat.lt_succ_self _) (Nat.zero_le _) rfl (by kernel_rfl) (by kernel_rfl) rfl ⟨⟨rfl,rfl,rfl⟩,⟨⟨rfl,rfl,rfl⟩,⟨⟨rfl,rfl,rfl⟩,trivial⟩⟩⟩
 rw [p_law27_OutqShort_l1] at H
 conv=>whnf
 refine tst_c H (fun b164 H=>?_) (fun b164 H=>?_)
 ·conv=>whnf
  refine Ari.w ?_;conv=>whnf
  refine ask_c (p_law27_who_v _) H rfl rfl (fun v165 H=>?_);conv=>whnf
  refine appO_c (f:=V.s) H (fun _=>rfl) rfl (Nat.le_refl _) (.v (srcOwn (f:=V.s) (l:=[v165]) (fun _=>rfl) rfl rfl rfl)) (by decide) rfl (by simp) (fun l166 H=>?_);conv=>whnf
  refine lq_ ?_;conv=>whnf
  refine FootQ.mk ⟨rfl,?_⟩;conv=>whnf
  refine Ari.w ?_;conv=>whnf
  exact again_c [22,23,24,25,26,27,28,29,30,31,32,33] n7 2 [0,3] (.inr (⟨_,_,H,rfl,rfl⟩)) (Nat.lt_succ_self _) (Nat.zero_le _) rfl (by kernel_rfl) (by kernel_rfl) rfl ⟨⟨rfl,rfl,rfl⟩,wkB_live0 rfl (cellsM_idlt (f:=V.s) (fun _=>rfl) _) rfl trivial⟩
 conv=>whnf
 obtain rfl:=Option.some.inj H
 have H:=HQ6
 try dsimp only at H
 obtain ⟨o168,HL169,HQ170⟩:=bind_c H
 refine loop_c [4,9] [10,11,12,34,35,36,37,38,39,40,41,42,43,44,45,46,47,48,49,50,51,52,53,54,55,56,57,58,59,60,61,62,63,64,65,66,67,68,69,70,71,72,73,74,75,76,77,78,79,80,81,82,83,84,85,86,87,88,89,90,91,92,93,94,95,96,97,98,99,100,101,102] [10,11,12,34,35,36,37,38,39,40,41,42,43,44,45,46,47,48,49,50,51,52,53,54,55,56,57,58,59,60,61,62,63,64,65,66,67,68,69,70,71,72,73,74,75,76,77,78,79,80,81,82,83,84,85,86,87,88,89,90,91,92,93,94,95,96,97,98,99,100,101,102] (fun n vals st=>(∃ y172 y173 y174,p_law27_OutqShort_l2  a0 y14 n y172 y173 y174=some o168∧vals=[.b false,.i y172]∧st=[.live [.osl 1 0 (List.length y14.Users) 1 false,.sl (List.map V.s y14.Keys) true] 0,.live (cellsM V.s y14.Users) (cellsM V.s y14.Users).length,.live [.i y173.Seq,.sl (List.map BookRow.v y173.Rows) true] 0,.live [.sl (List.map MailEntry.v y174.Mail) true,.b y174.Snap.On,.b y174.Snap.Begun,.s y174.Snap.After,.i y174.Snap.Told,.i y174.Sent,.i y174.Lost] 0])∨(∃ y217 y218 y219,p_law27_OutqShort_l2  a0 y14 n y217 y218 y219=some o168∧vals=[.b false,.i y217]∧st=[.live [.osl 1 0 (List.length y14.Users) 1 false,.sl (List.map V.s y14.Keys) true] 0,.live (cellsM V.s y14.Users) (cellsM V.s y14.Users).length,.live [.i y218.Seq,.sl (List.map BookRow.v y218.Rows) false] 0,.live [.sl (List.map MailEntry.v y219.Mail) false,.b y219.Snap.On,.b y219.Snap.Begun,.s y219.Snap.After,.i y219.Snap.Told,.i y219.Sent,.i y219.Lost] 0])) fuel 4 [] (.inl (⟨_,_,_,HL169,rfl,rfl⟩)) (Nat.zero_le _) rfl (by kernel_rfl) (by kernel_rfl) rfl ⟨⟨rfl,rfl,rfl⟩,wkB_live0 rfl (cellsM_idlt (f:=V.s) (fun _=>rfl) _) rfl ⟨⟨rfl,rfl,rfl⟩,⟨⟨rfl,rfl,rfl⟩,trivial⟩⟩⟩ ?_
 rintro (_ | n171) _ _ (⟨y172,y173,y174,H,rfl,rfl⟩ | ⟨y217,y218,y219,H,rfl,rfl⟩)
 ·rw [p_law27_OutqShort_l2] at H;cases H
 ·rw [p_law27_OutqShort_l2] at H;cases H
 ·rw [p_law27_OutqShort_l2] at H
  conv=>whnf
  refine LenQ.M ?_;conv=>whnf
  refine tst_d H (fun b175 H=>?_) (fun b175 H=>?_)
  ·conv=>whnf
   obtain rfl:=Option.some.inj H
   have H:=HQ170
   try dsimp only at H
   iterate 2 (refine LenQ.M ?_;conv=>whnf)
   iterate 2 (refine Ari.w ?_;conv=>whnf)
   refine ask_c (p_law27_who_v _) H rfl rfl (fun v239 H=>?_);conv=>whnf
   refine ask_c (p_outq_Forget_v _ _) H rfl rfl (fun v240 H=>?_);conv=>whnf
   refine lq_ ?_;conv=>whnf
   refine FootQ.mk ⟨rfl,?_⟩;conv=>whnf
   refine askF_c (p_outq_Flush_v _ _ _ _) H (.cons (fzagg (.cons (.id rfl) (.cons (.id rfl) (.cons (.id rfl) (.cons (.id rfl) (.cons (.id rfl) (.cons (.id rfl) (.cons (.id rfl) (.nil)))))))) rfl) (.cons (fzagg (.cons (fzown (f:=V.s) (l:=y14.Users) rfl rfl (fun _=>rfl) (fun _=>rfl)) (.cons (.slw) (.nil))) rfl) (.cons (fzagg (.cons (.id rfl) (.cons (.slw) (.nil))) rfl) (.cons (.c (.id rfl)) (.nil))))) (fun v241 H=>?_);conv=>whnf
   refine lq_ ?_;conv=>whnf
   obtain ⟨o243,HL244,HQ245⟩:=bind_c H
   refine loop_c [4,17,8,15] [123,124,125,126,127,128,129,130,131,132,133,134,135,136,137,138,139,140,141,142,5,7,14,103,106,117] [123,124,125,126,127,128,129,130,131,132,133,134,135,136,137,138,139,140,141,142,5,7,14,103,106,117] (fun n vals st=>(∃ y247,p_law27_OutqShort_l3  a1 v241.2 y174 n y247=some o243∧vals=[.b false,.i y247,.ptr 0 0,.ptr 1 0]∧st=[.live [.sl (List.map MailEntry.v y174.Mail) true,.b y174.Snap.On,.b y174.Snap.Begun,.s y174.Snap.After,.i y174.Snap.Told,.i y174.Sent,.i y174.Lost] 0,.live [.sl (List.map MailEntry.v v241.1.Mail) false,.b v241.1.Snap.On,.b v241.1.Snap.Begun,.s v241.1.Snap.After,.i v241.1.Snap.Told,.i v241.1.Sent,.i v241.1.Lost] 0])) fuel 2 [3,5] (⟨_,HL244,rfl,rfl⟩) (Nat.zero_le _) rfl (by kernel_rfl) (by kernel_rfl) rfl ⟨⟨rfl,rfl,rfl⟩,⟨⟨rfl,rfl,rfl⟩,trivial⟩⟩ ?_
   rintro (_ | n246) _ _ (⟨y247,H,rfl,rfl⟩)
   ·rw [p_law27_OutqShort_l3] at H;cases H
   rw [p_law27_OutqShort_l3] at H
   conv=>whnf
   refine LenQ.M ?_;conv=>whnf
   refine tst_d H (fun b248 H=>?_) (fun b248 H=>?_)
   ·conv=>whnf
    obtain rfl:=Option.some.inj H
    have H:=HQ245
    try dsimp only at H
    refine ask_c (p_outq_Wants_v _) H rfl rfl (fun v253 H=>?_);conv=>whnf
    refine Tst.not ?_
    refine tstF_c H (fun b254 H=>?_);conv=>whnf
    refine Tst.T ?_;conv=>whnf
    refine LenQ.M ?_;conv=>whnf
    iterate 3 (refine Tst.T ?_;conv=>whnf)
    refine tstT_c H (fun b255 H=>?_);conv=>whnf
    refine ask_c (p_law27_awake_v) H rfl rfl (fun v256 H=>?_);conv=>whnf
    refine Tst.T ?_;conv=>whnf
    exact fb_ H
   conv=>whnf
   refine ixs_c (f:=StanzaStanza.v) H (fun _=>rfl) (fun x249 H=>?_);conv=>whnf
   refine lq_ ?_;conv=>whnf
   refine ask_c (p_law27_who_v _) H rfl rfl (fun v250 H=>?_);conv=>whnf
   refine tst_d H (fun b251 H=>?_) (fun b251 H=>?_)
   ·conv=>whnf
    iterate 4 (refine Tst.F ?_;conv=>whnf)
    refine FootQ.mk ⟨rfl,?_⟩;conv=>whnf
    refine Tst.F ?_;conv=>whnf
    refine Ari.w ?_;conv=>whnf
    exact again_c [123,124,125,126,127,128,129,130,131,132,133,134,135,136,137,138,139,140,141,142,5,7,14,103,106,117] n246 2 [] (⟨_,H,rfl,rfl⟩) (Nat.lt_succ_self _) (Nat.zero_le _) rfl (by kernel_rfl) (by kernel_rfl) rfl ⟨⟨rfl,rfl,rfl⟩,⟨⟨rfl,rfl,rfl⟩,trivial⟩⟩
   conv=>whnf
   iterate 4 (refine Tst.T ?_;conv=>whnf)
   refine FootQ.mk ⟨rfl,?_⟩;conv=>whnf
   refine Tst.not ?_
   refine tst_d H (fun b252 H=>?_) (fun b252 H=>?_)
   ·conv=>whnf
    obtain rfl:=Option.some.inj H
    have H:=HQ245
    try dsimp only at H
    exact fb_ H
   conv=>whnf
   refine Ari.w ?_;conv=>whnf
   exact again_c [123,124,125,126,127,128,129,130,131,132,133,134,135,136,137,138,139,140,141,142,5,7,14,103,106,117] n246 2 [] (⟨_,H,rfl,rfl⟩) (Nat.lt_succ_self _) (Nat.zero_le _) rfl (by kernel_rfl) (by kernel_rfl) rfl ⟨⟨rfl,rfl,rfl⟩,⟨⟨rfl,rfl,rfl⟩,trivial⟩⟩
  conv=>whnf
  refine ixs_c (f:=Law27Deed.v) H (fun _=>rfl) (fun x176 H=>?_);conv=>whnf
  refine lq_ ?_;conv=>whnf
  refine ask_c (p_law27_who_v _) H rfl rfl (fun v177 H=>?_);conv=>whnf
  obtain ⟨K178,hK179,o180,HL181,HQ182⟩:=join0_c H
  refine join_c [12,5,7,8,11] [46,47,48,49,50,51,52,53,54,55,56,57,58,59,60,61,62,63,64,65,66,67,68,69,70,71] (fun vals st=>(∃ y187 y188 y189,K178 (y187,y188,y189)=some o168∧vals=[.i y187,.ptr 0 0,.ptr 2 0,.ptr 3 0,.ptr 4 0]∧st=[.live [.osl 1 0 (List.length y14.Users) 1 false,.sl (List.map V.s y14.Keys) true] 0,.live (cellsM V.s y14.Users) (cellsM V.s y14.Users).length,.live [.i y189.Seq,.sl (List.map BookRow.v y189.Rows) false] 0,.live [.sl (List.map MailEntry.v y174.Mail) true,.b y174.Snap.On,.b y174.Snap.Begun,.s y174.Snap.After,.i y174.Snap.Told,.i y174.Sent,.i y174.Lost] 0,.live [.b y188.On,.i y188.Show,.i y188.Prio,.i y188.Seq] 0])) ?_ ?_
  ·have H:=HL181
   conv=>whnf
   refine ixs_c (f:=Law27Deed.v) H (fun _=>rfl) (fun x184 H=>?_);conv=>whnf
   refine lq_ ?_;conv=>whnf
   refine tst_c H (fun b185 H=>?_) (fun b185 H=>?_)
   ·conv=>whnf
    refine ask_c (p_book_Off_v _ _ _) H rfl rfl (fun v186 H=>?_);conv=>whnf
    refine lq_ ?_;conv=>whnf
    refine lq_ ?_;conv=>whnf
    obtain rfl:=Option.some.inj H
    exact arrive_c [46,47,48,49,50,51,52,53,54,55,56,57,58,59,60,61,62,63,64,65,66,67,68,69,70,71] 5 [] (⟨_,_,_,HQ182,rfl,rfl⟩) (Nat.zero_le _) rfl (by kernel_rfl) (by kernel_rfl) rfl ⟨⟨rfl,rfl,rfl⟩,wkB_live0 rfl (cellsM_idlt (f:=V.s) (fun _=>rfl) _) rfl ⟨⟨rfl,rfl,rfl⟩,⟨⟨rfl,rfl,rfl⟩,⟨⟨rfl,rfl,rfl⟩,trivial⟩⟩⟩⟩
   conv=>whnf
   refine ixs_c (f:=Law27Deed.v) H (fun _=>rfl) (fun x190 H=>?_);conv=>whnf
   refine lq_ ?_;conv=>whnf
   refine ⟨by decide,?_⟩;conv=>whnf
   refine Ari.w ?_;conv=>whnf
   refine ask_c (p_book_Set_v _ _ _ _ _) H rfl rfl (fun v191 H=>?_);conv=>whnf
   refine lq_ ?_;conv=>whnf
   refine lq_ ?_;conv=>whnf
   refine FootQ.mk ⟨rfl,?_⟩;conv=>whnf
   obtain rfl:=Option.some.inj H
   exact arrive_c [46,47,48,49,50,51,52,53,54,55,56,57,58,59,60,61,62,63,64,65,66,67,68,69,70,71] 5 [] (⟨_,_,_,HQ182,rfl,rfl⟩) (Nat.zero_le _) rfl (by kernel_rfl) (by kernel_rfl) rfl ⟨⟨rfl,rfl,rfl⟩,wkB_live0 rfl (cellsM_idlt (f:=V.s) (fun _=>rfl) _) rfl ⟨⟨rfl,rfl,rfl⟩,⟨⟨rfl,rfl,rfl⟩,⟨⟨rfl,rfl,rfl⟩,trivial⟩⟩⟩⟩
  rintro _ _ (⟨y187,y188,y189,H,rfl,rfl⟩)
  rw [hK179] at H
  try dsimp only at H
  conv=>whnf
  obtain ⟨K192,hK193,o194,HL195,HQ196⟩:=join0_c H
  refine join_c [5,7,8] [72,73,74,75,76,77,78,11] (fun vals st=>(∃ y201,K192 y201=some o168∧vals=[.ptr 0 0,.ptr 2 0,.ptr 3 0]∧st=[.live [.osl 1 0 (List.length y14.Users) 1 false,.sl (List.map V.s y14.Keys) true] 0,.live (cellsM V.s y14.Users) (cellsM V.s y14.Users).length,.live [.i y189.Seq,.sl (List.map BookRow.v y189.Rows) false] 0,.live [.sl (List.map MailEntry.v y201.Mail) false,.b y201.Snap.On,.b y201.Snap.Begun,.s y201.Snap.After,.i y201.Snap.Told,.i y201.Sent,.i y201.Lost] 0])∨(∃ y202,K192 y202=some o168∧vals=[.ptr 0 0,.ptr 2 0,.ptr 3 0]∧st=[.live [.osl 1 0 (List.length y14.Users) 1 false,.sl (List.map V.s y14.Keys) true] 0,.live (cellsM V.s y14.Users) (cellsM V.s y14.Users).length,.live [.i y189.Seq,.sl (List.map BookRow.v y189.Rows) false] 0,.live [.sl (List.map MailEntry.v y202.Mail) true,.b y202.Snap.On,.b y202.Snap.Begun,.s y202.Snap.After,.i y202.Snap.Told,.i y202.Sent,.i y202.Lost] 0])) ?_ ?_
  ·have H:=HL195
   conv=>whnf
   refine tst_d H (fun b198 H=>?_) (fun b198 H=>?_)
   ·conv=>whnf
    obtain rfl:=Option.some.inj H
    exact arrive_c [72,73,74,75,76,77,78,11] 4 [] (.inr (⟨_,HQ196,rfl,rfl⟩)) (Nat.zero_le _) rfl (by kernel_rfl) (by kernel_rfl) rfl ⟨⟨rfl,rfl,rfl⟩,wkB_live0 rfl (cellsM_idlt (f:=V.s) (fun _=>rfl) _) rfl ⟨⟨rfl,rfl,rfl⟩,⟨⟨rfl,rfl,rfl⟩,trivial⟩⟩⟩
   conv=>whnf
   refine ask_c (p_pres_Key_v _ _) H rfl rfl (fun v199 H=>?_);conv=>whnf
   refine ask_c (p_outq_Add_v _ _ _) H rfl rfl (fun v200 H=>?_);conv=>whnf
   refine lq_ ?_;conv=>whnf
   refine FootQ.mk ⟨rfl,?_⟩;conv=>whnf
   obtain rfl:=Option.some.inj H
   exact arrive_c [72,73,74,75,76,77,78,11] 4 [] (.inl (⟨_,HQ196,rfl,rfl⟩)) (Nat.zero_le _) rfl (by kernel_rfl) (by kernel_rfl) rfl ⟨⟨rfl,rfl,rfl⟩,wkB_live0 rfl (cellsM_idlt (f:=V.s) (fun _=>rfl) _) rfl ⟨⟨rfl,rfl,rfl⟩,⟨⟨rfl,rfl,rfl⟩,trivial⟩⟩⟩
  rintro _ _ (⟨y201,H,rfl,rfl⟩ | ⟨y202,H,rfl,rfl⟩)
  ·rw [hK193] at H
   try dsimp only at H
   conv=>whnf
   obtain ⟨K203,hK204,o205,HL206,HQ207⟩:=join0_c H
   refine join_c [5,7,8] [79,80,81,82,83,84,85] (fun vals st=>(∃ y212,K203 y212=some o168∧vals=[.ptr 0 0,.ptr 2 0,.ptr 3 0]∧st=[.live [.osl 1 0 (List.length y14.Users) 1 false,.sl (List.map V.s y14.Keys) true] 0,.live (cellsM V.s y14.Users) (cellsM V.s y14.Users).length,.live [.i y189.Seq,.sl (List.map BookRow.v y189.Rows) false] 0,.live [.sl (List.map MailEntry.v y212.Mail) false,.b y212.Snap.On,.b y212.Snap.Begun,.s y212.Snap.After,.i y212.Snap.Told,.i y212.Sent,.i y212.Lost] 0])) ?_ ?_
   ·have H:=HL206
    conv=>whnf
    refine ixs_c (f:=Law27Deed.v) H (fun _=>rfl) (fun x209 H=>?_);conv=>whnf
    refine lq_ ?_;conv=>whnf
    refine tst_d H (fun b210 H=>?_) (fun b210 H=>?_)
    ·conv=>whnf
     obtain rfl:=Option.some.inj H
     exact arrive_c [79,80,81,82,83,84,85] 4 [] (⟨_,HQ207,rfl,rfl⟩) (Nat.zero_le _) rfl (by kernel_rfl) (by kernel_rfl) rfl ⟨⟨rfl,rfl,rfl⟩,wkB_live0 rfl (cellsM_idlt (f:=V.s) (fun _=>rfl) _) rfl ⟨⟨rfl,rfl,rfl⟩,⟨⟨rfl,rfl,rfl⟩,trivial⟩⟩⟩
    conv=>whnf
    refine ask_c (p_outq_Begin_v _) H rfl rfl (fun v211 H=>?_);conv=>whnf
    refine lq_ ?_;conv=>whnf
    obtain rfl:=Option.some.inj H
    exact arrive_c [79,80,81,82,83,84,85] 4 [] (⟨_,HQ207,rfl,rfl⟩) (Nat.zero_le _) rfl (by kernel_rfl) (by kernel_rfl) rfl ⟨⟨rfl,rfl,rfl⟩,wkB_live0 rfl (cellsM_idlt (f:=V.s) (fun _=>rfl) _) rfl ⟨⟨rfl,rfl,rfl⟩,⟨⟨rfl,rfl,rfl⟩,trivial⟩⟩⟩
   rintro _ _ (⟨y212,H,rfl,rfl⟩)
   rw [hK204] at H
   try dsimp only at H
   conv=>whnf
   refine ixs_c (f:=Law27Deed.v) H (fun _=>rfl) (fun x213 H=>?_);conv=>whnf
   refine lq_ ?_;conv=>whnf
   refine ⟨by decide,?_⟩;conv=>whnf
   refine Ari.w ?_;conv=>whnf
   refine askF_c (p_outq_Flush_v _ _ _ _) H (.cons (fzagg (.cons (.id rfl) (.cons (.id rfl) (.cons (.id rfl) (.cons (.id rfl) (.cons (.id rfl) (.cons (.id rfl) (.cons (.id rfl) (.nil)))))))) rfl) (.cons (fzagg (.cons (fzown (f:=V.s) (l:=y14.Users) rfl rfl (fun _=>rfl) (fun _=>rfl)) (.cons (.slw) (.nil))) rfl) (.cons (fzagg (.cons (.id rfl) (.cons (.id rfl) (.nil))) rfl) (.cons (.c (.id rfl)) (.nil))))) (fun v214 H=>?_);conv=>whnf
   refine lq_ ?_;conv=>whnf
   refine FootQ.mk ⟨rfl,?_⟩;conv=>whnf
   refine ask_c (p_outq_Len_v _) H rfl rfl (fun v215 H=>?_);conv=>whnf
   refine tst_c H (fun b216 H=>?_) (fun b216 H=>?_)
   ·conv=>whnf
    obtain rfl:=Option.some.inj H
    have H:=HQ170
    try dsimp only at H
    exact fb_ H
   conv=>whnf
   refine Ari.w ?_;conv=>whnf
   exact again_c [10,11,12,34,35,36,37,38,39,40,41,42,43,44,45,46,47,48,49,50,51,52,53,54,55,56,57,58,59,60,61,62,63,64,65,66,67,68,69,70,71,72,73,74,75,76,77,78,79,80,81,82,83,84,85,86,87,88,89,90,91,92,93,94,95,96,97,98,99,100,101,102] n171 4 [] (.inr (⟨_,_,_,H,rfl,rfl⟩)) (Nat.lt_succ_self _) (Nat.zero_le _) rfl (by kernel_rfl) (by kernel_rfl) rfl ⟨⟨rfl,rfl,rfl⟩,wkB_live0 rfl (cellsM_idlt (f:=V.s) (fun _=>rfl) _) rfl ⟨⟨rfl,rfl,rfl⟩,⟨⟨rfl,rfl,rfl⟩,trivial⟩⟩⟩
  rw [hK193] at H
  try dsimp only at H
  conv=>whnf
  obtain ⟨K220,hK221,o222,HL223,HQ224⟩:=join0_c H
  refine join_c [5,7,8] [79,80,81,82,83,84,85] (fun vals st=>(∃ y229,K220 y229=some o168∧vals=[.ptr 0 0,.ptr 2 0,.ptr 3 0]∧st=[.live [.osl 1 0 (List.length y14.Users) 1 false,.sl (List.map V.s y14.Keys) true] 0,.live (cellsM V.s y14.Users) (cellsM V.s y14.Users).length,.live [.i y189.Seq,.sl (List.map BookRow.v y189.Rows) false] 0,.live [.sl (List.map MailEntry.v y229.Mail) false,.b y229.Snap.On,.b y229.Snap.Begun,.s y229.Snap.After,.i y229.Snap.Told,.i y229.Sent,.i y229.Lost] 0])∨(∃ y230,K220 y230=some o168∧vals=[.ptr 0 0,.ptr 2 0,.ptr 3 0]∧st=[.live [.osl 1 0 (List.length y14.Users) 1 false,.sl (List.map V.s y14.Keys) true] 0,.live (cellsM V.s y14.Users) (cellsM V.s y14.Users).length,.live [.i y189.Seq,.sl (List.map BookRow.v y189.Rows) false] 0,.live [.sl (List.map MailEntry.v y230.Mail) true,.b y230.Snap.On,.b y230.Snap.Begun,.s y230.Snap.After,.i y230.Snap.Told,.i y230.Sent,.i y230.Lost] 0])) ?_ ?_
  ·have H:=HL223
   conv=>whnf
   refine ixs_c (f:=Law27Deed.v) H (fun _=>rfl) (fun x226 H=>?_);conv=>whnf
   refine lq_ ?_;conv=>whnf
   refine tst_d H (fun b227 H=>?_) (fun b227 H=>?_)
   ·conv=>whnf
    obtain rfl:=Option.some.inj H
    exact arrive_c [79,80,81,82,83,84,85] 4 [] (.inr (⟨_,HQ224,rfl,rfl⟩)) (Nat.zero_le _) rfl (by kernel_rfl) (by kernel_rfl) rfl ⟨⟨rfl,rfl,rfl⟩,wkB_live0 rfl (cellsM_idlt (f:=V.s) (fun _=>rfl) _) rfl ⟨⟨rfl,rfl,rfl⟩,⟨⟨rfl,rfl,rfl⟩,trivial⟩⟩⟩
   conv=>whnf
   refine ask_c (p_outq_Begin_v _) H rfl rfl (fun v228 H=>?_);conv=>whnf
   refine lq_ ?_;conv=>whnf
   obtain rfl:=Option.some.inj H
   exact arrive_c [79,80,81,82,83,84,85] 4 [] (.inl (⟨_,HQ224,rfl,rfl⟩)) (Nat.zero_le _) rfl (by kernel_rfl) (by kernel_rfl) rfl ⟨⟨rfl,rfl,rfl⟩,wkB_live0 rfl (cellsM_idlt (f:=V.s) (fun _=>rfl) _) rfl ⟨⟨rfl,rfl,rfl⟩,⟨⟨rfl,rfl,rfl⟩,trivial⟩⟩⟩
  rintro _ _ (⟨y229,H,rfl,rfl⟩ | ⟨y230,H,rfl,rfl⟩)
  ·rw [hK221] at H
   try dsimp only at H
   conv=>whnf
   refine ixs_c (f:=Law27Deed.v) H (fun _=>rfl) (fun x231 H=>?_);conv=>whnf
   refine lq_ ?_;conv=>whnf
   refine ⟨by decide,?_⟩;conv=>whnf
   refine Ari.w ?_;conv=>whnf
   refine askF_c (p_outq_Flush_v _ _ _ _) H (.cons (fzagg (.cons (.id rfl) (.cons (.id rfl) (.cons (.id rfl) (.cons (.id rfl) (.cons (.id rfl) (.cons (.id rfl) (.cons (.id rfl) (.nil)))))))) rfl) (.cons (fzagg (.cons (fzown (f:=V.s) (l:=y14.Users) rfl rfl (fun _=>rfl) (fun _=>rfl)) (.cons (.slw) (.nil))) rfl) (.cons (fzagg (.cons (.id rfl) (.cons (.id rfl) (.nil))) rfl) (.cons (.c (.id rfl)) (.nil))))) (fun v232 H=>?_);conv=>whnf
   refine lq_ ?_;conv=>whnf
   refine FootQ.mk ⟨rfl,?_⟩;conv=>whnf
   refine ask_c (p_outq_Len_v _) H rfl rfl (fun v233 H=>?_);conv=>whnf
   refine tst_c H (fun b234 H=>?_) (fun b234 H=>?_)
   ·conv=>whnf
    obtain rfl:=Option.some.inj H
    have H:=HQ170
    try dsimp only at H
    exact fb_ H
   conv=>whnf
   refine Ari.w ?_;conv=>whnf
   exact again_c [10,11,12,34,35,36,37,38,39,40,41,42,43,44,45,46,47,48,49,50,51,52,53,54,55,56,57,58,59,60,61,62,63,64,65,66,67,68,69,70,71,72,73,74,75,76,77,78,79,80,81,82,83,84,85,86,87,88,89,90,91,92,93,94,95,96,97,98,99,100,101,102] n171 4 [] (.inr (⟨_,_,_,H,rfl,rfl⟩)) (Nat.lt_succ_self _) (Nat.zero_le _) rfl (by kernel_rfl) (by kernel_rfl) rfl ⟨⟨rfl,rfl,rfl⟩,wkB_live0 rfl (cellsM_idlt (f:=V.s) (fun _=>rfl) _) rfl ⟨⟨rfl,rfl,rfl⟩,⟨⟨rfl,rfl,rfl⟩,trivial⟩⟩⟩
  rw [hK221] at H
  try dsimp only at H
  conv=>whnf
  refine ixs_c (f:=Law27Deed.v) H (fun _=>rfl) (fun x235 H=>?_);conv=>whnf
  refine lq_ ?_;conv=>whnf
  refine ⟨by decide,?_⟩;conv=>whnf
  refine Ari.w ?_;conv=>whnf
  refine askF_c (p_outq_Flush_v _ _ _ _) H (.cons (fzagg (.cons (.slw) (.cons (.id rfl) (.cons (.id rfl) (.cons (.id rfl) (.cons (.id rfl) (.cons (.id rfl) (.cons (.id rfl) (.nil)))))))) rfl) (.cons (fzagg (.cons (fzown (f:=V.s) (l:=y14.Users) rfl rfl (fun _=>rfl) (fun _=>rfl)) (.cons (.slw) (.nil))) rfl) (.cons (fzagg (.cons (.id rfl) (.cons (.id rfl) (.nil))) rfl) (.cons (.c (.id rfl)) (.nil))))) (fun v236 H=>?_);conv=>whnf
  refine lq_ ?_;conv=>whnf
  refine FootQ.mk ⟨rfl,?_⟩;conv=>whnf
  refine ask_c (p_outq_Len_v _) H rfl rfl (fun v237 H=>?_);conv=>whnf
  refine tst_c H (fun b238 H=>?_) (fun b238 H=>?_)
  ·conv=>whnf
   obtain rfl:=Option.some.inj H
   have H:=HQ170
   try dsimp only at H
   exact fb_ H
  conv=>whnf
  refine Ari.w ?_;conv=>whnf
  exact again_c [10,11,12,34,35,36,37,38,39,40,41,42,43,44,45,46,47,48,49,50,51,52,53,54,55,56,57,58,59,60,61,62,63,64,65,66,67,68,69,70,71,72,73,74,75,76,77,78,79,80,81,82,83,84,85,86,87,88,89,90,91,92,93,94,95,96,97,98,99,100,101,102] n171 4 [] (.inr (⟨_,_,_,H,rfl,rfl⟩)) (Nat.lt_succ_self _) (Nat.zero_le _) rfl (by kernel_rfl) (by kernel_rfl) rfl ⟨⟨rfl,rfl,rfl⟩,wkB_live0 rfl (cellsM_idlt (f:=V.s) (fun _=>rfl) _) rfl ⟨⟨rfl,rfl,rfl⟩,⟨⟨rfl,rfl,rfl⟩,trivial⟩⟩⟩
 rw [p_law27_OutqShort_l2] at H
 conv=>whnf
 refine LenQ.M ?_;conv=>whnf
 refine tst_d H (fun b257 H=>?_) (fun b257 H=>?_)
 ·conv=>whnf
  obtain rfl:=Option.some.inj H
  have H:=HQ170
  try dsimp only at H
  iterate 2 (refine LenQ.M ?_;conv=>whnf)
  iterate 2 (refine Ari.w ?_;conv=>whnf)
  refine ask_c (p_law27_who_v _) H rfl rfl (fun v298 H=>?_);conv=>whnf
  refine ask_c (p_outq_Forget_v _ _) H rfl rfl (fun v299 H=>?_);conv=>whnf
  refine lq_ ?_;conv=>whnf
  refine FootQ.mk ⟨rfl,?_⟩;conv=>whnf
  refine askF_c (p_outq_Flush_v _ _ _ _) H (.cons (fzagg (.cons (.id rfl) (.cons (.id rfl) (.cons (.id rfl) (.cons (.id rfl) (.cons (.id rfl) (.cons (.id rfl) (.cons (.id rfl) (.nil)))))))) rfl) (.cons (fzagg (.cons (fzown (f:=V.s) (l:=y14.Users) rfl rfl (fun _=>rfl) (fun _=>rfl)) (.cons (.slw) (.nil))) rfl) (.cons (fzagg (.cons (.id rfl) (.cons (.id rfl) (.nil))) rfl) (.cons (.c (.id rfl)) (.nil))))) (fun v300 H=>?_);conv=>whnf
  refine lq_ ?_;conv=>whnf
  obtain ⟨o302,HL303,HQ304⟩:=bind_c H
  refine loop_c [4,17,8,15] [123,124,125,126,127,128,129,130,131,132,133,134,135,136,137,138,139,140,141,142,5,7,14,103,106,117] [123,124,125,126,127,128,129,130,131,132,133,134,135,136,137,138,139,140,141,142,5,7,14,103,106,117] (fun n vals st=>(∃ y306,p_law27_OutqShort_l3  a1 v300.2 y219 n y306=some o302∧vals=[.b false,.i y306,.ptr 0 0,.ptr 1 0]∧st=[.live [.sl (List.map MailEntry.v y219.Mail) false,.b y219.Snap.On,.b y219.Snap.Begun,.s y219.Snap.After,.i y219.Snap.Told,.i y219.Sent,.i y219.Lost] 0,.live [.sl (List.map MailEntry.v v300.1.Mail) false,.b v300.1.Snap.On,.b v300.1.Snap.Begun,.s v300.1.Snap.After,.i v300.1.Snap.Told,.i v300.1.Sent,.i v300.1.Lost] 0])) fuel 2 [3,5] (⟨_,HL303,rfl,rfl⟩) (Nat.zero_le _) rfl (by kernel_rfl) (by kernel_rfl) rfl ⟨⟨rfl,rfl,rfl⟩,⟨⟨rfl,rfl,rfl⟩,trivial⟩⟩ ?_
  rintro (_ | n305) _ _ (⟨y306,H,rfl,rfl⟩)
  ·rw [p_law27_OutqShort_l3] at H;cases H
  rw [p_law27_OutqShort_l3] at H
  conv=>whnf
  refine LenQ.M ?_;conv=>whnf
  refine tst_d H (fun b307 H=>?_) (fun b307 H=>?_)
  ·conv=>whnf
   obtain rfl:=Option.some.inj H
   have H:=HQ304
   try dsimp only at H
   refine ask_c (p_outq_Wants_v _) H rfl rfl (fun v312 H=>?_);conv=>whnf
   refine Tst.not ?_
   refine tstF_c H (fun b313 H=>?_);conv=>whnf
   refine Tst.T ?_;conv=>whnf
   refine LenQ.M ?_;conv=>whnf
   iterate 3 (refine Tst.T ?_;conv=>whnf)
   refine tstT_c H (fun b314 H=>?_);conv=>whnf
   refine ask_c (p_law27_awake_v) H rfl rfl (fun v315 H=>?_);conv=>whnf
   refine Tst.T ?_;conv=>whnf
   exact fb_ H
  conv=>whnf
  refine ixs_c (f:=StanzaStanza.v) H (fun _=>rfl) (fun x308 H=>?_);conv=>whnf
  refine lq_ ?_;conv=>whnf
  refine ask_c (p_law27_who_v _) H rfl rfl (fun v309 H=>?_);conv=>whnf
  refine tst_d H (fun b310 H=>?_) (fun b310 H=>?_)
  ·conv=>whnf
   iterate 4 (refine Tst.F ?_;conv=>whnf)
   refine FootQ.mk ⟨rfl,?_⟩;conv=>whnf
   refine Tst.F ?_;conv=>whnf
   refine Ari.w ?_;conv=>whnf
   exact again_c [123,124,125,126,127,128,129,130,131,132,133,134,135,136,137,138,139,140,141,142,5,7,14,103,106,117] n305 2 [] (⟨_,H,rfl,rfl⟩) (Nat.lt_succ_self _) (Nat.zero_le _) rfl (by kernel_rfl) (by kernel_rfl) rfl ⟨⟨rfl,rfl,rfl⟩,⟨⟨rfl,rfl,rfl⟩,trivial⟩⟩
  conv=>whnf
  iterate 4 (refine Tst.T ?_;conv=>whnf)
  refine FootQ.mk ⟨rfl,?_⟩;conv=>whnf
  refine Tst.not ?_
  refine tst_d H (fun b311 H=>?_) (fun b311 H=>?_)
  ·conv=>whnf
   obtain rfl:=Option.some.inj H
   have H:=HQ304
   try dsimp only at H
   exact fb_ H
  conv=>whnf
  refine Ari.w ?_;conv=>whnf
  exact again_c [123,124,125,126,127,128,129,130,131,132,133,134,135,136,137,138,139,140,141,142,5,7,14,103,106,117] n305 2 [] (⟨_,H,rfl,rfl⟩) (Nat.lt_succ_self _) (Nat.zero_le _) rfl (by kernel_rfl) (by kernel_rfl) rfl ⟨⟨rfl,rfl,rfl⟩,⟨⟨rfl,rfl,rfl⟩,trivial⟩⟩
 conv=>whnf
 refine ixs_c (f:=Law27Deed.v) H (fun _=>rfl) (fun x258 H=>?_);conv=>whnf
 refine lq_ ?_;conv=>whnf
 refine ask_c (p_law27_who_v _) H rfl rfl (fun v259 H=>?_);conv=>whnf
 obtain ⟨K260,hK261,o262,HL263,HQ264⟩:=join0_c H
 refine join_c [12,5,7,8,11] [46,47,48,49,50,51,52,53,54,55,56,57,58,59,60,61,62,63,64,65,66,67,68,69,70,71] (fun vals st=>(∃ y269 y270 y271,K260 (y269,y270,y271)=some o168∧vals=[.i y269,.ptr 0 0,.ptr 2 0,.ptr 3 0,.ptr 4 0]∧st=[.live [.osl 1 0 (List.length y14.Users) 1 false,.sl (List.map V.s y14.Keys) true] 0,.live (cellsM V.s y14.Users) (cellsM V.s y14.Users).length,.live [.i y271.Seq,.sl (List.map BookRow.v y271.Rows) false] 0,.live [.sl (List.map MailEntry.v y219.Mail) false,.b y219.Snap.On,.b y219.Snap.Begun,.s y219.Snap.After,.i y219.Snap.Told,.i y219.Sent,.i y219.Lost] 0,.live [.b y270.On,.i y270.Show,.i y270.Prio,.i y270.Seq] 0])) ?_ ?_
 ·have H:=HL263
  conv=>whnf
  refine ixs_c (f:=Law27Deed.v) H (fun _=>rfl) (fun x266 H=>?_);conv=>whnf
  refine lq_ ?_;conv=>whnf
  refine tst_c H (fun b267 H=>?_) (fun b267 H=>?_)
  ·conv=>whnf
   refine ask_c (p_book_Off_v _ _ _) H rfl rfl (fun v268 H=>?_);conv=>whnf
   refine lq_ ?_;conv=>whnf
   refine lq_ ?_;conv=>whnf
   obtain rfl:=Option.some.inj H
   exact arrive_c [46,47,48,49,50,51,52,53,54,55,56,57,58,59,60,61,62,63,64,65,66,67,68,69,70,71] 5 [] (⟨_,_,_,HQ264,rfl,rfl⟩) (Nat.zero_le _) rfl (by kernel_rfl) (by kernel_rfl) rfl ⟨⟨rfl,rfl,rfl⟩,wkB_live0 rfl (cellsM_idlt (f:=V.s) (fun _=>rfl) _) rfl ⟨⟨rfl,rfl,rfl⟩,⟨⟨rfl,rfl,rfl⟩,⟨⟨rfl,rfl,rfl⟩,trivial⟩⟩⟩⟩
  conv=>whnf
  refine ixs_c (f:=Law27Deed.v) H (fun _=>rfl) (fun x272 H=>?_);conv=>whnf
  refine lq_ ?_;conv=>whnf
  refine ⟨by decide,?_⟩;conv=>whnf
  refine Ari.w ?_;conv=>whnf
  refine ask_c (p_book_Set_v _ _ _ _ _) H rfl rfl (fun v273 H=>?_);conv=>whnf
  refine lq_ ?_;conv=>whnf
  refine lq_ ?_;conv=>whnf
  refine FootQ.mk ⟨rfl,?_⟩;conv=>whnf
  obtain rfl:=Option.some.inj H
  exact arrive_c [46,47,48,49,50,51,52,53,54,55,56,57,58,59,60,61,62,63,64,65,66,67,68,69,70,71] 5 [] (⟨_,_,_,HQ264,rfl,rfl⟩) (Nat.zero_le _) rfl (by kernel_rfl) (by kernel_rfl) rfl ⟨⟨rfl,rfl,rfl⟩,wkB_live0 rfl (cellsM_idlt (f:=V.s) (fun _=>rfl) _) rfl ⟨⟨rfl,rfl,rfl⟩,⟨⟨rfl,rfl,rfl⟩,⟨⟨rfl,rfl,rfl⟩,trivial⟩⟩⟩⟩
 rintro _ _ (⟨y269,y270,y271,H,rfl,rfl⟩)
 rw [hK261] at H
 try dsimp only at H
 conv=>whnf
 obtain ⟨K274,hK275,o276,HL277,HQ278⟩:=join0_c H
 refine join_c [5,7,8] [72,73,74,75,76,77,78,11] (fun vals st=>(∃ y283,K274 y283=some o168∧vals=[.ptr 0 0,.ptr 2 0,.ptr 3 0]∧st=[.live [.osl 1 0 (List.length y14.Users) 1 false,.sl (List.map V.s y14.Keys) true] 0,.live (cellsM V.s y14.Users) (cellsM V.s y14.Users).length,.live [.i y271.Seq,.sl (List.map BookRow.v y271.Rows) false] 0,.live [.sl (List.map MailEntry.v y283.Mail) false,.b y283.Snap.On,.b y283.Snap.Begun,.s y283.Snap.After,.i y283.Snap.Told,.i y283.Sent,.i y283.Lost] 0])) ?_ ?_
 ·have H:=HL277
  conv=>whnf
  refine tst_d H (fun b280 H=>?_) (fun b280 H=>?_)
  ·conv=>whnf
   obtain rfl:=Option.some.inj H
   exact arrive_c [72,73,74,75,76,77,78,11] 4 [] (⟨_,HQ278,rfl,rfl⟩) (Nat.zero_le _) rfl (by kernel_rfl) (by kernel_rfl) rfl ⟨⟨rfl,rfl,rfl⟩,wkB_live0 rfl (cellsM_idlt (f:=V.s) (fun _=>rfl) _) rfl ⟨⟨rfl,rfl,rfl⟩,⟨⟨rfl,rfl,rfl⟩,trivial⟩⟩⟩
  conv=>whnf
  refine ask_c (p_pres_Key_v _ _) H rfl rfl (fun v281 H=>?_);conv=>whnf
  refine ask_c (p_outq_Add_v _ _ _) H rfl rfl (fun v282 H=>?_);conv=>whnf
  refine lq_ ?_;conv=>whnf
  refine FootQ.mk ⟨rfl,?_⟩;conv=>whnf
  obtain rfl:=Option.some.inj H
  exact arrive_c [72,73,74,75,76,77,78,11] 4 [] (⟨_,HQ278,rfl,rfl⟩) (Nat.zero_le _) rfl (by kernel_rfl) (by kernel_rfl) rfl ⟨⟨rfl,rfl,rfl⟩,wkB_live0 rfl (cellsM_idlt (f:=V.s) (fun _=>rfl) _) rfl ⟨⟨rfl,rfl,rfl⟩,⟨⟨rfl,rfl,rfl⟩,trivial⟩⟩⟩
 rintro _ _ (⟨y283,H,rfl,rfl⟩)
 rw [hK275] at H
 try dsimp only at H
 conv=>whnf
 obtain ⟨K284,hK285,o286,HL287,HQ288⟩:=join0_c H
 refine join_c [5,7,8] [79,80,81,82,83,84,85] (fun vals st=>(∃ y293,K284 y293=some o168∧vals=[.ptr 0 0,.ptr 2 0,.ptr 3 0]∧st=[.live [.osl 1 0 (List.length y14.Users) 1 false,.sl (List.map V.s y14.Keys) true] 0,.live (cellsM V.s y14.Users) (cellsM V.s y14.Users).length,.live [.i y271.Seq,.sl (List.map BookRow.v y271.Rows) false] 0,.live [.sl (List.map MailEntry.v y293.Mail) false,.b y293.Snap.On,.b y293.Snap.Begun,.s y293.Snap.After,.i y293.Snap.Told,.i y293.Sent,.i y293.Lost] 0])) ?_ ?_
 ·have H:=HL287
  conv=>whnf
  refine ixs_c (f:=Law27Deed.v) H (fun _=>rfl) (fun x290 H=>?_);conv=>whnf
  refine lq_ ?_;conv=>whnf
  refine tst_d H (fun b291 H=>?_) (fun b291 H=>?_)
  ·conv=>whnf
   obtain rfl:=Option.some.inj H
   exact arrive_c [79,80,81,82,83,84,85] 4 [] (⟨_,HQ288,rfl,rfl⟩) (Nat.zero_le _) rfl (by kernel_rfl) (by kernel_rfl) rfl ⟨⟨rfl,rfl,rfl⟩,wkB_live0 rfl (cellsM_idlt (f:=V.s) (fun _=>rfl) _) rfl ⟨⟨rfl,rfl,rfl⟩,⟨⟨rfl,rfl,rfl⟩,trivial⟩⟩⟩
  conv=>whnf
  refine ask_c (p_outq_Begin_v _) H rfl rfl (fun v292 H=>?_);conv=>whnf
  refine lq_ ?_;conv=>whnf
  obtain rfl:=Option.some.inj H
  exact arrive_c [79,80,81,82,83,84,85] 4 [] (⟨_,HQ288,rfl,rfl⟩) (Nat.zero_le _) rfl (by kernel_rfl) (by kernel_rfl) rfl ⟨⟨rfl,rfl,rfl⟩,wkB_live0 rfl (cellsM_idlt (f:=V.s) (fun _=>rfl) _) rfl ⟨⟨rfl,rfl,rfl⟩,⟨⟨rfl,rfl,rfl⟩,trivial⟩⟩⟩
 rintro _ _ (⟨y293,H,rfl,rfl⟩)
 rw [hK285] at H
 try dsimp only at H
 conv=>whnf
 refine ixs_c (f:=Law27Deed.v) H (fun _=>rfl) (fun x294 H=>?_);conv=>whnf
 refine lq_ ?_;conv=>whnf
 refine ⟨by decide,?_⟩;conv=>whnf
 refine Ari.w ?_;conv=>whnf
 refine askF_c (p_outq_Flush_v _ _ _ _) H (.cons (fzagg (.cons (.id rfl) (.cons (.id rfl) (.cons (.id rfl) (.cons (.id rfl) (.cons (.id rfl) (.cons (.id rfl) (.cons (.id rfl) (.nil)))))))) rfl) (.cons (fzagg (.cons (fzown (f:=V.s) (l:=y14.Users) rfl rfl (fun _=>rfl) (fun _=>rfl)) (.cons (.slw) (.nil))) rfl) (.cons (fzagg (.cons (.id rfl) (.cons (.id rfl) (.nil))) rfl) (.cons (.c (.id rfl)) (.nil))))) (fun v295 H=>?_);conv=>whnf
 refine lq_ ?_;conv=>whnf
 refine FootQ.mk ⟨rfl,?_⟩;conv=>whnf
 refine ask_c (p_outq_Len_v _) H rfl rfl (fun v296 H=>?_);conv=>whnf
 refine tst_c H (fun b297 H=>?_) (fun b297 H=>?_)
 ·conv=>whnf
  obtain rfl:=Option.some.inj H
  have H:=HQ170
  try dsimp only at H
  exact fb_ H
 conv=>whnf
 refine Ari.w ?_;conv=>whnf
 exact again_c [10,11,12,34,35,36,37,38,39,40,41,42,43,44,45,46,47,48,49,50,51,52,53,54,55,56,57,58,59,60,61,62,63,64,65,66,67,68,69,70,71,72,73,74,75,76,77,78,79,80,81,82,83,84,85,86,87,88,89,90,91,92,93,94,95,96,97,98,99,100,101,102] n171 4 [] (.inr (⟨_,_,_,H,rfl,rfl⟩)) (Nat.lt_succ_self _) (Nat.zero_le _) rfl (by kernel_rfl) (by kernel_rfl) rfl ⟨⟨rfl,rfl,rfl⟩,wkB_live0 rfl (cellsM_idlt (f:=V.s) (fun _=>rfl) _) rfl ⟨⟨rfl,rfl,rfl⟩,⟨⟨rfl,rfl,rfl⟩,trivial⟩⟩⟩
end Go.Proofs.YthnihifblmnkdaaGreat

namespace Go.Proofs.YthnihifblmnkdaaGreat
open Go.ChangeShapes Go.WideShapes Go.ChangeAt Go.RowKit Go.Joins Go.Deep
theorem outqShort_named:Tryz.pinned.checked.prog.funcNamed Rows.outqShortRow.func=some 4:=by kernel_rfl
theorem outqShort_closed:joinedFacts Tryz.pinned.checked.prog 4 Tryz.f4 Rows.outqShortSpec Rows.outqShortRow=true:=by kernel_rfl
end Go.Proofs.YthnihifblmnkdaaGreat

namespace Go.Proofs.YthnihifblmnkdaaGreat
open Go.ChangeShapes Go.WideShapes Go.ChangeAt Go.RowKit Go.Joins Go.Deep
set_option maxRecDepth 100000 in
theorem outqShort_lifted (os:Os) (started:os.Started) (H:Type) (enc:TypeId × Value→H) :
  ReturnsInHanded {} Tryz.checked os 4 .any (Rows.outqShortSpec.pre6 enc Tryz.prog Tryz.f4 Rows.outqShortRow.domain false) (Rows.outqShortSpec.post enc Tryz.prog Tryz.f4 false true false false):=by
 refine returnsInHanded_of_change_shaped (C:=Tryz.checked) own0 started (by kernel_rfl) Tryz.func4
  (ChangeSpec.witness6 (enc:=enc) (C:=Tryz.checked) false ⟨#[],#[.slice none 0 0,.int .u8 0],[]⟩ 8 (by kernel_rfl) (by kernel_rfl) (by kernel_rfl) (by kernel_rfl)) ?_
 intro W base args ds gs before hval0 hW hcnd _ hsh _
 have hval:∀ (j:Nat) t v,Tryz.f4.params[j]?=some t→args[j]?=some v→Value.okWide Tryz.prog W .any base t v:=hval0
 have hW':=hW
 obtain ⟨p,q,hA0,hV,rfl,hfz,hnd⟩:=hW
 have hA:DataW.TrodAll enc Tryz.prog W 0 (fun _=>true) true Tryz.f4.params.toList args.toList ds p:=hA0
 rw [Tryz.params4] at hA hval
 have hA2:=hA
 obtain ⟨v0,v1,d0,d1,p0,p1,rfl,rfl,hp,h0,h1⟩:=trodAll_two hA
 obtain ⟨rfl,rfl⟩:=trodVars_none hV
 obtain ⟨fu0,hf0⟩:=h0
 obtain ⟨q0,l0,k0,rfl⟩:=okWide_slice Tryz.underlying55 (hval 0 _ v0 rfl rfl)
 obtain ⟨a0,w0,r0⟩:=rd_T55 hf0
 have hx0:Rep (MW W) noBk _ _:=r0.2 0 (by simp [Value.cells]) (by simp)
 obtain ⟨fu1,hf1⟩:=h1
 obtain ⟨q1,rfl⟩:=okWide_int Tryz.underlying5 (hval 1 _ v1 rfl rfl)
 obtain ⟨a1,w1,r1⟩:=rd_int Tryz.underlying5 hf1
 have hx1:Rep (MW W) noBk _ _:=r1.2 0 (by simp [Value.cells]) (by simp)
 refine (rep_one (callsO_true (p_law27_OutqShort_v a0 a1) (tru_ok (outqShort_wf a0 a1 w0 w1))) (maxLen_cell W hsh) (repAr2 hx0 hx1)).mono ?_
 rintro e W' ⟨rfl,bel⟩
 refine ⟨_,rfl,_,_,_,[],p,[],hW',?_,?_,?_,?_,?_⟩
 ·exact trodAll_mk1 (shut_bool Tryz.underlying4 true)
 ·exact trodAll_below laid0 bel (by
   intro t ht
   simp at ht
   rcases ht with rfl | rfl <;> exact ⟨by kernel_rfl,of_decide_eq_true (by kernel_rfl)⟩) hA2
 ·rfl
 ·exact bel.frame _
 ·exact fun h=>by cases h
theorem outqShort_holds:Rows.OutqShortSaid :=
 OpenClaim.holds_of_wide 4 Tryz.f4 rfl rfl rfl rfl rfl rfl rfl ⟨rfl,rfl,rfl,rfl,rfl⟩ rfl rfl rfl rfl rfl outqShort_named Tryz.func4 outqShort_closed
  (of_decide_eq_true (by kernel_rfl)) (by unfold Func.isWrapper;first | (rw [if_pos (by decide +kernel)];kernel_rfl) | (rw [if_neg (by decide +kernel)];exact ⟨rfl,rfl⟩))
  (fun os started H enc _=>outqShort_lifted os started H enc)
#print axioms outqShort_holds
end Go.Proofs.YthnihifblmnkdaaGreat

