/- A part of the proof: 3 texts joined. -/
import Derived.Test.YtpmoioopjbfhkaaGreatWeA8
import Derived.Test.YtpmoioopjbfhkaaGreatWeA9
import Derived.Test.YtpmoioopjbfhkaaGreatWeA5
import Derived.KernelRfl
import Derived.Test.YtpmoioopjbfhkaaGreatWeA6
import Derived.Test.YtpmoioopjbfhkaaGreatWeA12
import Derived.Test.YtpmoioopjbfhkaaGreatWeA10
set_option linter.all false
namespace Go.Proofs.YtpmoioopjbfhkaaGreat
open Go.RowKit
set_option maxRecDepth 1000000
set_option maxHeartbeats 4000000
def gc175:BCode:=(.seq (R_ 1 [O_ 1 (.bx (t_ 0)) 0,O_ 2 (.mv (b_ false)) 1]) (.seq (.seq (R_ 0 [O_ 3 (.mv (i_ 0)) 0]) (.block 0 (.loop (.seq (.seq (R_ 0 [O_ 12 (.mv (t_ 3)) 0,O_ 13 (.fa 2 (t_ 1)) 0,O_ 14 (.ld 1 false (t_ 13)) 0,O_ 15 (.lens (t_ 14)) 0,O_ 16 (.bin .lss (t_ 12) (t_ 15)) 0]) (.cond (t_ 16) .skip (.exit 0))) (.seq (.block 1 (.seq (R_ 1 [O_ 19 (.fa 2 (t_ 1)) 0,O_ 20 (.ld 1 false (t_ 19)) 0,O_ 21 (.mv (t_ 3)) 0,O_ 22 (.ixs 5 (t_ 20) (t_ 21)) 0,O_ 23 (.ld 5 true (t_ 22)) 0,O_ 4 (.al (.agg [(.lit (.string ⟨#[]⟩)),(.lit (.string ⟨#[]⟩)),(.lit (.int .i64 0)),(.lit (.int .i64 0)),(.lit (.bool false))])) 0,U_ (.st 5 (t_ 4) (t_ 23)) 1]) (.seq (.seq (.reg 0 [O_ 24 (.fa 3 (t_ 4)) 0,O_ 25 (.ld 1 false (t_ 24)) 0,O_ 26 (.bin .lss (t_ 25) (i_ 1)) 0,O_ 27 (.mv (t_ 26)) 0,⟨(some 28),.fa 3 (t_ 4),(some (27,false)),0⟩,⟨(some 29),.ld 1 false (t_ 28),(some (27,false)),0⟩,⟨(some 30),.fa 0 (t_ 1),(some (27,false)),0⟩,⟨(some 31),.ld 1 false (t_ 30),(some (27,false)),0⟩,⟨(some 32),.bin .gtr (t_ 29) (t_ 31),(some (27,false)),0⟩,O_ 33 (.pick (t_ 27) (b_ true) (t_ 32)) 0,O_ 34 (.mv (t_ 33)) 0,⟨(some 35),.mv (t_ 3),(some (34,false)),0⟩,⟨(some 36),.bin .gtr (t_ 35) (i_ 0),(some (34,false)),0⟩,⟨(some 37),.mv (t_ 36),(some (34,false)),0⟩,⟨(some 38),.fa 2 (t_ 1),(some (37,true)),0⟩,⟨(some 39),.ld 1 false (t_ 38),(some (37,true)),0⟩,⟨(some 40),.mv (t_ 3),(some (37,true)),0⟩,⟨(some 41),.bin .sub (t_ 40) (i_ 1),(some (37,true)),0⟩,⟨(some 42),.ixs 5 (t_ 39) (t_ 41),(some (37,true)),0⟩,⟨(some 43),.fa 0 (t_ 42),(some (37,true)),0⟩,⟨(some 44),.ld 1 false (t_ 43),(some (37,true)),0⟩,⟨(some 45),.fa 0 (t_ 4),(some (37,true)),0⟩,⟨(some 46),.ld 1 false (t_ 45),(some (37,true)),0⟩,⟨(some 47),.bin .geq (t_ 44) (t_ 46),(some (37,true)),0⟩,⟨(some 48),.pick (t_ 37) (t_ 47) (b_ false),(some (34,false)),0⟩,O_ 49 (.pick (t_ 34) (b_ true) (t_ 48)) 0] (some [[],[0],[0,1],[1,0,2],[2,0,1,3],[3,1,0,2,4],[2,0,1,3],[3,1,0,2,6],[6,7,4,2,0,1,3,5],[5,4,7,6,8,2,0,1,3],[3,1,0,2,8,6,7,4,5,9],[9,5,4,7,6,8,2,0,1,3,10],[10,3,1,0,2,8,6,7,4,5,9,11],[11,9,5,4,7,6,8,2,0,1,3,10,12],[12,10,3,1,0,2,8,6,7,4,5,9,11,13],[13,11,9,5,4,7,6,8,2,0,1,3,10,12,14],[12,10,3,1,0,2,8,6,7,4,5,9,11,13],[13,11,9,5,4,7,6,8,2,0,1,3,10,12,16],[16,17,14,12,10,3,1,0,2,8,6,7,4,5,9,11,13,15],[15,13,11,9,5,4,7,6,8,2,0,1,3,10,12,14,17,16,18],[18,16,17,14,12,10,3,1,0,2,8,6,7,4,5,9,11,13,15,19],[12,10,3,1,0,2,8,6,7,4,5,9,11,13],[13,11,9,5,4,7,6,8,2,0,1,3,10,12,21],[21,22,19,15,13,11,9,5,4,7,6,8,2,0,1,3,10,12,14,17,16,18,20],[20,18,16,17,14,15,19,22,21,23,12,10,3,1,0,2,8,6,7,4,5,9,11,13],[13,11,12,23,21,22,19,15,14,17,16,18,20,24,9,5,4,7,6,8,2,0,1,3,10]]) 0 []) (.cond (t_ 49) (.seq (R_ 0 [O_ 2 (.mv (b_ false)) 0]) .ret) .skip)) (.seq (R_ 0 [O_ 5 (.mv (i_ 0)) 0]) (.block 2 (.loop (.seq (.seq (R_ 0 [O_ 50 (.mv (t_ 5)) 0,O_ 51 (.mv (t_ 3)) 0,O_ 52 (.bin .lss (t_ 50) (t_ 51)) 0]) (.cond (t_ 52) .skip (.exit 2))) (.seq (.block 3 (.seq (.reg 0 [O_ 55 (.fa 2 (t_ 1)) 0,O_ 56 (.ld 1 false (t_ 55)) 0,O_ 57 (.mv (t_ 5)) 0,O_ 58 (.ixs 5 (t_ 56) (t_ 57)) 0,O_ 59 (.fa 3 (t_ 58)) 0,O_ 60 (.ld 1 false (t_ 59)) 0,O_ 61 (.fa 3 (t_ 4)) 0,O_ 62 (.ld 1 false (t_ 61)) 0,O_ 63 (.bin .eql (t_ 60) (t_ 62)) 0] (some [[],[0],[],[2,0,1],[1,0,2,3],[3,2,0,1,4],[],[6],[6,7,4,1,0,2,3,5]]) 0 []) (.cond (t_ 63) (.seq (R_ 0 [O_ 2 (.mv (b_ false)) 0]) .ret) .skip))) (R_ 0 [O_ 53 (.mv (t_ 5)) 0,O_ 54 (.bin .add (t_ 53) (i_ 1)) 0,O_ 5 (.mv (t_ 54)) 0]))))))))) (R_ 0 [O_ 17 (.mv (t_ 3)) 0,O_ 18 (.bin .add (t_ 17) (i_ 1)) 0,O_ 3 (.mv (t_ 18)) 0])))))) (.seq (R_ 0 [O_ 64 (.fa 1 (t_ 1)) 0,O_ 65 (.ld 1 false (t_ 64)) 0,O_ 6 (.mv (t_ 65)) 0]) (.seq (.seq (R_ 0 [O_ 7 (.mv (i_ 0)) 0]) (.block 4 (.loop (.seq (.seq (R_ 0 [O_ 66 (.mv (t_ 7)) 0,O_ 67 (.fa 3 (t_ 1)) 0,O_ 68 (.ld 1 false (t_ 67)) 0,O_ 69 (.lens (t_ 68)) 0,O_ 70 (.bin .lss (t_ 66) (t_ 69)) 0]) (.cond (t_ 70) .skip (.exit 4))) (.seq (.block 5 (.seq (R_ 1 [O_ 73 (.fa 3 (t_ 1)) 0,O_ 74 (.ld 1 false (t_ 73)) 0,O_ 75 (.mv (t_ 7)) 0,O_ 76 (.ixs 2 (t_ 74) (t_ 75)) 0,O_ 77 (.ld 2 true (t_ 76)) 0,O_ 8 (.al (.agg [(.lit (.string ⟨#[]⟩)),(.lit (.int .i64 0))])) 0,U_ (.st 2 (t_ 8) (t_ 77)) 1]) (.seq (.seq (R_ 0 [O_ 78 (.fa 1 (t_ 8)) 0,O_ 79 (.ld 1 false (t_ 78)) 0,O_ 80 (.mv (t_ 6)) 0,O_ 81 (.bin .leq (t_ 79) (t_ 80)) 0,O_ 82 (.mv (t_ 81)) 0,⟨(some 83),.fa 1 (t_ 8),(some (82,false)),0⟩,⟨(some 84),.ld 1 false (t_ 83),(some (82,false)),0⟩,⟨(some 85),.fa 0 (t_ 1),(some (82,false)),0⟩,⟨(some 86),.ld 1 false (t_ 85),(some (82,false)),0⟩,⟨(some 87),.bin .gtr (t_ 84) (t_ 86),(some (82,false)),0⟩,O_ 88 (.pick (t_ 82) (b_ true) (t_ 87)) 0]) (.cond (t_ 88) (.seq (R_ 0 [O_ 2 (.mv (b_ false)) 0]) .ret) .skip)) (.seq (.seq (R_ 0 [O_ 9 (.mv (i_ 0)) 0]) (.block 6 (.loop (.seq (.seq (R_ 0 [O_ 89 (.mv (t_ 9)) 0,O_ 90 (.mv (t_ 7)) 0,O_ 91 (.bin .lss (t_ 89) (t_ 90)) 0]) (.cond (t_ 91) .skip (.exit 6))) (.seq (.block 7 (.seq (.reg 0 [O_ 94 (.fa 3 (t_ 1)) 0,O_ 95 (.ld 1 false (t_ 94)) 0,O_ 96 (.mv (t_ 9)) 0,O_ 97 (.ixs 2 (t_ 95) (t_ 96)) 0,O_ 98 (.fa 0 (t_ 97)) 0,O_ 99 (.ld 1 false (t_ 98)) 0,O_ 100 (.fa 0 (t_ 8)) 0,O_ 101 (.ld 1 false (t_ 100)) 0,O_ 102 (.bin .eql (t_ 99) (t_ 101)) 0] (some [[],[0],[],[2,0,1],[1,0,2,3],[3,2,0,1,4],[],[6],[6,7,4,1,0,2,3,5]]) 0 []) (.cond (t_ 102) (.seq (R_ 0 [O_ 2 (.mv (b_ false)) 0]) .ret) .skip))) (R_ 0 [O_ 92 (.mv (t_ 9)) 0,O_ 93 (.bin .add (t_ 92) (i_ 1)) 0,O_ 9 (.mv (t_ 93)) 0])))))) (.seq (.seq (R_ 0 [O_ 10 (.mv (i_ 0)) 0]) (.block 8 (.loop (.seq (.seq (R_ 0 [O_ 103 (.mv (t_ 10)) 0,O_ 104 (.fa 2 (t_ 1)) 0,O_ 105 (.ld 1 false (t_ 104)) 0,O_ 106 (.lens (t_ 105)) 0,O_ 107 (.bin .lss (t_ 103) (t_ 106)) 0]) (.cond (t_ 107) .skip (.exit 8))) (.seq (.block 9 (.seq (R_ 1 [O_ 110 (.fa 2 (t_ 1)) 0,O_ 111 (.ld 1 false (t_ 110)) 0,O_ 112 (.mv (t_ 10)) 0,O_ 113 (.ixs 5 (t_ 111) (t_ 112)) 0,O_ 114 (.ld 5 true (t_ 113)) 0,O_ 11 (.al (.agg [(.lit (.string ⟨#[]⟩)),(.lit (.string ⟨#[]⟩)),(.lit (.int .i64 0)),(.lit (.int .i64 0)),(.lit (.bool false))])) 0,U_ (.st 5 (t_ 11) (t_ 114)) 1]) (.seq (R_ 0 [O_ 115 (.fa 3 (t_ 11)) 0,O_ 116 (.ld 1 false (t_ 115)) 0,O_ 117 (.fa 1 (t_ 8)) 0,O_ 118 (.ld 1 false (t_ 117)) 0,O_ 119 (.bin .eql (t_ 116) (t_ 118)) 0,O_ 120 (.mv (t_ 119)) 0,⟨(some 121),.fa 0 (t_ 11),(some (120,true)),0⟩,⟨(some 122),.ld 1 false (t_ 121),(some (120,true)),0⟩,⟨(some 123),.fa 0 (t_ 8),(some (120,true)),0⟩,⟨(some 124),.ld 1 false (t_ 123),(some (120,true)),0⟩,⟨(some 125),.bin .neq (t_ 122) (t_ 124),(some (120,true)),0⟩,O_ 126 (.pick (t_ 120) (t_ 125) (b_ false)) 0,O_ 127 (.mv (t_ 126)) 0,⟨(some 128),.fa 3 (t_ 11),(some (127,false)),0⟩,⟨(some 129),.ld 1 false (t_ 128),(some (127,false)),0⟩,⟨(some 130),.fa 1 (t_ 8),(some (127,false)),0⟩,⟨(some 131),.ld 1 false (t_ 130),(some (127,false)),0⟩,⟨(some 132),.bin .eql (t_ 129) (t_ 131),(some (127,false)),0⟩,⟨(some 133),.mv (t_ 132),(some (127,false)),0⟩,⟨(some 134),.ld 5 true (t_ 11),(some (133,true)),0⟩,⟨(some 135),.cl 18 [(t_ 134)],(some (133,true)),0⟩,⟨(some 136),.pick (t_ 133) (t_ 135) (b_ false),(some (127,false)),0⟩,O_ 137 (.pick (t_ 127) (b_ true) (t_ 136)) 0,O_ 138 (.mv (t_ 137)) 0,⟨(some 139),.fa 0 (t_ 11),(some (138,false)),0⟩,⟨(some 140),.ld 1 false (t_ 139),(some (138,false)),0⟩,⟨(some 141),.fa 0 (t_ 8),(some (138,false)),0⟩,⟨(some 142),.ld 1 false (t_ 141),(some (138,false)),0⟩,⟨(some 143),.bin .eql (t_ 140) (t_ 142),(some (138,false)),0⟩,⟨(some 144),.mv (t_ 143),(some (138,false)),0⟩,⟨(some 145),.ld 5 true (t_ 11),(some (144,true)),0⟩,⟨(some 146),.cl 18 [(t_ 145)],(some (144,true)),0⟩,⟨(some 147),.pick (t_ 144) (t_ 146) (b_ false),(some (138,false)),0⟩,O_ 148 (.pick (t_ 138) (b_ true) (t_ 147)) 0]) (.cond (t_ 148) (.seq (R_ 0 [O_ 2 (.mv (b_ false)) 0]) .ret) .skip)))) (R_ 0 [O_ 108 (.mv (t_ 10)) 0,O_ 109 (.bin .add (t_ 108) (i_ 1)) 0,O_ 10 (.mv (t_ 109)) 0])))))) (R_ 0 [O_ 149 (.fa 1 (t_ 8)) 0,O_ 150 (.ld 1 false (t_ 149)) 0,O_ 6 (.mv (t_ 150)) 0])))))) (R_ 0 [O_ 71 (.mv (t_ 7)) 0,O_ 72 (.bin .add (t_ 71) (i_ 1)) 0,O_ 7 (.mv (t_ 72)) 0])))))) (.seq (R_ 0 [O_ 2 (.mv (b_ true)) 0]) .ret)))))
theorem gc175_ok:compF Tryz.prog Tryz.f175=some (gc175.er,151,[.tmp 2]):=by unfold gc175;kernel_rfl
theorem p_ref21_rises_v {u1 u2:Bool} (a0:RosterState):CallsO Tryz.prog 175 [.agg [.i a0.Ver,.i a0.Floor,.sl (List.map ItemItem.v a0.Items) u1,.sl (List.map RosterGone.v a0.Gone) u2]] V.b (p_ref21_rises a0):=by
 refine callsO_comp mix Tryz.func175 gc175_ok fun r H=>?_
 rw [p_ref21_rises] at H
 conv=>whnf
 obtain ⟨o2,HL3,HQ4⟩:=bind_c H
 refine loop_c [2,3] [4,5,12,13,14,15,16,17,18,19,20,21,22,23,24,25,26,27,28,29,30,31,32,33,34,35,36,37,38,39,40,41,42,43,44,45,46,47,48,49,50,51,52,53,54,55,56,57,58,59,60,61,62,63] [4,5,12,13,14,15,16,17,18,19,20,21,22,23,24,25,26,27,28,29,30,31,32,33,34,35,36,37,38,39,40,41,42,43,44,45,46,47,48,49,50,51,52,53,54,55,56,57,58,59,60,61,62,63] (fun n vals st=>(∃ y6,p_ref21_rises_l1  a0 n y6=some o2∧vals=[.b false,.i y6]∧st=[.live [.i a0.Ver,.i a0.Floor,.sl (List.map ItemItem.v a0.Items) u1,.sl (List.map RosterGone.v a0.Gone) u2] 0])) fuel 1 [] (⟨_,HL3,rfl,rfl⟩) (Nat.zero_le _) rfl (by kernel_rfl) (by kernel_rfl) rfl ⟨⟨rfl,rfl,rfl⟩,trivial⟩ ?_
 rintro (_ | n5) _ _ (⟨y6,H,rfl,rfl⟩)
 ·rw [p_ref21_rises_l1] at H;cases H
 rw [p_ref21_rises_l1] at H
 conv=>whnf
 refine LenQ.M ?_;conv=>whnf
 refine tst_c H (fun b7 H=>?_) (fun b7 H=>?_)
 ·conv=>whnf
  refine ixs_c (f:=ItemItem.v) H (fun _=>rfl) (fun x8 H=>?_);conv=>whnf
  refine lq_ ?_;conv=>whnf
  refine tst_c H (fun b9 H=>?_) (fun b9 H=>?_)
  ·conv=>whnf
   iterate 10 (refine Tst.T ?_;conv=>whnf)
   refine FootQ.mk ⟨rfl,?_⟩;conv=>whnf
   refine Tst.T ?_;conv=>whnf
   obtain rfl:=Option.some.inj H
   have H:=HQ4
   try dsimp only at H
   exact fb_ H
  conv=>whnf
  iterate 5 (refine Tst.F ?_;conv=>whnf)
  refine tst_c H (fun b10 H=>?_) (fun b10 H=>?_)
  ·conv=>whnf
   iterate 4 (refine Tst.T ?_;conv=>whnf)
   refine FootQ.mk ⟨rfl,?_⟩;conv=>whnf
   refine Tst.T ?_;conv=>whnf
   obtain rfl:=Option.some.inj H
   have H:=HQ4
   try dsimp only at H
   exact fb_ H
  conv=>whnf
  iterate 2 (refine Tst.F ?_;conv=>whnf)
  refine tst_d H (fun b11 H=>?_) (fun b11 H=>?_)
  ·conv=>whnf
   iterate 12 (refine Tst.F ?_;conv=>whnf)
   refine FootQ.mk ⟨rfl,?_⟩;conv=>whnf
   refine Tst.F ?_;conv=>whnf
   obtain ⟨o24,HL25,HQ26⟩:=bind_c H
   refine loop_c [2,5] [50,51,52,53,54,55,56,57,58,59,60,61,62,63,13,19,24,28,30] [50,51,52,53,54,55,56,57,58,59,60,61,62,63,13,19,24,28,30] (fun n vals st=>(∃ y28,p_ref21_rises_l2  y6 a0 x8 n y28=some o24∧vals=[.b false,.i y28]∧st=[.live [.i a0.Ver,.i a0.Floor,.sl (List.map ItemItem.v a0.Items) u1,.sl (List.map RosterGone.v a0.Gone) u2] 0,.live [.s x8.Contact,.s x8.Name,.i x8.Sub,.i x8.Ver,.b x8.Own] 0])) fuel 2 [] (⟨_,HL25,rfl,rfl⟩) (Nat.zero_le _) rfl (by kernel_rfl) (by kernel_rfl) rfl ⟨⟨rfl,rfl,rfl⟩,⟨⟨rfl,rfl,rfl⟩,trivial⟩⟩ ?_
   rintro (_ | n27) _ _ (⟨y28,H,rfl,rfl⟩)
   ·rw [p_ref21_rises_l2] at H;cases H
   rw [p_ref21_rises_l2] at H
   conv=>whnf
   refine tst_d H (fun b29 H=>?_) (fun b29 H=>?_)
   ·conv=>whnf
    obtain rfl:=Option.some.inj H
    have H:=HQ26
    try dsimp only at H
    refine Ari.w ?_;conv=>whnf
    exact again_c [4,5,12,13,14,15,16,17,18,19,20,21,22,23,24,25,26,27,28,29,30,31,32,33,34,35,36,37,38,39,40,41,42,43,44,45,46,47,48,49,50,51,52,53,54,55,56,57,58,59,60,61,62,63] n5 1 [] (⟨_,H,rfl,rfl⟩) (Nat.lt_succ_self _) (Nat.zero_le _) rfl (by kernel_rfl) (by kernel_rfl) rfl ⟨⟨rfl,rfl,rfl⟩,trivial⟩
   conv=>whnf
   refine ixs_c (f:=ItemItem.v) H (fun _=>rfl) (fun x30 H=>?_);conv=>whnf
   refine lq_ ?_;conv=>whnf
   refine FootQ.mk ⟨rfl,?_⟩;conv=>whnf
   refine tst_c H (fun b31 H=>?_) (fun b31 H=>?_)
   ·conv=>whnf
    obtain rfl:=Option.some.inj H
    have H:=HQ26
    try dsimp only at H
    obtain rfl:=Option.some.inj H
    have H:=HQ4
    try dsimp only at H
    exact fb_ H
   conv=>whnf
   refine Ari.w ?_;conv=>whnf
   exact again_c [50,51,52,53,54,55,56,57,58,59,60,61,62,63,13,19,24,28,30] n27 2 [] (⟨_,H,rfl,rfl⟩) (Nat.lt_succ_self _) (Nat.zero_le _) rfl (by kernel_rfl) (by kernel_rfl) rfl ⟨⟨rfl,rfl,rfl⟩,⟨⟨rfl,rfl,rfl⟩,trivial⟩⟩
  conv=>whnf
  iterate 3 (refine Tst.T ?_;conv=>whnf)
  refine Ari.w ?_;conv=>whnf
  refine Tst.T ?_;conv=>whnf
  refine ixs_c (f:=ItemItem.v) H (fun _=>rfl) (fun x12 H=>?_);conv=>whnf
  refine Tst.T ?_;conv=>whnf
  refine lq_ ?_;conv=>whnf
  iterate 4 (refine Tst.T ?_;conv=>whnf)
  refine Tst.F ?_;conv=>whnf
  refine Tst.T ?_;conv=>whnf
  refine Tst.F ?_;conv=>whnf
  refine FootQ.mk ⟨rfl,?_⟩;conv=>whnf
  refine Tst.not ?_
  refine tst_d H (fun b13 H=>?_) (fun b13 H=>?_)
  ·conv=>whnf
   obtain rfl:=Option.some.inj H
   have H:=HQ4
   try dsimp only at H
   exact fb_ H
  conv=>whnf
  obtain ⟨o15,HL16,HQ17⟩:=bind_c H
  refine loop_c [2,5] [50,51,52,53,54,55,56,57,58,59,60,61,62,63,13,19,24,28,30,38,45] [50,51,52,53,54,55,56,57,58,59,60,61,62,63,13,19,24,28,30,38,45] (fun n vals st=>(∃ y19,p_ref21_rises_l2  y6 a0 x8 n y19=some o15∧vals=[.b false,.i y19]∧st=[.live [.i a0.Ver,.i a0.Floor,.sl (List.map ItemItem.v a0.Items) u1,.sl (List.map RosterGone.v a0.Gone) u2] 0,.live [.s x8.Contact,.s x8.Name,.i x8.Sub,.i x8.Ver,.b x8.Own] 0])) fuel 2 [] (⟨_,HL16,rfl,rfl⟩) (Nat.zero_le _) rfl (by kernel_rfl) (by kernel_rfl) rfl ⟨⟨rfl,rfl,rfl⟩,⟨⟨rfl,rfl,rfl⟩,trivial⟩⟩ ?_
  rintro (_ | n18) _ _ (⟨y19,H,rfl,rfl⟩)
  ·rw [p_ref21_rises_l2] at H;cases H
  rw [p_ref21_rises_l2] at H
  conv=>whnf
  refine tst_d H (fun b20 H=>?_) (fun b20 H=>?_)
  ·conv=>whnf
   obtain rfl:=Option.some.inj H
   have H:=HQ17
   try dsimp only at H
   refine Ari.w ?_;conv=>whnf
   exact again_c [4,5,12,13,14,15,16,17,18,19,20,21,22,23,24,25,26,27,28,29,30,31,32,33,34,35,36,37,38,39,40,41,42,43,44,45,46,47,48,49,50,51,52,53,54,55,56,57,58,59,60,61,62,63] n5 1 [] (⟨_,H,rfl,rfl⟩) (Nat.lt_succ_self _) (Nat.zero_le _) rfl (by kernel_rfl) (by kernel_rfl) rfl ⟨⟨rfl,rfl,rfl⟩,trivial⟩
  conv=>whnf
  refine ixs_c (f:=ItemItem.v) H (fun _=>rfl) (fun x21 H=>?_);conv=>whnf
  refine lq_ ?_;conv=>whnf
  refine FootQ.mk ⟨rfl,?_⟩;conv=>whnf
  refine tst_c H (fun b22 H=>?_) (fun b22 H=>?_)
  ·conv=>whnf
   obtain rfl:=Option.some.inj H
   have H:=HQ17
   try dsimp only at H
   obtain rfl:=Option.some.inj H
   have H:=HQ4
   try dsimp only at H
   exact fb_ H
  conv=>whnf
  refine Ari.w ?_;conv=>whnf
  exact again_c [50,51,52,53,54,55,56,57,58,59,60,61,62,63,13,19,24,28,30,38,45] n18 2 [] (⟨_,H,rfl,rfl⟩) (Nat.lt_succ_self _) (Nat.zero_le _) rfl (by kernel_rfl) (by kernel_rfl) rfl ⟨⟨rfl,rfl,rfl⟩,⟨⟨rfl,rfl,rfl⟩,trivial⟩⟩
 conv=>whnf
 obtain rfl:=Option.some.inj H
 have H:=HQ4
 try dsimp only at H
 obtain ⟨o33,HL34,HQ35⟩:=bind_c H
 refine loop_c [2,6,7] [8,9,10,11,66,67,68,69,70,71,72,73,74,75,76,77,78,79,80,81,82,83,84,85,86,87,88,89,90,91,92,93,94,95,96,97,98,99,100,101,102,103,104,105,106,107,108,109,110,111,112,113,114,115,116,117,118,119,120,121,122,123,124,125,126,127,128,129,130,131,132,133,134,135,136,137,138,139,140,141,142,143,144,145,146,147,148,149,150,13,64] [8,9,10,11,66,67,68,69,70,71,72,73,74,75,76,77,78,79,80,81,82,83,84,85,86,87,88,89,90,91,92,93,94,95,96,97,98,99,100,101,102,103,104,105,106,107,108,109,110,111,112,113,114,115,116,117,118,119,120,121,122,123,124,125,126,127,128,129,130,131,132,133,134,135,136,137,138,139,140,141,142,143,144,145,146,147,148,149,150,13,64] (fun n vals st=>(∃ y37 y38,p_ref21_rises_l3  a0 n y37 y38=some o33∧vals=[.b false,.i y37,.i y38]∧st=[.live [.i a0.Ver,.i a0.Floor,.sl (List.map ItemItem.v a0.Items) u1,.sl (List.map RosterGone.v a0.Gone) u2] 0])) fuel 1 [] (⟨_,_,HL34,rfl,rfl⟩) (Nat.zero_le _) rfl (by kernel_rfl) (by kernel_rfl) rfl ⟨⟨rfl,rfl,rfl⟩,trivial⟩ ?_
 rintro (_ | n36) _ _ (⟨y37,y38,H,rfl,rfl⟩)
 ·rw [p_ref21_rises_l3] at H;cases H
 rw [p_ref21_rises_l3] at H
 conv=>whnf
 refine LenQ.M ?_;conv=>whnf
 refine tst_d H (fun b39 H=>?_) (fun b39 H=>?_)
 ·conv=>whnf
  obtain rfl:=Option.some.inj H
  have H:=HQ35
  try dsimp only at H
  exact fb_ H
 conv=>whnf
 refine ixs_c (f:=RosterGone.v) H (fun _=>rfl) (fun x40 H=>?_);conv=>whnf
 refine lq_ ?_;conv=>whnf
 refine tst_c H (fun b41 H=>?_) (fun b41 H=>?_)
 ·conv=>whnf
  iterate 6 (refine Tst.T ?_;conv=>whnf)
  obtain rfl:=Option.some.inj H
  have H:=HQ35
  try dsimp only at H
  exact fb_ H
 conv=>whnf
 iterate 5 (refine Tst.F ?_;conv=>whnf)
 refine tst_c H (fun b42 H=>?_) (fun b42 H=>?_)
 ·conv=>whnf
  obtain rfl:=Option.some.inj H
  have H:=HQ35
  try dsimp only at H
  exact fb_ H
 conv=>whnf
 obtain ⟨o44,HL45,HQ46⟩:=bind_c H
 refine loop_c [2,9] [89,90,91,92,93,94,95,96,97,98,99,100,101,102,67,73,78,83,85] [89,90,91,92,93,94,95,96,97,98,99,100,101,102,67,73,78,83,85] (fun n vals st=>(∃ y48,p_ref21_rises_l4  y38 a0 x40 n y48=some o44∧vals=[.b false,.i y48]∧st=[.live [.i a0.Ver,.i a0.Floor,.sl (List.map ItemItem.v a0.Items) u1,.sl (List.map RosterGone.v a0.Gone) u2] 0,.live [.s x40.Contact,.i x40.Ver] 0])) fuel 2 [] (⟨_,HL45,rfl,rfl⟩) (Nat.zero_le _) rfl (by kernel_rfl) (by kernel_rfl) rfl ⟨⟨rfl,rfl,rfl⟩,⟨⟨rfl,rfl,rfl⟩,trivial⟩⟩ ?_
 rintro (_ | n47) _ _ (⟨y48,H,rfl,rfl⟩)
 ·rw [p_ref21_rises_l4] at H;cases H
 rw [p_ref21_rises_l4] at H
 conv=>whnf
 refine tst_c H (fun b49 H=>?_) (fun b49 H=>?_)
 ·conv=>whnf
  refine ixs_c (f:=RosterGone.v) H (fun _=>rfl) (fun x50 H=>?_);conv=>whnf
  refine lq_ ?_;conv=>whnf
  refine FootQ.mk ⟨rfl,?_⟩;conv=>whnf
  refine tst_c H (fun b51 H=>?_) (fun b51 H=>?_)
  ·conv=>whnf
   obtain rfl:=Option.some.inj H
   have H:=HQ46
   try dsimp only at H
   obtain rfl:=Option.some.inj H
   have H:=HQ35
   try dsimp only at H
   exact fb_ H
  conv=>whnf
  refine Ari.w ?_;conv=>whnf
  exact again_c [89,90,91,92,93,94,95,96,97,98,99,100,101,102,67,73,78,83,85] n47 2 [] (⟨_,H,rfl,rfl⟩) (Nat.lt_succ_self _) (Nat.zero_le _) rfl (by kernel_rfl) (by kernel_rfl) rfl ⟨⟨rfl,rfl,rfl⟩,⟨⟨rfl,rfl,rfl⟩,trivial⟩⟩
 conv=>whnf
 obtain rfl:=Option.some.inj H
 have H:=HQ46
 try dsimp only at H
 obtain ⟨o53,HL54,HQ55⟩:=bind_c H
 refine loop_c [2,10] [11,103,104,105,106,107,108,109,110,111,112,113,114,115,116,117,118,119,120,121,122,123,124,125,126,127,128,129,130,131,132,133,134,135,136,137,138,139,140,141,142,143,144,145,146,147,148] [11,103,104,105,106,107,108,109,110,111,112,113,114,115,116,117,118,119,120,121,122,123,124,125,126,127,128,129,130,131,132,133,134,135,136,137,138,139,140,141,142,143,144,145,146,147,148] (fun n vals st=>(∃ y57,p_ref21_rises_l5  a0 x40 n y57=some o53∧vals=[.b false,.i y57]∧st=[.live [.i a0.Ver,.i a0.Floor,.sl (List.map ItemItem.v a0.Items) u1,.sl (List.map RosterGone.v a0.Gone) u2] 0,.live [.s x40.Contact,.i x40.Ver] 0])) fuel 2 [] (⟨_,HL54,rfl,rfl⟩) (Nat.zero_le _) rfl (by kernel_rfl) (by kernel_rfl) rfl ⟨⟨rfl,rfl,rfl⟩,⟨⟨rfl,rfl,rfl⟩,trivial⟩⟩ ?_
 rintro (_ | n56) _ _ (⟨y57,H,rfl,rfl⟩)
 ·rw [p_ref21_rises_l5] at H;cases H
 rw [p_ref21_rises_l5] at H
 conv=>whnf
 refine LenQ.M ?_;conv=>whnf
 refine tst_d H (fun b58 H=>?_) (fun b58 H=>?_)
 ·conv=>whnf
  obtain rfl:=Option.some.inj H
  have H:=HQ55
  try dsimp only at H
  refine Ari.w ?_;conv=>whnf
  exact again_c [8,9,10,11,66,67,68,69,70,71,72,73,74,75,76,77,78,79,80,81,82,83,84,85,86,87,88,89,90,91,92,93,94,95,96,97,98,99,100,101,102,103,104,105,106,107,108,109,110,111,112,113,114,115,116,117,118,119,120,121,122,123,124,125,126,127,128,129,130,131,132,133,134,135,136,137,138,139,140,141,142,143,144,145,146,147,148,149,150,13,64] n36 1 [] (⟨_,_,H,rfl,rfl⟩) (Nat.lt_succ_self _) (Nat.zero_le _) rfl (by kernel_rfl) (by kernel_rfl) rfl ⟨⟨rfl,rfl,rfl⟩,trivial⟩
 conv=>whnf
 refine ixs_c (f:=ItemItem.v) H (fun _=>rfl) (fun x59 H=>?_);conv=>whnf
 refine lq_ ?_;conv=>whnf
 refine tst_d H (fun b60 H=>?_) (fun b60 H=>?_)
 ·conv=>whnf
  iterate 11 (refine Tst.F ?_;conv=>whnf)
  refine Tst.isF b60 ?_;conv=>whnf
  iterate 10 (refine Tst.F ?_;conv=>whnf)
  refine tst_d H (fun b66 H=>?_) (fun b66 H=>?_)
  ·conv=>whnf
   iterate 5 (refine Tst.F ?_;conv=>whnf)
   refine Ari.w ?_;conv=>whnf
   exact again_c [11,103,104,105,106,107,108,109,110,111,112,113,114,115,116,117,118,119,120,121,122,123,124,125,126,127,128,129,130,131,132,133,134,135,136,137,138,139,140,141,142,143,144,145,146,147,148] n56 2 [] (⟨_,H,rfl,rfl⟩) (Nat.lt_succ_self _) (Nat.zero_le _) rfl (by kernel_rfl) (by kernel_rfl) rfl ⟨⟨rfl,rfl,rfl⟩,⟨⟨rfl,rfl,rfl⟩,trivial⟩⟩
  conv=>whnf
  refine Tst.T ?_;conv=>whnf
  refine ask_c (p_ref20_Listed_v _) H rfl rfl (fun v67 H=>?_);conv=>whnf
  refine Tst.F ?_;conv=>whnf
  refine Tst.T ?_;conv=>whnf
  refine Tst.F ?_;conv=>whnf
  refine tst_c H (fun b68 H=>?_) (fun b68 H=>?_)
  ·conv=>whnf
   obtain rfl:=Option.some.inj H
   have H:=HQ55
   try dsimp only at H
   obtain rfl:=Option.some.inj H
   have H:=HQ35
   try dsimp only at H
   exact fb_ H
  conv=>whnf
  refine Ari.w ?_;conv=>whnf
  exact again_c [11,103,104,105,106,107,108,109,110,111,112,113,114,115,116,117,118,119,120,121,122,123,124,125,126,127,128,129,130,131,132,133,134,135,136,137,138,139,140,141,142,143,144,145,146,147,148] n56 2 [] (⟨_,H,rfl,rfl⟩) (Nat.lt_succ_self _) (Nat.zero_le _) rfl (by kernel_rfl) (by kernel_rfl) rfl ⟨⟨rfl,rfl,rfl⟩,⟨⟨rfl,rfl,rfl⟩,trivial⟩⟩
 conv=>whnf
 iterate 5 (refine Tst.T ?_;conv=>whnf)
 refine Tst.not ?_
 refine tst_d H (fun b61 H=>?_) (fun b61 H=>?_)
 ·conv=>whnf
  iterate 16 (refine Tst.T ?_;conv=>whnf)
  obtain rfl:=Option.some.inj H
  have H:=HQ55
  try dsimp only at H
  obtain rfl:=Option.some.inj H
  have H:=HQ35
  try dsimp only at H
  exact fb_ H
 conv=>whnf
 iterate 5 (refine Tst.F ?_;conv=>whnf)
 refine Tst.isT b60 ?_;conv=>whnf
 refine Tst.T ?_;conv=>whnf
 refine ask_c (p_ref20_Listed_v _) H rfl rfl (fun v62 H=>?_);conv=>whnf
 refine Tst.F ?_;conv=>whnf
 refine Tst.T ?_;conv=>whnf
 refine Tst.F ?_;conv=>whnf
 refine tst_c H (fun b63 H=>?_) (fun b63 H=>?_)
 ·conv=>whnf
  iterate 8 (refine Tst.T ?_;conv=>whnf)
  obtain rfl:=Option.some.inj H
  have H:=HQ55
  try dsimp only at H
  obtain rfl:=Option.some.inj H
  have H:=HQ35
  try dsimp only at H
  exact fb_ H
 conv=>whnf
 iterate 5 (refine Tst.F ?_;conv=>whnf)
 refine Tst.isT b61 ?_;conv=>whnf
 refine Tst.T ?_;conv=>whnf
 refine ask_c (p_ref20_Listed_v _) H rfl rfl (fun v64 H=>?_);conv=>whnf
 refine Tst.F ?_;conv=>whnf
 refine Tst.T ?_;conv=>whnf
 refine Tst.F ?_;conv=>whnf
 refine tst_c H (fun b65 H=>?_) (fun b65 H=>?_)
 ·conv=>whnf
  obtain rfl:=Option.some.inj H
  have H:=HQ55
  try dsimp only at H
  obtain rfl:=Option.some.inj H
  have H:=HQ35
  try dsimp only at H
  exact fb_ H
 conv=>whnf
 refine Ari.w ?_;conv=>whnf
 exact again_c [11,103,104,105,106,107,108,109,110,111,112,113,114,115,116,117,118,119,120,121,122,123,124,125,126,127,128,129,130,131,132,133,134,135,136,137,138,139,140,141,142,143,144,145,146,147,148] n56 2 [] (⟨_,H,rfl,rfl⟩) (Nat.lt_succ_self _) (Nat.zero_le _) rfl (by kernel_rfl) (by kernel_rfl) rfl ⟨⟨rfl,rfl,rfl⟩,⟨⟨rfl,rfl,rfl⟩,trivial⟩⟩
end Go.Proofs.YtpmoioopjbfhkaaGreat

namespace Go.Proofs.YtpmoioopjbfhkaaGreat
open Go.RowKit
set_option maxRecDepth 100000
set_option maxHeartbeats 4000000
def gc111:BCode:=(.seq (R_ 1 [O_ 1 (.bx (t_ 0)) 0,O_ 2 (.mv (i_ 0)) 1]) (.seq (.block 0 (.seq (R_ 0 [O_ 5 (.fa 2 (t_ 1)) 0,O_ 6 (.ld 1 false (t_ 5)) 0,O_ 7 (.lens (t_ 6)) 0,O_ 8 (.bin .gtr (t_ 7) (i_ 12)) 0,O_ 9 (.mv (t_ 8)) 0,⟨(some 10),.fa 3 (t_ 1),(some (9,false)),0⟩,⟨(some 11),.ld 1 false (t_ 10),(some (9,false)),0⟩,⟨(some 12),.lens (t_ 11),(some (9,false)),0⟩,⟨(some 13),.bin .gtr (t_ 12) (i_ 8),(some (9,false)),0⟩,O_ 14 (.pick (t_ 9) (b_ true) (t_ 13)) 0,O_ 4 (.mv (t_ 14)) 0]) (.cond (t_ 4) (.seq (R_ 0 [O_ 2 (.mv (i_ 5)) 0]) .ret) (.seq (R_ 0 [O_ 16 (.fa 0 (t_ 1)) 0,O_ 17 (.ld 1 false (t_ 16)) 0,O_ 18 (.bin .lss (t_ 17) (i_ 0)) 0,O_ 19 (.mv (t_ 18)) 0,⟨(some 20),.fa 0 (t_ 1),(some (19,false)),0⟩,⟨(some 21),.ld 1 false (t_ 20),(some (19,false)),0⟩,⟨(some 22),.bin .gtr (t_ 21) (i_ 1099511627776),(some (19,false)),0⟩,O_ 23 (.pick (t_ 19) (b_ true) (t_ 22)) 0,O_ 24 (.mv (t_ 23)) 0,⟨(some 25),.fa 1 (t_ 1),(some (24,false)),0⟩,⟨(some 26),.ld 1 false (t_ 25),(some (24,false)),0⟩,⟨(some 27),.bin .lss (t_ 26) (i_ 0),(some (24,false)),0⟩,O_ 28 (.pick (t_ 24) (b_ true) (t_ 27)) 0,O_ 29 (.mv (t_ 28)) 0,⟨(some 30),.fa 1 (t_ 1),(some (29,false)),0⟩,⟨(some 31),.ld 1 false (t_ 30),(some (29,false)),0⟩,⟨(some 32),.fa 0 (t_ 1),(some (29,false)),0⟩,⟨(some 33),.ld 1 false (t_ 32),(some (29,false)),0⟩,⟨(some 34),.bin .gtr (t_ 31) (t_ 33),(some (29,false)),0⟩,O_ 35 (.pick (t_ 29) (b_ true) (t_ 34)) 0,O_ 15 (.mv (t_ 35)) 0]) (.cond (t_ 15) (.seq (R_ 0 [O_ 2 (.mv (i_ 8)) 0]) .ret) (.seq (R_ 0 [O_ 37 (.ld 4 true (t_ 1)) 0,O_ 38 (.cl 174 [(t_ 37)]) 0,O_ 39 (.bin .neq (t_ 38) (i_ 0)) 0,O_ 36 (.mv (t_ 39)) 0]) (.cond (t_ 36) (.seq (R_ 0 [O_ 40 (.ld 4 true (t_ 1)) 0,O_ 41 (.cl 174 [(t_ 40)]) 0,O_ 2 (.mv (t_ 41)) 0]) .ret) .skip))))))) (.seq (.seq (R_ 0 [O_ 3 (.mv (i_ 0)) 0]) (.block 1 (.loop (.seq (.seq (R_ 0 [O_ 42 (.mv (t_ 3)) 0,O_ 43 (.fa 3 (t_ 1)) 0,O_ 44 (.ld 1 false (t_ 43)) 0,O_ 45 (.lens (t_ 44)) 0,O_ 46 (.bin .lss (t_ 42) (t_ 45)) 0]) (.cond (t_ 46) .skip (.exit 1))) (.seq (.block 2 (.seq (R_ 0 [O_ 49 (.fa 3 (t_ 1)) 0,O_ 50 (.ld 1 false (t_ 49)) 0,O_ 51 (.mv (t_ 3)) 0,O_ 52 (.ixs 2 (t_ 50) (t_ 51)) 0,O_ 53 (.fa 0 (t_ 52)) 0,O_ 54 (.ld 1 false (t_ 53)) 0,O_ 55 (.cl 87 [(t_ 54)]) 0,O_ 56 (.un .not (t_ 55)) 0]) (.cond (t_ 56) (.seq (R_ 0 [O_ 2 (.mv (i_ 11)) 0]) .ret) .skip))) (R_ 0 [O_ 47 (.mv (t_ 3)) 0,O_ 48 (.bin .add (t_ 47) (i_ 1)) 0,O_ 3 (.mv (t_ 48)) 0])))))) (.seq (.seq (R_ 0 [O_ 57 (.ld 4 true (t_ 1)) 0,O_ 58 (.cl 175 [(t_ 57)]) 0,O_ 59 (.un .not (t_ 58)) 0]) (.cond (t_ 59) (.seq (R_ 0 [O_ 2 (.mv (i_ 10)) 0]) .ret) .skip)) (.seq (R_ 0 [O_ 2 (.mv (i_ 0)) 0]) .ret)))))
theorem gc111_ok:compF Tryz.prog Tryz.f111=some (gc111.er,60,[.tmp 2]):=by unfold gc111;kernel_rfl
theorem p_ref21_Check_v {u1 u2:Bool} (a0:RosterState):CallsO Tryz.prog 111 [.agg [.i a0.Ver,.i a0.Floor,.sl (List.map ItemItem.v a0.Items) u1,.sl (List.map RosterGone.v a0.Gone) u2]] V.i (p_ref21_Check a0):=by
 refine callsO_comp mix Tryz.func111 gc111_ok fun r H=>?_
 rw [p_ref21_Check] at H
 conv=>whnf
 refine LenQ.M ?_;conv=>whnf
 refine tst_c H (fun b1 H=>?_) (fun b1 H=>?_)
 ·conv=>whnf
  iterate 5 (refine Tst.T ?_;conv=>whnf)
  exact fi_ H
 conv=>whnf
 iterate 2 (refine Tst.F ?_;conv=>whnf)
 refine LenQ.M ?_;conv=>whnf
 iterate 2 (refine Tst.F ?_;conv=>whnf)
 refine tst_c H (fun b2 H=>?_) (fun b2 H=>?_)
 ·conv=>whnf
  exact fi_ H
 conv=>whnf
 refine tst_c H (fun b3 H=>?_) (fun b3 H=>?_)
 ·conv=>whnf
  iterate 14 (refine Tst.T ?_;conv=>whnf)
  exact fi_ H
 conv=>whnf
 iterate 3 (refine Tst.F ?_;conv=>whnf)
 refine tst_c H (fun b4 H=>?_) (fun b4 H=>?_)
 ·conv=>whnf
  iterate 10 (refine Tst.T ?_;conv=>whnf)
  exact fi_ H
 conv=>whnf
 iterate 3 (refine Tst.F ?_;conv=>whnf)
 refine tst_c H (fun b5 H=>?_) (fun b5 H=>?_)
 ·conv=>whnf
  iterate 6 (refine Tst.T ?_;conv=>whnf)
  exact fi_ H
 conv=>whnf
 iterate 5 (refine Tst.F ?_;conv=>whnf)
 refine tst_c H (fun b6 H=>?_) (fun b6 H=>?_)
 ·conv=>whnf
  exact fi_ H
 conv=>whnf
 refine ask_c (p_ref21_items_v _) H rfl rfl (fun v7 H=>?_);conv=>whnf
 refine tst_c H (fun b8 H=>?_) (fun b8 H=>?_)
 ·conv=>whnf
  refine ask_c (p_ref21_items_v _) H rfl rfl (fun v9 H=>?_);conv=>whnf
  exact fi_ H
 conv=>whnf
 obtain ⟨o11,HL12,HQ13⟩:=bind_c H
 refine loop_c [2,3] [42,43,44,45,46,47,48,49,50,51,52,53,54,55,56,5,10,16,20,25,30,32] [42,43,44,45,46,47,48,49,50,51,52,53,54,55,56,5,10,16,20,25,30,32] (fun n vals st=>(∃ y15,p_ref21_Check_l1  a0 n y15=some o11∧vals=[.i (0:Int),.i y15]∧st=[.live [.i a0.Ver,.i a0.Floor,.sl (List.map ItemItem.v a0.Items) u1,.sl (List.map RosterGone.v a0.Gone) u2] 0])) fuel 1 [] (⟨_,HL12,rfl,rfl⟩) (Nat.zero_le _) rfl (by kernel_rfl) (by kernel_rfl) rfl ⟨⟨rfl,rfl,rfl⟩,trivial⟩ ?_
 rintro (_ | n14) _ _ (⟨y15,H,rfl,rfl⟩)
 ·rw [p_ref21_Check_l1] at H;cases H
 rw [p_ref21_Check_l1] at H
 conv=>whnf
 refine LenQ.M ?_;conv=>whnf
 refine tst_d H (fun b16 H=>?_) (fun b16 H=>?_)
 ·conv=>whnf
  obtain rfl:=Option.some.inj H
  have H:=HQ13
  try dsimp only at H
  refine ask_c (p_ref21_rises_v _) H rfl rfl (fun v20 H=>?_);conv=>whnf
  refine Tst.not ?_
  refine tst_c H (fun b21 H=>?_) (fun b21 H=>?_)
  ·conv=>whnf
   exact fi_ H
  conv=>whnf
  exact fi_ H
 conv=>whnf
 refine ixs_c (f:=RosterGone.v) H (fun _=>rfl) (fun x17 H=>?_);conv=>whnf
 refine lq_ ?_;conv=>whnf
 refine ask_c (p_ref09_IsBare_v _) H rfl rfl (fun v18 H=>?_);conv=>whnf
 refine Tst.not ?_
 refine tst_d H (fun b19 H=>?_) (fun b19 H=>?_)
 ·conv=>whnf
  obtain rfl:=Option.some.inj H
  have H:=HQ13
  try dsimp only at H
  exact fi_ H
 conv=>whnf
 refine Ari.w ?_;conv=>whnf
 exact again_c [42,43,44,45,46,47,48,49,50,51,52,53,54,55,56,5,10,16,20,25,30,32] n14 1 [] (⟨_,H,rfl,rfl⟩) (Nat.lt_succ_self _) (Nat.zero_le _) rfl (by kernel_rfl) (by kernel_rfl) rfl ⟨⟨rfl,rfl,rfl⟩,trivial⟩
end Go.Proofs.YtpmoioopjbfhkaaGreat

namespace Go.Proofs.YtpmoioopjbfhkaaGreat
open Go.RowKit
set_option maxRecDepth 100000
set_option maxHeartbeats 4000000
def gc131:BCode:=(.seq (R_ 3 [O_ 4 (.bx (t_ 0)) 0,O_ 5 (.bx (t_ 1)) 1,O_ 8 (.al (.agg [(.lit (.int .i64 0)),(.lit (.int .i64 0)),(.sl [] true),(.sl [] true),(.lit (.int .i64 0)),(.lit (.int .i64 0)),(.sl [] true),(.sl [] true)])) 2,O_ 9 (.mv (i_ 0)) 3]) (.seq (R_ 1 [O_ 14 (.fa 0 (t_ 4)) 0,O_ 15 (.ld 4 true (t_ 14)) 0,O_ 16 (.fa 1 (t_ 5)) 0,O_ 17 (.ld 1 false (t_ 16)) 0,O_ 18 (.mv (t_ 2)) 0,O_ 19 (.cl 41 [(t_ 15),(t_ 17),(t_ 18)]) 0,O_ 13 (.mv (t_ 19)) 0,O_ 20 (.ex (t_ 13) 0) 0,O_ 21 (.ex (t_ 13) 1) 0,O_ 10 (.al (.agg [(.lit (.int .i64 0)),(.lit (.int .i64 0)),(.sl [] true),(.sl [] true)])) 0,U_ (.st 4 (t_ 10) (t_ 20)) 1,O_ 11 (.mv (t_ 21)) 1]) (.seq (.seq (R_ 0 [O_ 22 (.mv (t_ 11)) 0,O_ 23 (.bin .neq (t_ 22) (i_ 0)) 0]) (.cond (t_ 23) (.seq (R_ 0 [O_ 24 (.ld 8 true (t_ 4)) 0,O_ 25 (.mv (t_ 11)) 0,U_ (.st 8 (t_ 8) (t_ 24)) 0,O_ 9 (.mv (t_ 25)) 0]) .ret) .skip)) (.seq (R_ 1 [O_ 27 (.fa 4 (t_ 4)) 0,O_ 28 (.ld 4 true (t_ 27)) 0,O_ 29 (.fa 0 (t_ 5)) 0,O_ 30 (.ld 1 false (t_ 29)) 0,O_ 31 (.mv (t_ 3)) 0,O_ 32 (.cl 41 [(t_ 28),(t_ 30),(t_ 31)]) 0,O_ 26 (.mv (t_ 32)) 0,O_ 33 (.ex (t_ 26) 0) 0,O_ 34 (.ex (t_ 26) 1) 0,O_ 12 (.al (.agg [(.lit (.int .i64 0)),(.lit (.int .i64 0)),(.sl [] true),(.sl [] true)])) 0,U_ (.st 4 (t_ 12) (t_ 33)) 1,O_ 11 (.mv (t_ 34)) 1]) (.seq (.seq (R_ 0 [O_ 35 (.mv (t_ 11)) 0,O_ 36 (.bin .neq (t_ 35) (i_ 0)) 0]) (.cond (t_ 36) (.seq (R_ 0 [O_ 37 (.ld 8 true (t_ 4)) 0,O_ 38 (.mv (t_ 11)) 0,U_ (.st 8 (t_ 8) (t_ 37)) 0,O_ 9 (.mv (t_ 38)) 0]) .ret) .skip)) (.seq (R_ 0 [O_ 39 (.ld 4 true (t_ 10)) 0,O_ 40 (.ld 4 true (t_ 12)) 0,O_ 41 (.bd [(.lit (.int .i64 0)),(.lit (.int .i64 0)),(.sl [] true),(.sl [] true),(.lit (.int .i64 0)),(.lit (.int .i64 0)),(.sl [] true),(.sl [] true)] [(0,4,(t_ 39)),(4,4,(t_ 40))]) 0,U_ (.st 8 (t_ 8) (t_ 41)) 0,O_ 9 (.mv (i_ 0)) 0]) .ret))))))
theorem gc131_ok:compF Tryz.prog Tryz.f131=some (gc131.er,42,[.cell 8 8 true,.tmp 9]):=by unfold gc131;kernel_rfl
theorem p_pair_State_set_v {u1 u2 u3 u4:Bool} (a0:Ref22State) (a1:Ref22Names) (a2:Int) (a3:Int):CallsO Tryz.prog 131 [.agg [.i a0.A.Ver,.i a0.A.Floor,.sl (List.map ItemItem.v a0.A.Items) u1,.sl (List.map RosterGone.v a0.A.Gone) u2,.i a0.B.Ver,.i a0.B.Floor,.sl (List.map ItemItem.v a0.B.Items) u3,.sl (List.map RosterGone.v a0.B.Gone) u4],.agg [.s a1.A,.s a1.B],.i a2,.i a3] (fun r:Ref22State × Int=>.tup [Ref22State.v r.1,V.i r.2]) (p_pair_State_set a0 a1 a2 a3):=by
 refine callsO_comp mix Tryz.func131 gc131_ok fun r H=>?_
 rw [p_pair_State_set] at H
 conv=>whnf
 refine ask_c (p_roster_Sub_v _ _ _) H rfl rfl (fun v1 H=>?_);conv=>whnf
 refine lq_ ?_;conv=>whnf
 refine tst_c H (fun b2 H=>?_) (fun b2 H=>?_)
 ·conv=>whnf
  refine lq_ ?_;conv=>whnf
  refine finR_c (enc:=(fun r:Ref22State × Int=>.tup [Ref22State.v r.1,V.i r.2])) H ?_;conv=>whnf
  exact ⟨_,.tup (.cons (fzagg (.cons (.id rfl) (.cons (.id rfl) (.cons (.slw) (.cons (.slw) (.cons (.id rfl) (.cons (.id rfl) (.cons (.slw) (.cons (.slw) (.nil))))))))) rfl) (.cons (.c (.id rfl)) (.nil)))⟩
 conv=>whnf
 refine ask_c (p_roster_Sub_v _ _ _) H rfl rfl (fun v3 H=>?_);conv=>whnf
 refine lq_ ?_;conv=>whnf
 refine tst_d H (fun b4 H=>?_) (fun b4 H=>?_)
 ·conv=>whnf
  refine lq_ ?_;conv=>whnf
  exact fin0_c (enc:=(fun r:Ref22State × Int=>.tup [Ref22State.v r.1,V.i r.2])) H (.inr rfl) (.cons (.cell rfl rfl (Nat.le_of_ble_eq_true rfl)) (.cons (.tmp rfl) (.nil))) rfl rfl
 conv=>whnf
 refine lq_ ?_;conv=>whnf
 refine finR_c (enc:=(fun r:Ref22State × Int=>.tup [Ref22State.v r.1,V.i r.2])) H ?_;conv=>whnf
 exact ⟨_,.tup (.cons (fzagg (.cons (.id rfl) (.cons (.id rfl) (.cons (.slw) (.cons (.slw) (.cons (.id rfl) (.cons (.id rfl) (.cons (.slw) (.cons (.slw) (.nil))))))))) rfl) (.cons (.c (.id rfl)) (.nil)))⟩
def gc56:BCode:=(.seq (R_ 4 [O_ 3 (.bx (t_ 0)) 0,O_ 4 (.bx (t_ 1)) 1,O_ 6 (.al (.agg [(.lit (.int .i64 0)),(.lit (.int .i64 0)),(.sl [] true),(.sl [] true),(.lit (.int .i64 0)),(.lit (.int .i64 0)),(.sl [] true),(.sl [] true)])) 2,O_ 7 (.al (.agg [(.lit (.bool false)),(.lit (.bool false)),(.lit (.bool false)),(.lit (.bool false))])) 3,O_ 8 (.mv (i_ 0)) 4]) (.seq (.seq (R_ 0 [O_ 16 (.ld 2 true (t_ 3)) 0,O_ 17 (.ld 8 true (t_ 4)) 0,O_ 18 (.cl 64 [(t_ 16),(t_ 17)]) 0,O_ 9 (.mv (t_ 18)) 0]) (.seq (R_ 0 [O_ 19 (.mv (t_ 9)) 0,O_ 20 (.bin .neq (t_ 19) (i_ 0)) 0]) (.cond (t_ 20) (.seq (R_ 0 [O_ 21 (.ld 8 true (t_ 4)) 0,O_ 22 (.bd [(.lit (.bool false)),(.lit (.bool false)),(.lit (.bool false)),(.lit (.bool false))] []) 0,O_ 23 (.mv (t_ 9)) 0,U_ (.st 8 (t_ 6) (t_ 21)) 0,U_ (.st 4 (t_ 7) (t_ 22)) 0,O_ 8 (.mv (t_ 23)) 0]) .ret) .skip))) (.seq (.seq (R_ 0 [O_ 24 (.mv (t_ 2)) 0,O_ 25 (.cl 125 [(t_ 24)]) 0,O_ 26 (.un .not (t_ 25)) 0]) (.cond (t_ 26) (.seq (R_ 0 [O_ 27 (.ld 8 true (t_ 4)) 0,O_ 28 (.bd [(.lit (.bool false)),(.lit (.bool false)),(.lit (.bool false)),(.lit (.bool false))] []) 0,U_ (.st 8 (t_ 6) (t_ 27)) 0,U_ (.st 4 (t_ 7) (t_ 28)) 0,O_ 8 (.mv (i_ 12)) 0]) .ret) .skip)) (.seq (R_ 0 [O_ 30 (.ld 8 true (t_ 4)) 0,O_ 31 (.ld 2 true (t_ 3)) 0,O_ 32 (.cl 127 [(t_ 30),(t_ 31)]) 0,O_ 33 (.mv (t_ 2)) 0,O_ 34 (.cl 126 [(t_ 32),(t_ 33)]) 0,O_ 29 (.mv (t_ 34)) 0,O_ 35 (.ex (t_ 29) 0) 0,O_ 36 (.ex (t_ 29) 1) 0,O_ 10 (.mv (t_ 35)) 0,O_ 11 (.mv (t_ 36)) 0]) (.seq (.reg 0 [O_ 37 (.ld 8 true (t_ 4)) 0,O_ 38 (.cl 128 [(t_ 37)]) 0,O_ 39 (.ld 2 true (t_ 3)) 0,O_ 40 (.cl 129 [(t_ 39)]) 0,O_ 41 (.cl 127 [(t_ 38),(t_ 40)]) 0,O_ 12 (.mv (t_ 41)) 0,O_ 13 (.mv (b_ false)) 0] (some [[],[0],[],[0,1,2],[2,3,0,1],[1,0,3,2,4],[4,2,3,0,1,5]]) 0 []) (.seq (.seq (R_ 0 [O_ 42 (.mv (t_ 11)) 0]) (.cond (t_ 42) (R_ 0 [O_ 44 (.mv (t_ 12)) 0,O_ 45 (.mv (t_ 2)) 0,O_ 46 (.cl 130 [(t_ 44),(t_ 45)]) 0,O_ 43 (.mv (t_ 46)) 0,O_ 47 (.ex (t_ 43) 0) 0,O_ 48 (.ex (t_ 43) 1) 0,O_ 12 (.mv (t_ 47)) 0,O_ 13 (.mv (t_ 48)) 0]) .skip)) (.seq (R_ 1 [O_ 50 (.ld 8 true (t_ 4)) 0,O_ 51 (.ld 2 true (t_ 3)) 0,O_ 52 (.mv (t_ 10)) 0,O_ 53 (.mv (t_ 12)) 0,O_ 54 (.cl 131 [(t_ 50),(t_ 51),(t_ 52),(t_ 53)]) 0,O_ 49 (.mv (t_ 54)) 0,O_ 55 (.ex (t_ 49) 0) 0,O_ 56 (.ex (t_ 49) 1) 0,O_ 14 (.al (.agg [(.lit (.int .i64 0)),(.lit (.int .i64 0)),(.sl [] true),(.sl [] true),(.lit (.int .i64 0)),(.lit (.int .i64 0)),(.sl [] true),(.sl [] true)])) 0,U_ (.st 8 (t_ 14) (t_ 55)) 1,O_ 15 (.mv (t_ 56)) 1]) (.seq (.seq (R_ 0 [O_ 57 (.mv (t_ 15)) 0,O_ 58 (.bin .neq (t_ 57) (i_ 0)) 0]) (.cond (t_ 58) (.seq (R_ 0 [O_ 59 (.ld 8 true (t_ 4)) 0,O_ 60 (.bd [(.lit (.bool false)),(.lit (.bool false)),(.lit (.bool false)),(.lit (.bool false))] []) 0,O_ 61 (.mv (t_ 15)) 0,U_ (.st 8 (t_ 6) (t_ 59)) 0,U_ (.st 4 (t_ 7) (t_ 60)) 0,O_ 8 (.mv (t_ 61)) 0]) .ret) .skip)) (.seq (.reg 0 [O_ 62 (.ld 8 true (t_ 14)) 0,O_ 63 (.mv (t_ 11)) 0,O_ 64 (.mv (t_ 13)) 0,O_ 65 (.fa 0 (t_ 14)) 0,O_ 66 (.fa 0 (t_ 65)) 0,O_ 67 (.ld 1 false (t_ 66)) 0,O_ 68 (.fa 0 (t_ 4)) 0,O_ 69 (.fa 0 (t_ 68)) 0,O_ 70 (.ld 1 false (t_ 69)) 0,O_ 71 (.bin .neq (t_ 67) (t_ 70)) 0,O_ 72 (.fa 4 (t_ 14)) 0,O_ 73 (.fa 0 (t_ 72)) 0,O_ 74 (.ld 1 false (t_ 73)) 0,O_ 75 (.fa 4 (t_ 4)) 0,O_ 76 (.fa 0 (t_ 75)) 0,O_ 77 (.ld 1 false (t_ 76)) 0,O_ 78 (.bin .neq (t_ 74) (t_ 77)) 0,O_ 79 (.bd [(.lit (.bool false)),(.lit (.bool false)),(.lit (.bool false)),(.lit (.bool false))] [(0,1,(t_ 63)),(1,1,(t_ 64)),(2,1,(t_ 71)),(3,1,(t_ 78))]) 0,U_ (.st 8 (t_ 6) (t_ 62)) 0,U_ (.st 4 (t_ 7) (t_ 79)) 0,O_ 8 (.mv (i_ 0)) 0] (some [[],[],[],[],[3],[3,4],[],[6],[6,7],[7,6,8,4,3,5],[],[10],[10,11],[],[13],[13,14],[14,13,15,11,10,12],[12,10,11,15,13,14,16,5,3,4,8,6,7,9,2,1],[0],[0,18,1,2,9,7,6,8,4,3,5,16,14,13,15,11,10,12,17],[17,12,10,11,15,13,14,16,5,3,4,8,6,7,9,2,1,18,0,19]]) 0 []) .ret)))))))))
theorem gc56_ok:compF Tryz.prog Tryz.f56=some (gc56.er,80,[.cell 6 8 true,.cell 7 4 true,.tmp 8]):=by unfold gc56;kernel_rfl
theorem p_pair_Say_v {u1 u2 u3 u4:Bool} (a0:Ref22Names) (a1:Ref22State) (a2:Int):CallsO Tryz.prog 56 [.agg [.s a0.A,.s a0.B],.agg [.i a1.A.Ver,.i a1.A.Floor,.sl (List.map ItemItem.v a1.A.Items) u1,.sl (List.map RosterGone.v a1.A.Gone) u2,.i a1.B.Ver,.i a1.B.Floor,.sl (List.map ItemItem.v a1.B.Items) u3,.sl (List.map RosterGone.v a1.B.Gone) u4],.y8 a2] (fun r:Ref22State × PairDone × Int=>.tup [Ref22State.v r.1,PairDone.v r.2.1,V.i r.2.2]) (p_pair_Say a0 a1 a2):=by
 refine callsO_comp mix Tryz.func56 gc56_ok fun r H=>?_
 rw [p_pair_Say] at H
 conv=>whnf
 refine ask_c (p_pair_Check_v _ _) H rfl rfl (fun v1 H=>?_);conv=>whnf
 refine tst_c H (fun b2 H=>?_) (fun b2 H=>?_)
 ·conv=>whnf
  refine lq_ ?_;conv=>whnf
  refine lq_ ?_;conv=>whnf
  refine finR_c (enc:=(fun r:Ref22State × PairDone × Int=>.tup [Ref22State.v r.1,PairDone.v r.2.1,V.i r.2.2])) H ?_;conv=>whnf
  exact ⟨_,.tup (.cons (fzagg (.cons (.id rfl) (.cons (.id rfl) (.cons (.slw) (.cons (.slw) (.cons (.id rfl) (.cons (.id rfl) (.cons (.slw) (.cons (.slw) (.nil))))))))) rfl) (.cons (fzagg (.cons (.id rfl) (.cons (.id rfl) (.cons (.id rfl) (.cons (.id rfl) (.nil))))) rfl) (.cons (.c (.id rfl)) (.nil))))⟩
 conv=>whnf
 refine ask_c (p_pair_said_v _) H rfl rfl (fun v3 H=>?_);conv=>whnf
 refine Tst.not ?_
 refine tst_d H (fun b4 H=>?_) (fun b4 H=>?_)
 ·conv=>whnf
  refine lq_ ?_;conv=>whnf
  refine lq_ ?_;conv=>whnf
  refine finR_c (enc:=(fun r:Ref22State × PairDone × Int=>.tup [Ref22State.v r.1,PairDone.v r.2.1,V.i r.2.2])) H ?_;conv=>whnf
  exact ⟨_,.tup (.cons (fzagg (.cons (.id rfl) (.cons (.id rfl) (.cons (.slw) (.cons (.slw) (.cons (.id rfl) (.cons (.id rfl) (.cons (.slw) (.cons (.slw) (.nil))))))))) rfl) (.cons (fzagg (.cons (.id rfl) (.cons (.id rfl) (.cons (.id rfl) (.cons (.id rfl) (.nil))))) rfl) (.cons (.c (.id rfl)) (.nil))))⟩
 conv=>whnf
 refine ask_c (p_pair_State_has_v _ _) H rfl rfl (fun v5 H=>?_);conv=>whnf
 refine ask_c (p_subs_Out_v _ _) H rfl rfl (fun v6 H=>?_);conv=>whnf
 refine ask_c (p_pair_State_turn_v _) H rfl rfl (fun v7 H=>?_);conv=>whnf
 refine ask_c (p_pair_Names_turn_v _) H rfl rfl (fun v8 H=>?_);conv=>whnf
 refine ask_c (p_pair_State_has_v _ _) H rfl rfl (fun v9 H=>?_);conv=>whnf
 refine FootQ.mk ⟨rfl,?_⟩;conv=>whnf
 refine tst_d H (fun b10 H=>?_) (fun b10 H=>?_)
 ·conv=>whnf
  refine ask_c (p_pair_State_set_v _ _ _ _) H rfl rfl (fun v14 H=>?_);conv=>whnf
  refine lq_ ?_;conv=>whnf
  refine tst_d H (fun b15 H=>?_) (fun b15 H=>?_)
  ·conv=>whnf
   refine lq_ ?_;conv=>whnf
   refine lq_ ?_;conv=>whnf
   refine FootQ.mk ⟨rfl,?_⟩;conv=>whnf
   exact fin0_c (enc:=(fun r:Ref22State × PairDone × Int=>.tup [Ref22State.v r.1,PairDone.v r.2.1,V.i r.2.2])) H (.inr rfl) (.cons (.cell rfl rfl (Nat.le_of_ble_eq_true rfl)) (.cons (.cell rfl rfl (Nat.le_of_ble_eq_true rfl)) (.cons (.tmp rfl) (.nil)))) rfl rfl
  conv=>whnf
  refine lq_ ?_;conv=>whnf
  refine lq_ ?_;conv=>whnf
  refine finR_c (enc:=(fun r:Ref22State × PairDone × Int=>.tup [Ref22State.v r.1,PairDone.v r.2.1,V.i r.2.2])) H ?_;conv=>whnf
  exact ⟨_,.tup (.cons (fzagg (.cons (.id rfl) (.cons (.id rfl) (.cons (.slw) (.cons (.slw) (.cons (.id rfl) (.cons (.id rfl) (.cons (.slw) (.cons (.slw) (.nil))))))))) rfl) (.cons (fzagg (.cons (.id rfl) (.cons (.id rfl) (.cons (.id rfl) (.cons (.id rfl) (.nil))))) rfl) (.cons (.c (.id rfl)) (.nil))))⟩
 conv=>whnf
 refine ask_c (p_subs_In_v _ _) H rfl rfl (fun v11 H=>?_);conv=>whnf
 refine ask_c (p_pair_State_set_v _ _ _ _) H rfl rfl (fun v12 H=>?_);conv=>whnf
 refine lq_ ?_;conv=>whnf
 refine tst_d H (fun b13 H=>?_) (fun b13 H=>?_)
 ·conv=>whnf
  refine lq_ ?_;conv=>whnf
  refine lq_ ?_;conv=>whnf
  refine FootQ.mk ⟨rfl,?_⟩;conv=>whnf
  exact fin0_c (enc:=(fun r:Ref22State × PairDone × Int=>.tup [Ref22State.v r.1,PairDone.v r.2.1,V.i r.2.2])) H (.inr rfl) (.cons (.cell rfl rfl (Nat.le_of_ble_eq_true rfl)) (.cons (.cell rfl rfl (Nat.le_of_ble_eq_true rfl)) (.cons (.tmp rfl) (.nil)))) rfl rfl
 conv=>whnf
 refine lq_ ?_;conv=>whnf
 refine lq_ ?_;conv=>whnf
 refine finR_c (enc:=(fun r:Ref22State × PairDone × Int=>.tup [Ref22State.v r.1,PairDone.v r.2.1,V.i r.2.2])) H ?_;conv=>whnf
 exact ⟨_,.tup (.cons (fzagg (.cons (.id rfl) (.cons (.id rfl) (.cons (.slw) (.cons (.slw) (.cons (.id rfl) (.cons (.id rfl) (.cons (.slw) (.cons (.slw) (.nil))))))))) rfl) (.cons (fzagg (.cons (.id rfl) (.cons (.id rfl) (.cons (.id rfl) (.cons (.id rfl) (.nil))))) rfl) (.cons (.c (.id rfl)) (.nil))))⟩
def gc65:BCode:=(.seq (R_ 2 [O_ 2 (.bx (t_ 0)) 0,O_ 3 (.bx (t_ 1)) 1,O_ 4 (.mv (i_ 0)) 2]) (.seq (.block 0 (.seq (R_ 0 [O_ 6 (.fa 0 (t_ 2)) 0,O_ 7 (.ld 1 false (t_ 6)) 0,O_ 8 (.cl 87 [(t_ 7)]) 0,O_ 9 (.un .not (t_ 8)) 0,O_ 10 (.mv (t_ 9)) 0,⟨(some 11),.fa 1 (t_ 2),(some (10,false)),0⟩,⟨(some 12),.ld 1 false (t_ 11),(some (10,false)),0⟩,⟨(some 13),.cl 87 [(t_ 12)],(some (10,false)),0⟩,⟨(some 14),.un .not (t_ 13),(some (10,false)),0⟩,O_ 15 (.pick (t_ 10) (b_ true) (t_ 14)) 0,O_ 5 (.mv (t_ 15)) 0]) (.cond (t_ 5) (.seq (R_ 0 [O_ 4 (.mv (i_ 11)) 0]) .ret) (.seq (R_ 0 [O_ 17 (.fa 0 (t_ 2)) 0,O_ 18 (.ld 1 false (t_ 17)) 0,O_ 19 (.fa 1 (t_ 2)) 0,O_ 20 (.ld 1 false (t_ 19)) 0,O_ 21 (.bin .eql (t_ 18) (t_ 20)) 0,O_ 16 (.mv (t_ 21)) 0]) (.cond (t_ 16) (.seq (R_ 0 [O_ 4 (.mv (i_ 2)) 0]) .ret) (.seq (R_ 0 [O_ 23 (.fa 0 (t_ 3)) 0,O_ 24 (.ld 4 true (t_ 23)) 0,O_ 25 (.cl 111 [(t_ 24)]) 0,O_ 26 (.bin .neq (t_ 25) (i_ 0)) 0,O_ 22 (.mv (t_ 26)) 0]) (.cond (t_ 22) (.seq (R_ 0 [O_ 27 (.fa 0 (t_ 3)) 0,O_ 28 (.ld 4 true (t_ 27)) 0,O_ 29 (.cl 111 [(t_ 28)]) 0,O_ 4 (.mv (t_ 29)) 0]) .ret) .skip))))))) (.seq (R_ 0 [O_ 30 (.fa 4 (t_ 3)) 0,O_ 31 (.ld 4 true (t_ 30)) 0,O_ 32 (.cl 111 [(t_ 31)]) 0,O_ 4 (.mv (t_ 32)) 0]) .ret)))
theorem gc65_ok:compF Tryz.prog Tryz.f65=some (gc65.er,33,[.tmp 4]):=by unfold gc65;kernel_rfl
theorem p_ref22_Check_v {u1 u2 u3 u4:Bool} (a0:Ref22Names) (a1:Ref22State):CallsO Tryz.prog 65 [.agg [.s a0.A,.s a0.B],.agg [.i a1.A.Ver,.i a1.A.Floor,.sl (List.map ItemItem.v a1.A.Items) u1,.sl (List.map RosterGone.v a1.A.Gone) u2,.i a1.B.Ver,.i a1.B.Floor,.sl (List.map ItemItem.v a1.B.Items) u3,.sl (List.map RosterGone.v a1.B.Gone) u4]] V.i (p_ref22_Check a0 a1):=by
 refine callsO_comp mix Tryz.func65 gc65_ok fun r H=>?_
 rw [p_ref22_Check] at H
 conv=>whnf
 refine ask_c (p_ref09_IsBare_v _) H rfl rfl (fun v1 H=>?_);conv=>whnf
 refine Tst.not ?_
 refine tst_d H (fun b2 H=>?_) (fun b2 H=>?_)
 ·conv=>whnf
  iterate 5 (refine Tst.T ?_;conv=>whnf)
  exact fi_ H
 conv=>whnf
 iterate 2 (refine Tst.F ?_;conv=>whnf)
 refine ask_c (p_ref09_IsBare_v _) H rfl rfl (fun v3 H=>?_);conv=>whnf
 iterate 2 (refine Tst.F ?_;conv=>whnf)
 refine Tst.not ?_
 refine tst_d H (fun b4 H=>?_) (fun b4 H=>?_)
 ·conv=>whnf
  exact fi_ H
 conv=>whnf
 refine tst_c H (fun b5 H=>?_) (fun b5 H=>?_)
 ·conv=>whnf
  exact fi_ H
 conv=>whnf
 refine ask_c (p_ref21_Check_v _) H rfl rfl (fun v6 H=>?_);conv=>whnf
 refine tst_c H (fun b7 H=>?_) (fun b7 H=>?_)
 ·conv=>whnf
  refine ask_c (p_ref21_Check_v _) H rfl rfl (fun v8 H=>?_);conv=>whnf
  exact fi_ H
 conv=>whnf
 refine ask_c (p_ref21_Check_v _) H rfl rfl (fun v9 H=>?_);conv=>whnf
 exact fi_ H
def gc135:BCode:=(.seq (R_ 2 [O_ 2 (.bx (t_ 0)) 0,O_ 4 (.al (.agg [(.lit (.string ⟨#[]⟩)),(.lit (.string ⟨#[]⟩)),(.lit (.int .i64 0)),(.lit (.int .i64 0)),(.lit (.bool false))])) 1,O_ 5 (.mv (b_ false)) 2]) (.seq (R_ 0 [O_ 9 (.ld 4 true (t_ 2)) 0,O_ 10 (.mv (t_ 1)) 0,O_ 11 (.cl 110 [(t_ 9),(t_ 10)]) 0,O_ 8 (.mv (t_ 11)) 0,O_ 12 (.ex (t_ 8) 0) 0,O_ 13 (.ex (t_ 8) 1) 0,O_ 6 (.mv (t_ 12)) 0,O_ 7 (.mv (t_ 13)) 0]) (.seq (.seq (R_ 0 [O_ 14 (.ld 4 true (t_ 2)) 0,O_ 15 (.cl 111 [(t_ 14)]) 0,O_ 16 (.bin .neq (t_ 15) (i_ 0)) 0,O_ 17 (.mv (t_ 16)) 0,⟨(some 18),.mv (t_ 7),(some (17,false)),0⟩,⟨(some 19),.un .not (t_ 18),(some (17,false)),0⟩,O_ 20 (.pick (t_ 17) (b_ true) (t_ 19)) 0]) (.cond (t_ 20) (.seq (R_ 0 [O_ 21 (.bd [(.lit (.string ⟨#[]⟩)),(.lit (.string ⟨#[]⟩)),(.lit (.int .i64 0)),(.lit (.int .i64 0)),(.lit (.bool false))] []) 0,U_ (.st 5 (t_ 4) (t_ 21)) 0,O_ 5 (.mv (b_ false)) 0]) .ret) .skip)) (.seq (R_ 0 [O_ 22 (.fa 2 (t_ 2)) 0,O_ 23 (.ld 1 false (t_ 22)) 0,O_ 24 (.mv (t_ 6)) 0,O_ 25 (.ixs 5 (t_ 23) (t_ 24)) 0,O_ 26 (.ld 5 true (t_ 25)) 0,U_ (.st 5 (t_ 4) (t_ 26)) 0,O_ 5 (.mv (b_ true)) 0]) .ret))))
theorem gc135_ok:compF Tryz.prog Tryz.f135=some (gc135.er,27,[.cell 4 5 true,.tmp 5]):=by unfold gc135;kernel_rfl
theorem p_ref21_Find_v {u1 u2:Bool} (a0:RosterState) (a1:ByteArray):CallsO Tryz.prog 135 [.agg [.i a0.Ver,.i a0.Floor,.sl (List.map ItemItem.v a0.Items) u1,.sl (List.map RosterGone.v a0.Gone) u2],.s a1] (fun r:ItemItem × Bool=>.tup [ItemItem.v r.1,V.b r.2]) (p_ref21_Find a0 a1):=by
 refine callsO_comp mix Tryz.func135 gc135_ok fun r H=>?_
 rw [p_ref21_Find] at H
 conv=>whnf
 refine ask_c (p_ref21_place_v _ _) H rfl rfl (fun v1 H=>?_);conv=>whnf
 refine ask_c (p_ref21_Check_v _) H rfl rfl (fun v2 H=>?_);conv=>whnf
 refine tst_c H (fun b3 H=>?_) (fun b3 H=>?_)
 ·conv=>whnf
  iterate 3 (refine Tst.T ?_;conv=>whnf)
  refine lq_ ?_;conv=>whnf
  exact fin0_c (enc:=(fun r:ItemItem × Bool=>.tup [ItemItem.v r.1,V.b r.2])) H (.inr rfl) (.cons (.cell rfl rfl (Nat.le_of_ble_eq_true rfl)) (.cons (.tmp rfl) (.nil))) rfl rfl
 conv=>whnf
 iterate 2 (refine Tst.F ?_;conv=>whnf)
 refine Tst.not ?_
 refine tst_d H (fun b4 H=>?_) (fun b4 H=>?_)
 ·conv=>whnf
  refine lq_ ?_;conv=>whnf
  exact fin0_c (enc:=(fun r:ItemItem × Bool=>.tup [ItemItem.v r.1,V.b r.2])) H (.inr rfl) (.cons (.cell rfl rfl (Nat.le_of_ble_eq_true rfl)) (.cons (.tmp rfl) (.nil))) rfl rfl
 conv=>whnf
 refine ixs_c (f:=ItemItem.v) H (fun _=>rfl) (fun x5 H=>?_);conv=>whnf
 refine lq_ ?_;conv=>whnf
 exact fin0_c (enc:=(fun r:ItemItem × Bool=>.tup [ItemItem.v r.1,V.b r.2])) H (.inr rfl) (.cons (.cell rfl rfl (Nat.le_of_ble_eq_true rfl)) (.cons (.tmp rfl) (.nil))) rfl rfl
def gc132:BCode:=(.seq (R_ 1 [O_ 2 (.bx (t_ 0)) 0,O_ 4 (.mv (i_ 0)) 1]) (.seq (R_ 1 [O_ 8 (.ld 4 true (t_ 2)) 0,O_ 9 (.mv (t_ 1)) 0,O_ 10 (.cl 135 [(t_ 8),(t_ 9)]) 0,O_ 7 (.mv (t_ 10)) 0,O_ 11 (.ex (t_ 7) 0) 0,O_ 12 (.ex (t_ 7) 1) 0,O_ 5 (.al (.agg [(.lit (.string ⟨#[]⟩)),(.lit (.string ⟨#[]⟩)),(.lit (.int .i64 0)),(.lit (.int .i64 0)),(.lit (.bool false))])) 0,U_ (.st 5 (t_ 5) (t_ 11)) 1,O_ 6 (.mv (t_ 12)) 1]) (.seq (R_ 0 [O_ 13 (.fa 2 (t_ 5)) 0,O_ 14 (.ld 1 false (t_ 13)) 0,O_ 4 (.mv (t_ 14)) 0]) .ret)))
theorem gc132_ok:compF Tryz.prog Tryz.f132=some (gc132.er,15,[.tmp 4]):=by unfold gc132;kernel_rfl
theorem p_ref22_has_v {u1 u2:Bool} (a0:RosterState) (a1:ByteArray):CallsO Tryz.prog 132 [.agg [.i a0.Ver,.i a0.Floor,.sl (List.map ItemItem.v a0.Items) u1,.sl (List.map RosterGone.v a0.Gone) u2],.s a1] V.i (p_ref22_has a0 a1):=by
 refine callsO_comp mix Tryz.func132 gc132_ok fun r H=>?_
 rw [p_ref22_has] at H
 conv=>whnf
 refine ask_c (p_ref21_Find_v _ _) H rfl rfl (fun v1 H=>?_);conv=>whnf
 refine lq_ ?_;conv=>whnf
 exact fi_ H
def gc202:BCode:=(.seq (R_ 1 [O_ 1 (.bx (t_ 0)) 0,O_ 2 (.mv (i_ 0)) 1]) (.seq (R_ 0 [O_ 3 (.mv (i_ 0)) 0]) (.seq (.seq (R_ 0 [O_ 4 (.fa 0 (t_ 1)) 0,O_ 5 (.ld 1 false (t_ 4)) 0]) (.cond (t_ 5) (R_ 0 [O_ 6 (.mv (t_ 3)) 0,O_ 7 (.bin .add (t_ 6) (i_ 1)) 0,O_ 3 (.mv (t_ 7)) 0]) .skip)) (.seq (.seq (R_ 0 [O_ 8 (.fa 1 (t_ 1)) 0,O_ 9 (.ld 1 false (t_ 8)) 0]) (.cond (t_ 9) (R_ 0 [O_ 10 (.mv (t_ 3)) 0,O_ 11 (.bin .add (t_ 10) (i_ 2)) 0,O_ 3 (.mv (t_ 11)) 0]) .skip)) (.seq (.seq (R_ 0 [O_ 12 (.fa 2 (t_ 1)) 0,O_ 13 (.ld 1 false (t_ 12)) 0]) (.cond (t_ 13) (R_ 0 [O_ 14 (.mv (t_ 3)) 0,O_ 15 (.bin .add (t_ 14) (i_ 4)) 0,O_ 3 (.mv (t_ 15)) 0]) .skip)) (.seq (.seq (R_ 0 [O_ 16 (.fa 3 (t_ 1)) 0,O_ 17 (.ld 1 false (t_ 16)) 0]) (.cond (t_ 17) (R_ 0 [O_ 18 (.mv (t_ 3)) 0,O_ 19 (.bin .add (t_ 18) (i_ 8)) 0,O_ 3 (.mv (t_ 19)) 0]) .skip)) (.seq (R_ 0 [O_ 20 (.mv (t_ 3)) 0,O_ 2 (.mv (t_ 20)) 0]) .ret)))))))
theorem gc202_ok:compF Tryz.prog Tryz.f202=some (gc202.er,21,[.tmp 2]):=by unfold gc202;kernel_rfl
theorem p_ref19_sum_v (a0:Ref19Four):CallsO Tryz.prog 202 [.agg [.b a0.to,.b a0.from_,.b a0.ask,.b a0.wait]] V.i (p_ref19_sum a0):=by
 refine callsO_comp mix Tryz.func202 gc202_ok fun r H=>?_
 rw [p_ref19_sum] at H
 conv=>whnf
 refine tst_d H (fun b1 H=>?_) (fun b1 H=>?_)
 ·conv=>whnf
  refine tst_d H (fun b9 H=>?_) (fun b9 H=>?_)
  ·conv=>whnf
   refine tst_d H (fun b13 H=>?_) (fun b13 H=>?_)
   ·conv=>whnf
    refine tst_d H (fun b15 H=>?_) (fun b15 H=>?_)
    ·conv=>whnf
     exact fi_ H
    conv=>whnf
    refine Ari.w ?_;conv=>whnf
    exact fi_ H
   conv=>whnf
   refine Ari.w ?_;conv=>whnf
   refine tst_d H (fun b14 H=>?_) (fun b14 H=>?_)
   ·conv=>whnf
    exact fi_ H
   conv=>whnf
   refine Ari.w ?_;conv=>whnf
   exact fi_ H
  conv=>whnf
  refine Ari.w ?_;conv=>whnf
  refine tst_d H (fun b10 H=>?_) (fun b10 H=>?_)
  ·conv=>whnf
   refine tst_d H (fun b12 H=>?_) (fun b12 H=>?_)
   ·conv=>whnf
    exact fi_ H
   conv=>whnf
   refine Ari.w ?_;conv=>whnf
   exact fi_ H
  conv=>whnf
  refine Ari.w ?_;conv=>whnf
  refine tst_d H (fun b11 H=>?_) (fun b11 H=>?_)
  ·conv=>whnf
   exact fi_ H
  conv=>whnf
  refine Ari.w ?_;conv=>whnf
  exact fi_ H
 conv=>whnf
 refine Ari.w ?_;conv=>whnf
 refine tst_d H (fun b2 H=>?_) (fun b2 H=>?_)
 ·conv=>whnf
  refine tst_d H (fun b6 H=>?_) (fun b6 H=>?_)
  ·conv=>whnf
   refine tst_d H (fun b8 H=>?_) (fun b8 H=>?_)
   ·conv=>whnf
    exact fi_ H
   conv=>whnf
   refine Ari.w ?_;conv=>whnf
   exact fi_ H
  conv=>whnf
  refine Ari.w ?_;conv=>whnf
  refine tst_d H (fun b7 H=>?_) (fun b7 H=>?_)
  ·conv=>whnf
   exact fi_ H
  conv=>whnf
  refine Ari.w ?_;conv=>whnf
  exact fi_ H
 conv=>whnf
 refine Ari.w ?_;conv=>whnf
 refine tst_d H (fun b3 H=>?_) (fun b3 H=>?_)
 ·conv=>whnf
  refine tst_d H (fun b5 H=>?_) (fun b5 H=>?_)
  ·conv=>whnf
   exact fi_ H
  conv=>whnf
  refine Ari.w ?_;conv=>whnf
  exact fi_ H
 conv=>whnf
 refine Ari.w ?_;conv=>whnf
 refine tst_d H (fun b4 H=>?_) (fun b4 H=>?_)
 ·conv=>whnf
  exact fi_ H
 conv=>whnf
 refine Ari.w ?_;conv=>whnf
 exact fi_ H
end Go.Proofs.YtpmoioopjbfhkaaGreat

